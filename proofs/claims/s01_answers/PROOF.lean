import PyProof.Rows.All
import Wide.All
import OpenK.AllK
import Wide.FinOn
import PyProof.EqAt
import PyProof.EqKinds
import PyProof.TupleCall
import KE.DataMinMax
import Open.SpecLaws
import KE.OsGo
import HandS.ForSpec
import HandS.Comp
import HandS.Iter
import HandS.Walk
import HandS.ExcInit
import HandS.ExcField
import KE.SortData
import KE.KEqSeq
import PyFlatLaws
import PySem.Challenge.RW_shipmuster_s01_answers
set_option Elab.async false
set_option linter.all false
set_option maxRecDepth 100000
set_option maxHeartbeats 4000000
/-! # A muster by stations: the program against its specification, by hand over the layer HandS. Promises are told over the specification's own station; a station's own place among the news is the one thing in which the two part (telling), and nothing looks at it. -/
namespace Sm
open PySem PySem.Spec PyProof.Rows L2

/-! ### the text by places -/
def top (i : Nat) : Stmt := PySem.Challenge.pw_shipmuster_s01_answers.main.body.getD i (.Pass ⟨0, 0, 0, 0⟩)

/-! ### callees, bundled -/
/-- what the name x stands for: a def that keeps sp -/
def GFn (P : Program) (w : World) (K : PySem.W.Frag) (mg : Str → Option Value) (base : Heap) (CX : CXT) (k : Nat) (x : Str) (ps : List Str) (sp : Sp) : Prop :=
  ∃ f fd, FnOk P w K mg base CX k f fd ps sp ∧ mg x = some (.ref f) ∧ PySem.W.keepIn K (.ref f) = true ∧ Binds K fd ps []
/-- a method m of the class at C that keeps sp -/
def GMe (P : Program) (w : World) (K : PySem.W.Frag) (mg : Str → Option Value) (base : Heap) (CX : CXT) (k : Nat) (C : Addr) (m : Str) (ps : List Str) (sp : Sp) : Prop :=
  ∃ f fd, FnOk P w K mg base CX k f fd ps sp ∧ Meth K C m f ∧ Binds K fd ps []
/-- a class with an __init__ that keeps sp -/
def GMk (P : Program) (w : World) (K : PySem.W.Frag) (mg : Str → Option Value) (base : Heap) (k : Nat) (C : Addr) (x : Str) (ps : List Str) (sp : Sp) : Prop :=
  ∃ f fd, FnOk P w K mg base CX0 k f fd ps sp ∧ Mk K C f ∧ mg x = some (.ref C) ∧ Binds K fd ps []
/-- a whole number of the module -/
def Kon (mg : Str → Option Value) (x : Str) (i : Int) : Prop := ∃ t, mg x = some (.int i t)
section
variable {X : Cx} {CX : CXT} {k j : Nat} {C : Addr} {ps : List Str} {sp : Sp} {E : XK} {x m : Str} {p pos apos : Pos} {e o : Expr} {es : List Expr} {ta : TE} {t : TA} {i : Int}
theorem pe_k (h : Kon X.mg x i) (hg : Gl X x := by rfl) (hd : (x == ("__debug__" : Str)) = false := by decide) : PE X (.Name x pos) (tC (.int i)) := by
  obtain ⟨t, h⟩ := h
  exact pe_glob hg h ⟨t, rfl⟩ hd
theorem pe_gcall (G : GFn X.prog X.w X.K X.mg X.base CX j x ps sp) (hr : Room k X.A) (ha : PA X (e :: es) t) (hx : Passes CX X E) (hj : j ≤ k := by decide) (hg : Gl X x := by rfl)
    (hdb : (x == ("__debug__" : Str)) = false := by decide) (he : starEach (e :: es) X.env = (false, eval e X.env) :: starEach es X.env := by rfl) (hpl : (backTo pos (starEach es X.env)).any (·.1) = false := by rfl) :
    PE X (.Call (.Name x p) (e :: es) [] pos) (tCall sp [] E t) := by
  obtain ⟨f, fd, F, hm, hk, hb⟩ := G
  exact pe_call F (hr.mono hj) hg hm hk hb .nil hx ha hdb he hpl
theorem pe_gmeth {pl : Sem Bool} (c : Cls X.K C) (G : GMe X.prog X.w X.K X.mg X.base CX j C m ps sp) (hr : Room k X.A) (ho : PE X o ta) (ha : PA X (e :: es) t) (hx : Passes CX X E) (hj : j ≤ k := by decide)
    (hst : starEach (e :: es) X.env = (false, eval e X.env) :: starEach es X.env := by rfl) (hpl : (backTo pos (starEach es X.env)).any (·.1) = false := by rfl)
    (ht : eval (.Call (.Attribute o m apos) (e :: es) [] pos) X.env = (do
      let ov ← eval o X.env
      standAt apos.atName
      let (f, first) ← holding [ov] (getMethod ov m pl)
      callWith pos f first (backTo pos (starEach (e :: es) X.env)) (backToKw pos (keywordEach [] X.env))) := by rfl) :
    PE X (.Call (.Attribute o m apos) (e :: es) [] pos) (tMeth C m sp [] E ta t) := by
  obtain ⟨f, fd, F, hm, hb⟩ := G
  exact pe_meth ho c hm F (hr.mono hj) hb .nil hx ha hst hpl ht
theorem pe_gmeth0 {pl : Sem Bool} (c : Cls X.K C) (G : GMe X.prog X.w X.K X.mg X.base CX j C m ps sp) (hr : Room k X.A) (ho : PE X o ta) (hx : Passes CX X E) (hj : j ≤ k := by decide)
    (ht : eval (.Call (.Attribute o m apos) [] [] pos) X.env = (do
      let ov ← eval o X.env
      standAt apos.atName
      let (f, first) ← holding [ov] (getMethod ov m pl)
      callWith pos f first (backTo pos (starEach [] X.env)) (backToKw pos (keywordEach [] X.env))) := by rfl) :
    PE X (.Call (.Attribute o m apos) [] [] pos) (tMeth C m sp [] E ta tNil) := by
  obtain ⟨f, fd, F, hm, hb⟩ := G
  exact pe_meth0 ho c hm F (hr.mono hj) hb .nil hx ht
theorem pe_gmake (G : GMk X.prog X.w X.K X.mg X.base j C x ps sp) (hr : Room k X.A) (ha : PA X (e :: es) t) (hj : j + 1 ≤ k := by decide) (hg : Gl X x := by rfl)
    (hdb : (x == ("__debug__" : Str)) = false := by decide) (he : starEach (e :: es) X.env = (false, eval e X.env) :: starEach es X.env := by rfl) (hpl : (backTo pos (starEach es X.env)).any (·.1) = false := by rfl) :
    PE X (.Call (.Name x p) (e :: es) [] pos) (tMake C sp [] E0 t) := by
  obtain ⟨f, fd, F, M, hm, hb⟩ := G
  exact pe_make M F (hr.mono hj) hg hm hb .nil pass0 ha hdb he hpl
theorem pe_gmake0 (G : GMk X.prog X.w X.K X.mg X.base j C x ps sp) (hr : Room k X.A) (hj : j + 1 ≤ k := by decide) (hg : Gl X x := by rfl)
    (hdb : (x == ("__debug__" : Str)) = false := by decide) :
    PE X (.Call (.Name x p) [] [] pos) (tMake C sp [] E0 tNil) := by
  obtain ⟨f, fd, F, M, hm, hb⟩ := G
  exact pe_make0 M F (hr.mono hj) hg hm hb .nil pass0 hdb
end

/-! ### heaps -/
theorem same_new {H : Hp} {p : Addr} {o : HO} (h : H p = none) : Same H (upd H p o) := fun b x e => by
  rw [upd_ne (ne_of_none e h)]
  exact e
theorem snew {H H' : Hp} {p : Addr} {o : HO} (s : Same H H') (h : H' p = none) : Same H (upd H' p o) := s.trans (same_new h)
theorem sat {H H' : Hp} {p : Addr} {o : HO} (s : Same H H') (h : H p = some o) : H' p = some o := s _ _ h

/-- all but a is as it was -/
def But (a : Addr) (H H' : Hp) : Prop := ∀ b o, H b = some o → b ≠ a → H' b = some o
theorem But.refl (a : Addr) (H : Hp) : But a H H := fun _ _ e _ => e
theorem But.of {a : Addr} {H H' : Hp} (s : Same H H') : But a H H' := fun b o e _ => s b o e
theorem But.trans {a : Addr} {H H1 H2 : Hp} (x : But a H H1) (y : But a H1 H2) : But a H H2 := fun b o e n => y b o (x b o e n) n
theorem But.new {a p : Addr} {H H' : Hp} {o : HO} (x : But a H H') (n : H' p = none) : But a H (upd H' p o) := fun b u e ne => by
  have q := x b u e ne
  rw [upd_ne (ne_of_none q n)]
  exact q
theorem But.self {a : Addr} {H H' : Hp} {o : HO} (x : But a H H') : But a H (upd H' a o) := fun b u e ne => by
  rw [upd_ne ne]
  exact x b u e ne
theorem But.none {a p : Addr} {H H' : Hp} (x : But a H H') (n : H' p = none) (ne : p ≠ a) : H p = none := by
  cases e : H p with
  | none => rfl
  | some o =>
    rw [x p o e ne] at n
    cases n
/-- the heap behind a store at a, behind a new object at p: what is known of it -/
@[elab_as_elim] theorem gen_self {R : Hp → Prop} (H2 : Hp) (a : Addr) (o : HO) (k : ∀ H3, But a H2 H3 → H3 a = some o → R H3) : R (upd H2 a o) := k _ (But.refl a H2).self upd_same
@[elab_as_elim] theorem gen_new {R : Hp → Prop} (H2 : Hp) (p : Addr) (o : HO) (n : H2 p = none) (k : ∀ H3, Same H2 H3 → H3 p = some o → R H3) : R (upd H2 p o) := k _ (same_new n) upd_same

theorem le_line {n : Nat} (h : n ≤ 1000) : n ≤ sizeLine := Nat.le_of_lt (small1000 h)
/-! ### lists of numbers -/
def nI (l : List Nat) : List V := l.map fun (n : Nat) => V.int (n : Int)
theorem nI_length (l : List Nat) : (nI l).length = l.length := List.length_map ..
theorem nI_at {l : List Nat} {i : Nat} {n : Nat} (h : l[i]? = some n) : (nI l)[i]? = some (.int (n : Int)) := by
  unfold nI
  rw [List.getElem?_map, h]
  rfl
theorem nI_ints (l : List Nat) : nI l = (l.map fun (n : Nat) => (n : Int)).map V.int := by
  unfold nI
  rw [List.map_map]
  rfl
theorem nI_app (a b : List Nat) : nI (a ++ b) = nI a ++ nI b := List.map_append ..
theorem nI_some {l : List Nat} {i : Nat} {v : V} (h : (nI l)[i]? = some v) : ∃ n, l[i]? = some n ∧ v = .int (n : Int) := by
  unfold nI at h
  rw [List.getElem?_map] at h
  cases e : l[i]? with
  | none => rw [e] at h; cases h
  | some n => rw [e] at h; exact ⟨n, rfl, (Option.some.inj h).symm⟩
theorem nI_set (l : List Nat) (i n : Nat) : (nI l).set i (.int (n : Int)) = nI (l.set i n) := by
  unfold nI
  rw [List.map_set]

/-! ### slices at written places -/
theorem cut_from (xs : List V) (k : Nat) (h : k ≤ xs.length) : cutV xs (some (k : Int)) none = xs.drop k := by
  unfold cutV
  rw [HT.sIx_nat, HT.sIx_none, Nat.min_eq_left h]
  exact List.take_of_length_le (by rw [List.length_drop]; exact Nat.le_refl _)
theorem cut_mid (xs : List V) (j k : Nat) (h1 : j ≤ xs.length) (h2 : k ≤ xs.length) : cutV xs (some (j : Int)) (some (k : Int)) = (xs.drop j).take (k - j) := by
  unfold cutV
  rw [HT.sIx_nat, HT.sIx_nat, Nat.min_eq_left h1, Nat.min_eq_left h2]
theorem cut_to (xs : List V) (k : Nat) (h : k ≤ xs.length) : cutV xs none (some (k : Int)) = xs.take k := by
  unfold cutV
  rw [HT.sIx_nat, HT.sIx_none, Nat.min_eq_left h]
  rfl

/-! ### a comprehension that leaves all as it is; r: what it has made behind i items -/
theorem lc_run {J : It} {n : Nat} {G : Hp → Prop} {Y : Nat → Hp → V → Hp → Prop} (w : Walk J n G Y) {g : TG} {tt : TT} {te : TE} {vs : List Nat} {σ : L2.St} {H1 : Hp} {D : Addr} {Qd : Hp → Prop} (nD : H1 D = none)
    (hG : ∀ H, Same H1 H → G H) (r : Nat → List V) (r0 : r 0 = []) (hn : n ≤ 1000) (hl : ∀ i, i ≤ n → (r i).length ≤ i)
    (hs : ∀ i x H H' (Nx : Hp → Prop) (Ny : V → Hp → Prop), i < n → Same H1 H → H D = some (.lst (r i)) → Y i H x H' → (∀ H3, Same H H3 → r (i + 1) = r i → Nx H3) →
      (∀ y H4, Same H H4 → r (i + 1) = r i ++ [y] → Ny y H4) → g x (wipe σ vs) H' fun σ2 H2 => wipe σ2 vs = wipe σ vs ∧ tt σ2 H2 fun b H3 =>
      if b = true then te σ2 H3 Ny else Nx H3)
    (hd : ∀ H, Same H1 H → H D = some (.lst (r n)) → Qd H) :
    ∃ W : Nat → Nat → Hp → Prop, (∃ m, W 0 m (upd H1 D (.lst []))) ∧ ∀ i m H, W i m H →
      (J.stop i H ∧ Qd H) ∨ (J.go i H ∧ ∃ Nx : Hp → Prop, (∀ H', Nx H' → ∃ m', m' < m ∧ W (i + 1) m' H') ∧ ∀ x H', J.yld i H x H' → g x (wipe σ vs) H' fun σ2 H2 => wipe σ2 vs = wipe σ vs ∧ tt σ2 H2 fun b H3 =>
        if b = true then te σ2 H3 fun y H4 => ∃ acc, H4 D = some (.lst acc) ∧ acc.length < sizeLine ∧ Nx (upd H4 D (.lst (acc ++ [y]))) else Nx H3) := by
  refine lc_it w (fun i H => i ≤ n ∧ Same H1 H ∧ H D = some (.lst (r i))) ⟨Nat.zero_le _, same_new nD, by rw [r0]; exact upd_same⟩ (fun i H _ p => hG H p.2.1) (fun i x H H' hi p y => ?_) (fun H p => hd H p.2.1 p.2.2)
  obtain ⟨_, sm, hD⟩ := p
  refine hs i x H H' _ _ hi sm hD y (fun H3 s3 e => ⟨by omega, sm.trans s3, by rw [e]; exact s3 _ _ hD⟩) (fun y H4 s4 e => ?_)
  refine ⟨r i, s4 _ _ hD, small1000 (by have := hl i (by omega); omega), by omega, fun b o q => ?_, by rw [upd_same, e]⟩
  rw [upd_ne (ne_of_none q nD)]
  exact s4 _ _ (sm _ _ q)
end Sm
namespace Sm
open PySem PySem.Spec PyProof.Rows L2
section
variable {P : Program} {w : World} {K : PySem.W.Frag} {mg : Str → Option Value} {base : Heap} {f : Addr} {fd : FuncData}
/-! ### known_of, minute_of, place_of, is_known -/
abbrev sKnownOf : Stmt := top 6
abbrev sMinuteOf : Stmt := top 7
abbrev sPlaceOf : Stmt := top 8
abbrev sIsKnown : Stmt := top 9
theorem sc_known_of : FnScope ["minute", "place"] ["minute", "place"] (defScope sKnownOf) := ⟨rfl, rfl, rfl, by decide +kernel, rfl, by decide +kernel, by decide +kernel⟩
def spKnownOf : Sp := fun vs H Q _ => ∃ m p : Int, vs = [.int m, .int p] ∧ Q (.int (8 * m + p + 1)) H
theorem ok_known_of (F : Fun K "known_of" "known_of" sKnownOf f fd) (cB : Kon mg "BASE" 8) : FnOk P w K mg base CX0 1 f fd ["minute", "place"] spKnownOf := by
  refine F.ok sc_known_of (fun vs H Q E h => ?_) (fun cdv A outer s H vs Q E hr h => ?_)
  · obtain ⟨_, _, rfl, _⟩ := h
    rfl
  · obtain ⟨m, p, rfl, q⟩ := h
    refine ⟨_, pss_one (ps_ret (pe_op op_add (pe_op op_add (pe_op op_mul (pe_k cB) (pv 0)) (pv 1)) pe_int)), ?_⟩
    exact ⟨_, rfl, _, _, rfl, rfl, .inl ⟨by decide, by decide⟩, _, rfl, _, _, rfl, rfl, _, _, rfl, rfl, q⟩
theorem sc_minute_of : FnScope ["known"] ["known"] (defScope sMinuteOf) := ⟨rfl, rfl, rfl, by decide +kernel, rfl, by decide +kernel, by decide +kernel⟩
def spMinuteOf : Sp := fun vs H Q _ => ∃ n : Nat, vs = [.int (n : Int)] ∧ Q (.int ((n / 8 : Nat) : Int)) H
theorem ok_minute_of (F : Fun K "minute_of" "minute_of" sMinuteOf f fd) (cB : Kon mg "BASE" 8) : FnOk P w K mg base CX0 1 f fd ["known"] spMinuteOf := by
  refine F.ok sc_minute_of (fun vs H Q E h => ?_) (fun cdv A outer s H vs Q E hr h => ?_)
  · obtain ⟨_, rfl, _⟩ := h
    rfl
  · obtain ⟨n, rfl, q⟩ := h
    refine ⟨_, pss_one (ps_ret (pe_op op_fdiv (pv 0) (pe_k cB))), ?_⟩
    exact ⟨_, rfl, _, _, rfl, rfl, ⟨by decide, by decide⟩, q⟩
theorem sc_place_of : FnScope ["known"] ["known"] (defScope sPlaceOf) := ⟨rfl, rfl, rfl, by decide +kernel, rfl, by decide +kernel, by decide +kernel⟩
def spPlaceOf : Sp := fun vs H Q _ => ∃ n : Nat, vs = [.int (n : Int)] ∧ Q (.int (((n % 8 : Nat) : Int) - 1)) H
theorem ok_place_of (F : Fun K "place_of" "place_of" sPlaceOf f fd) (cB : Kon mg "BASE" 8) : FnOk P w K mg base CX0 1 f fd ["known"] spPlaceOf := by
  refine F.ok sc_place_of (fun vs H Q E h => ?_) (fun cdv A outer s H vs Q E hr h => ?_)
  · obtain ⟨_, rfl, _⟩ := h
    rfl
  · obtain ⟨n, rfl, q⟩ := h
    refine ⟨_, pss_one (ps_ret (pe_op op_sub (pe_op op_mod (pv 0) (pe_k cB)) pe_int)), ?_⟩
    exact ⟨_, rfl, _, _, rfl, rfl, (by show (0 : Int) < 8; decide), _, _, rfl, rfl, q⟩
/-- what may be known of a person -/
def okK (x : Nat) : Bool := x == 0 || (decide (1 ≤ x % 8) && (decide (x % 8 ≤ 5) && decide (x / 8 ≤ 100000)))
theorem sc_is_known : FnScope ["known"] ["known"] (defScope sIsKnown) := ⟨rfl, rfl, rfl, by decide +kernel, rfl, by decide +kernel, by decide +kernel⟩
def spIsKnown : Sp := fun vs H Q _ => ∃ n : Nat, vs = [.int (n : Int)] ∧ Q (.bl (okK n)) H
theorem ok_is_known (F : Fun K "is_known" "is_known" sIsKnown f fd) (cB : Kon mg "BASE" 8) (cS : Kon mg "STATIONS" 5) (cL : Kon mg "LAST_MINUTE" 100000) (Gm : GFn P w K mg base CX0 1 "minute_of" ["known"] spMinuteOf) :
    FnOk P w K mg base CX0 2 f fd ["known"] spIsKnown := by
  refine F.ok sc_is_known (fun vs H Q E h => ?_) (fun cdv A outer s H vs Q E hr h => ?_)
  · obtain ⟨_, rfl, _⟩ := h
    rfl
  · obtain ⟨n, rfl, q⟩ := h
    refine ⟨_, pss_one (ps_ret (pe_or (pe_cmpR op_eq (pv 0) pe_int (nomark _)) (pe_one (pe_and (pe_chain op_le op_le pe_int (pe_op op_mod (pv 0) (pe_k cB)) (pe_k cS))
      (pe_one (pe_cmpR op_le (pe_gcall Gm hr (pa_cons (pv 0) pa_nil) pass0) (pe_k cL) (nomark _))))))), ?_⟩
    have q' : ∀ b, okK n = b → Q (.bl b) H := fun b e => by rw [← e]; exact q
    refine ⟨_, rfl, rfl, _, rfl, ite2 (fun e => ?_) (fun e => ?_)⟩
    · have e1 : (n : Int) = 0 := V.int.inj (of_decide_eq_true e)
      exact q' true (by unfold okK; simp only [show (n == 0) = true by simp; omega, Bool.true_or])
    · have e1 : n ≠ 0 := fun z => e (decide_eq_true (by rw [z]; rfl))
      refine ⟨_, rfl, _, _, rfl, rfl, (by show (0 : Int) < 8; decide), _, _, rfl, rfl, _, rfl, ite2 (fun e2 => ?_) (fun e2 => ?_)⟩
      · have e2' : (1 : Int) ≤ (n : Int) % 8 := of_decide_eq_true e2
        refine ⟨_, _, rfl, rfl, _, rfl, ite2 (fun e3 => ?_) (fun e3 => ?_)⟩
        · have e3' : (n : Int) % 8 ≤ 5 := of_decide_eq_true e3
          refine ⟨_, rfl, n, rfl, _, _, rfl, rfl, q' _ ?_⟩
          unfold okK
          simp only [show (n == 0) = false by simp; omega, show decide (1 ≤ n % 8) = true by simp; omega, show decide (n % 8 ≤ 5) = true by simp; omega, Bool.false_or, Bool.true_and]
          exact decide_eq_decide.mpr (by omega)
        · have e3' : ¬ (n : Int) % 8 ≤ 5 := fun z => e3 (decide_eq_true z)
          refine q' _ ?_
          unfold okK
          simp only [show (n == 0) = false by simp; omega, show decide (n % 8 ≤ 5) = false by simp; omega, Bool.false_or, Bool.false_and, Bool.and_false]
      · have e2' : ¬ (1 : Int) ≤ (n : Int) % 8 := fun z => e2 (decide_eq_true z)
        refine ⟨_, rfl, iteF (q' _ ?_)⟩
        unfold okK
        simp only [show (n == 0) = false by simp; omega, show decide (1 ≤ n % 8) = false by simp; omega, Bool.false_or, Bool.false_and]
/-! ### drill_in, persons_in, news_in -/
abbrev sDrillIn : Stmt := top 10
abbrev sPersonsIn : Stmt := top 11
abbrev sNewsIn : Stmt := top 12
abbrev sIsGood : Stmt := top 13
theorem sc_drill_in : FnScope ["message"] ["message"] (defScope sDrillIn) := ⟨rfl, rfl, rfl, by decide +kernel, rfl, by decide +kernel, by decide +kernel⟩
theorem sc_persons_in : FnScope ["message"] ["message"] (defScope sPersonsIn) := ⟨rfl, rfl, rfl, by decide +kernel, rfl, by decide +kernel, by decide +kernel⟩
theorem sc_news_in : FnScope ["message"] ["message"] (defScope sNewsIn) := ⟨rfl, rfl, rfl, by decide +kernel, rfl, by decide +kernel, by decide +kernel⟩
def spDrillIn (K : PySem.W.Frag) : Sp := fun vs H Q _ => ∃ (b : Addr) (m : List Nat), vs = [.ref b] ∧ SqL K H b (nI m) ∧ m.length = 22 ∧ Q (.int ((m.getD 0 0 : Nat) : Int)) H
def spPersonsIn (K : PySem.W.Frag) : Sp := fun vs H Q _ => ∃ (b : Addr) (m : List Nat), vs = [.ref b] ∧ SqL K H b (nI m) ∧ m.length = 22 ∧ ∀ p, H p = none → Q (.ref p) (upd H p (.lst (nI ((m.drop 1).take 16))))
def spNewsIn (K : PySem.W.Frag) : Sp := fun vs H Q _ => ∃ (b : Addr) (m : List Nat), vs = [.ref b] ∧ SqL K H b (nI m) ∧ m.length = 22 ∧ ∀ p, H p = none → Q (.ref p) (upd H p (.lst (nI (m.drop 17))))
theorem getD_some {l : List Nat} {i : Nat} (h : i < l.length) : l[i]? = some (l.getD i 0) := by
  rw [List.getD_eq_getElem?_getD, List.getElem?_eq_getElem h]
  rfl
theorem ok_drill_in (F : Fun K "drill_in" "drill_in" sDrillIn f fd) : FnOk P w K mg base CX0 1 f fd ["message"] (spDrillIn K) := by
  refine F.ok sc_drill_in (fun vs H Q E h => ?_) (fun cdv A outer s H vs Q E hr h => ?_)
  · obtain ⟨_, _, rfl, _⟩ := h
    rfl
  · obtain ⟨b, m, rfl, hS, hl, q⟩ := h
    refine ⟨_, pss_one (ps_ret (pe_ix ix_list (pv 0) pe_int (fun _ _ => rfl))), ?_⟩
    exact ⟨_, rfl, b, _, 0, _, rfl, rfl, hS, atI_nat (j := 0) (nI_at (getD_some (by omega))), q⟩
theorem ok_persons_in (F : Fun K "persons_in" "persons_in" sPersonsIn f fd) (cP : Kon mg "PERSONS" 16) : FnOk P w K mg base CX0 1 f fd ["message"] (spPersonsIn K) := by
  refine F.ok sc_persons_in (fun vs H Q E h => ?_) (fun cdv A outer s H vs Q E hr h => ?_)
  · obtain ⟨_, _, rfl, _⟩ := h
    rfl
  · obtain ⟨b, m, rfl, hS, hl, q⟩ := h
    refine ⟨_, pss_one (ps_ret (pe_slice sl_list (pv 0) (po_some pe_int) (po_some (pe_op op_add pe_int (pe_k cP))))), ?_⟩
    refine ⟨_, rfl, _, rfl, _, _, rfl, rfl, _, rfl, b, _, rfl, hS, fun p hp => ?_⟩
    have e : cutV (nI m) (some 1) (some (1 + 16)) = nI ((m.drop 1).take 16) := by
      rw [show cutV (nI m) (some 1) (some (1 + 16)) = _ from cut_mid (nI m) 1 17 (by rw [nI_length]; omega) (by rw [nI_length]; omega)]
      unfold nI
      rw [List.map_take, List.map_drop]
    rw [e]
    exact q p hp
theorem ok_news_in (F : Fun K "news_in" "news_in" sNewsIn f fd) (cP : Kon mg "PERSONS" 16) : FnOk P w K mg base CX0 1 f fd ["message"] (spNewsIn K) := by
  refine F.ok sc_news_in (fun vs H Q E h => ?_) (fun cdv A outer s H vs Q E hr h => ?_)
  · obtain ⟨_, _, rfl, _⟩ := h
    rfl
  · obtain ⟨b, m, rfl, hS, hl, q⟩ := h
    refine ⟨_, pss_one (ps_ret (pe_slice sl_list (pv 0) (po_some (pe_op op_add pe_int (pe_k cP))) po_none)), ?_⟩
    refine ⟨_, rfl, _, _, rfl, rfl, _, rfl, b, _, rfl, hS, fun p hp => ?_⟩
    have e : cutV (nI m) (some (1 + 16)) none = nI (m.drop 17) := by
      rw [show cutV (nI m) (some (1 + 16)) none = _ from cut_from (nI m) 17 (by rw [nI_length]; omega)]
      unfold nI
      rw [List.map_drop]
    rw [e]
    exact q p hp
/-! ### is_good -/
theorem take_more {α : Type} {l : List α} {i : Nat} {x : α} (h : l[i]? = some x) : l.take (i + 1) = l.take i ++ [x] := by
  rw [List.take_add_one, h]
  rfl
def okM (x : Nat) : Bool := decide (x ≤ 100000)
def goodB (m : List Nat) : Bool := decide (1 ≤ m.getD 0 0) && (decide (m.getD 0 0 ≤ 1000) && (((m.drop 1).take 16).all okK && (m.drop 17).all okM))
theorem good_B {m : List Nat} (h : m.length = 22) : Km441.good m = goodB m := by
  unfold Km441.good
  rw [show (m.length == 1 + Km441.PERSONS + Km441.STATIONS) = true by rw [h]; rfl, Bool.true_and]
  rfl
theorem sc_is_good : FnScope ["message", "known", "minute"] ["message"] (defScope sIsGood) := ⟨rfl, rfl, rfl, by decide +kernel, rfl, by decide +kernel, by decide +kernel⟩
def spIsGood (K : PySem.W.Frag) : Sp := fun vs H Q _ => ∃ (b : Addr) (m : List Nat), vs = [.ref b] ∧ SqL K H b (nI m) ∧ m.length = 22 ∧ ∀ H', Same H H' → Q (.bl (Km441.good m)) H'
theorem all_take (l : List Nat) (p : Nat → Bool) : (l.take l.length).map (fun n => V.bl (p n)) = (l.map p).map V.bl := by
  rw [List.take_length, List.map_map]
  rfl
theorem ok_is_good (F : Fun K "is_good" "is_good" sIsGood f fd) (cD : Kon mg "LAST_DRILL" 1000) (cL : Kon mg "LAST_MINUTE" 100000) (mA : mg "all" = none)
    (Gd : GFn P w K mg base CX0 1 "drill_in" ["message"] (spDrillIn K)) (Gp : GFn P w K mg base CX0 1 "persons_in" ["message"] (spPersonsIn K)) (Gn : GFn P w K mg base CX0 1 "news_in" ["message"] (spNewsIn K))
    (Gk : GFn P w K mg base CX0 2 "is_known" ["known"] spIsKnown) : FnOk P w K mg base CX0 3 f fd ["message"] (spIsGood K) := by
  refine F.ok sc_is_good (fun vs H Q E h => ?_) (fun cdv A outer s H vs Q E hr h => ?_)
  · obtain ⟨_, _, rfl, _⟩ := h
    rfl
  · obtain ⟨b, m, rfl, hS, hl, q⟩ := h
    refine ⟨_, pss_cons (ps_if (PW.pt (pw_or (pt_not (pt_chain op_le op_le pe_int (pe_gcall Gd hr (pa_cons (pv 0) pa_nil) pass0) (pe_k cD)))
        (pw_or1 (pt_not (pt_val (pe_callB (cr_all rfl) (by rfl) mA (by decide +kernel) (pa_cons
          (pe_lc (own := [("known", 1)]) (g := gName 1) (tt := tYes) rfl sc_is_good.nd (pi_list (pe_gcall Gp hr (pa_cons (pv 0) pa_nil) pass0))
            (blkOk_by (N := ["message", "known", "minute"]) (sc := defScope sIsGood) (by decide +kernel)) (fun _ _ _ _ _ => pg_name (i := 1) sc_is_good.nd rfl (Or.inl rfl)) (fun _ _ _ _ _ => pts_nil)
            (fun _ _ _ _ _ => pe_gcall Gk hr (pa_cons (pv 1) pa_nil) pass0)) pa_nil))))))) (pss_one (ps_ret pe_bl)) pss_nil)
      (pss_one (ps_ret (pe_callB (cr_all rfl) (by rfl) mA (by decide +kernel) (pa_cons
          (pe_lc (own := [("minute", 2)]) (g := gName 2) (tt := tYes) rfl sc_is_good.nd (pi_list (pe_gcall Gn hr (pa_cons (pv 0) pa_nil) pass0))
            (blkOk_by (N := ["message", "known", "minute"]) (sc := defScope sIsGood) (by decide +kernel)) (fun _ _ _ _ _ => pg_name (i := 2) sc_is_good.nd rfl (Or.inl rfl)) (fun _ _ _ _ _ => pts_nil)
            (fun _ _ _ _ _ => pe_chain op_le op_le pe_int (pv 2) (pe_k cL))) pa_nil)))), ?_⟩
    have q' : ∀ c H', Same H H' → goodB m = c → Q (.bl c) H' := fun c H' s e => by
      rw [← e, ← good_B hl]
      exact q H' s
    refine ⟨_, rfl, b, m, rfl, hS, hl, _, _, rfl, rfl, _, rfl, ite2 (fun e => ?_) (fun e => ?_)⟩
    · have e1 : (1 : Int) ≤ ((m.getD 0 0 : Nat) : Int) := of_decide_eq_true e
      have b1 : decide (1 ≤ m.getD 0 0) = true := decide_eq_true (by omega)
      refine ⟨_, _, rfl, rfl, _, rfl, ite2 (fun e2 => ?_) (fun e2 => ?_)⟩
      · -- a drill too late
        have e3 : ¬ ((m.getD 0 0 : Nat) : Int) ≤ 1000 := fun z => by
          rw [decide_eq_true z] at e2
          cases e2
        refine iteT (q' false H (Same.refl _) ?_)
        unfold goodB
        rw [show decide (m.getD 0 0 ≤ 1000) = false from decide_eq_false (by omega)]
        simp only [Bool.false_and, Bool.and_false]
      · have e3 : ((m.getD 0 0 : Nat) : Int) ≤ 1000 := Decidable.byContradiction fun z => e2 (by rw [decide_eq_false z]; rfl)
        have b2 : decide (m.getD 0 0 ≤ 1000) = true := decide_eq_true (by omega)
        -- the persons
        refine ⟨_, rfl, b, m, rfl, hS, hl, fun p hp => ⟨p, rfl, ⟨_, SqL.of upd_same⟩, fun D nD => ?_⟩⟩
        have l1 : (nI ((m.drop 1).take 16)).length = 16 := by
          rw [nI_length, List.length_take, List.length_drop]
          omega
        refine lc_run (walk_list (K := K) (a := p) (xs := nI ((m.drop 1).take 16))) nD (fun H' s' => SqL.of (s' _ _ upd_same)) (fun i => (((m.drop 1).take 16).take i).map fun n => V.bl (okK n)) rfl (by omega)
          (fun i hi => by rw [List.length_map, List.length_take]; exact Nat.min_le_left _ _) (fun i x H2 H3 Nx Ny hi sm hD y kN kY => ?_) (fun H2 sm hD => ?_)
        · obtain ⟨rfl, hx⟩ := y
          obtain ⟨n, hn, rfl⟩ := nI_some hx
          refine ⟨rfl, _, rfl, n, rfl, kY _ _ (Same.refl _) ?_⟩
          show ((((m.drop 1).take 16).take (i + 1)).map fun n => V.bl (okK n)) = _
          rw [take_more hn, List.map_append]
          rfl
        · rw [nI_length, all_take] at hD
          have s2 : Same H H2 := (same_new hp).trans sm
          refine ⟨D, ((m.drop 1).take 16).map okK, rfl, SqL.of hD, _, rfl, ?_⟩
          rw [List.all_map]
          show if (!(((m.drop 1).take 16).all okK)) = true then _ else _
          cases ea : ((m.drop 1).take 16).all okK with
          | false =>
            refine iteT (q' false H2 s2 ?_)
            unfold goodB
            rw [ea]
            simp only [Bool.false_and, Bool.and_false]
          | true =>
            refine iteF ?_
            -- the news
            refine ⟨_, rfl, b, m, rfl, s2.seq hS, hl, fun p2 hp2 => ⟨p2, rfl, ⟨_, SqL.of upd_same⟩, fun D2 nD2 => ?_⟩⟩
            have l2 : (nI (m.drop 17)).length = 5 := by
              rw [nI_length, List.length_drop]
              omega
            refine lc_run (walk_list (K := K) (a := p2) (xs := nI (m.drop 17))) nD2 (fun H' s' => SqL.of (s' _ _ upd_same)) (fun i => ((m.drop 17).take i).map fun n => V.bl (okM n)) rfl (by omega)
              (fun i hi => by rw [List.length_map, List.length_take]; exact Nat.min_le_left _ _) (fun i x H4 H5 Nx Ny hi sm hD y kN kY => ?_) (fun H4 sm4 hD4 => ?_)
            · obtain ⟨rfl, hx⟩ := y
              obtain ⟨n, hn, rfl⟩ := nI_some hx
              refine ⟨rfl, _, rfl, _, _, rfl, rfl, _, rfl, ?_⟩
              rw [decide_eq_true (show (0 : Int) ≤ (n : Int) by omega)]
              refine iteT ⟨_, _, rfl, rfl, kY _ _ (Same.refl _) ?_⟩
              show (((m.drop 17).take (i + 1)).map fun n => V.bl (okM n)) = _
              rw [take_more hn, List.map_append]
              have ed : okM n = decide ((n : Int) ≤ 100000) := decide_eq_decide.mpr (by omega)
              exact congrArg (fun z => ((m.drop 17).take i).map (fun n => V.bl (okM n)) ++ [V.bl z]) ed
            · rw [nI_length, all_take] at hD4
              refine ⟨D2, (m.drop 17).map okM, rfl, SqL.of hD4, ?_⟩
              rw [List.all_map]
              refine q' _ H4 ((s2.trans (same_new hp2)).trans sm4) ?_
              unfold goodB
              rw [b1, b2, ea]
              rfl
    · have e1 : ¬ (1 : Int) ≤ ((m.getD 0 0 : Nat) : Int) := fun z => e (decide_eq_true z)
      refine ⟨_, rfl, iteT (iteT (q' false H (Same.refl _) ?_))⟩
      unfold goodB
      rw [show decide (1 ≤ m.getD 0 0) = false from decide_eq_false (by omega)]
      simp only [Bool.false_and]
/-! ### greater_ones, many_unlike, bits_of -/
abbrev sGreater : Stmt := top 14
abbrev sUnlike : Stmt := top 15
abbrev sBits : Stmt := top 16
theorem max_int (a b : Nat) : (if (b : Int) > (a : Int) then (b : Int) else (a : Int)) = ((max a b : Nat) : Int) := by
  split <;> omega
theorem merge_at {xs ys : List Nat} {i a b : Nat} (h1 : xs[i]? = some a) (h2 : ys[i]? = some b) : (Km441.merge xs ys)[i]? = some (max a b) := by
  obtain ⟨hi, e1⟩ := List.getElem?_eq_some_iff.mp h1
  unfold Km441.merge
  rw [List.getElem?_map, List.getElem?_range hi, Option.map_some, List.getD_eq_getElem?_getD, List.getD_eq_getElem?_getD, h1, h2]
  rfl
theorem merge_length (xs ys : List Nat) : (Km441.merge xs ys).length = xs.length := by
  unfold Km441.merge
  rw [List.length_map, List.length_range]
theorem sc_greater : FnScope ["some", "others", "one", "other"] ["some", "others"] (defScope sGreater) := ⟨rfl, rfl, rfl, by decide +kernel, rfl, by decide +kernel, by decide +kernel⟩
def spGreater (K : PySem.W.Frag) : Sp := fun vs H Q _ => ∃ (a b : Addr) (xs ys : List Nat), vs = [.ref a, .ref b] ∧ SqL K H a (nI xs) ∧ SqL K H b (nI ys) ∧ xs.length = ys.length ∧ xs.length ≤ 1000 ∧
  ∀ H' D, Same H H' → H D = none → H' D = some (.lst (nI (Km441.merge xs ys))) → Q (.ref D) H'
theorem ok_greater (F : Fun K "greater_ones" "greater_ones" sGreater f fd) (mz : mg "zip" = none) (mm : mg "max" = none) : FnOk P w K mg base CX0 1 f fd ["some", "others"] (spGreater K) := by
  refine F.ok sc_greater (fun vs H Q E h => ?_) (fun cdv A outer s H vs Q E hr h => ?_)
  · obtain ⟨_, _, _, _, rfl, _⟩ := h
    rfl
  · obtain ⟨a, b, xs, ys, rfl, hA, hB, hl, hl2, q⟩ := h
    refine ⟨_, pss_one (ps_ret (pe_lc (own := [("one", 2), ("other", 3)]) (g := gTup K 2 (gCons (gName 2) (gCons (gName 3) gNil))) (tt := tYes) rfl sc_greater.nd (pi_zip (by rfl) mz (pa_cons (pv 0) (pa_cons (pv 1) pa_nil)))
      (blkOk_by (N := ["some", "others", "one", "other"]) (sc := defScope sGreater) (by decide +kernel))
      (fun _ _ _ _ _ => pg_tup rfl (pgs_cons (pg_name (i := 2) sc_greater.nd rfl (Or.inl rfl)) (pgs_cons (pg_name (i := 3) sc_greater.nd rfl (Or.inl rfl)) pgs_nil))) (fun _ _ _ _ _ => pts_nil)
      (fun _ _ _ _ _ => pe_callB (call_max2 rfl) (by rfl) mm (by decide +kernel) (pa_cons (pv 2) (pa_cons (pv 3) pa_nil))))), ?_⟩
    refine ⟨_, rfl, _, rfl, a, b, _, _, rfl, hA, hB, fun D nD => ?_⟩
    refine lc_run (walk_zip (K := K) (a := a) (b := b) (xs := nI xs) (ys := nI ys) (n := xs.length) (by rw [nI_length, nI_length]; omega)) nD (fun H' s' => ⟨s'.seq hA, s'.seq hB⟩) (fun i => nI ((Km441.merge xs ys).take i)) rfl hl2
      (fun i hi => by rw [nI_length, List.length_take]; exact Nat.min_le_left _ _) (fun i x H2 H3 Nx Ny hi sm hD y kN kY => ?_) (fun H2 sm hD => ?_)
    · obtain ⟨T, x1, x2, rfl, nT, rfl, h1, h2⟩ := y
      obtain ⟨n1, e1, rfl⟩ := nI_some h1
      obtain ⟨n2, e2, rfl⟩ := nI_some h2
      refine ⟨T, _, rfl, SqT.of upd_same, rfl, _, _, rfl, _, _, rfl, rfl, rfl, _, rfl, _, rfl, _, _, rfl, kY _ _ (same_new nT) ?_⟩
      show nI ((Km441.merge xs ys).take (i + 1)) = _
      rw [take_more (merge_at e1 e2), nI_app, max_int]
      rfl
    · refine q H2 D sm nD ?_
      rw [hD, ← merge_length xs ys, List.take_length]
def unlike (xs ys : List Nat) (j : Nat) : Bool := xs.getD j 0 != ys.getD j 0
theorem sc_unlike : FnScope ["some", "others", "one", "other"] ["some", "others"] (defScope sUnlike) := ⟨rfl, rfl, rfl, by decide +kernel, rfl, by decide +kernel, by decide +kernel⟩
def spUnlike (K : PySem.W.Frag) : Sp := fun vs H Q _ => ∃ (a b : Addr) (xs ys : List Nat), vs = [.ref a, .ref b] ∧ SqL K H a (nI xs) ∧ SqL K H b (nI ys) ∧ xs.length = ys.length ∧ xs.length ≤ 1000 ∧
  ∀ H', Same H H' → Q (.int ((((List.range xs.length).filter (unlike xs ys)).length : Nat) : Int)) H'
theorem ok_unlike (F : Fun K "many_unlike" "many_unlike" sUnlike f fd) (mz : mg "zip" = none) (ml : mg "len" = none) : FnOk P w K mg base CX0 1 f fd ["some", "others"] (spUnlike K) := by
  refine F.ok sc_unlike (fun vs H Q E h => ?_) (fun cdv A outer s H vs Q E hr h => ?_)
  · obtain ⟨_, _, _, _, rfl, _⟩ := h
    rfl
  · obtain ⟨a, b, xs, ys, rfl, hA, hB, hl, hl2, q⟩ := h
    refine ⟨_, pss_one (ps_ret (pe_callB call_len_seq (by rfl) ml PySem.boot_len (pa_cons (pe_lc (own := [("one", 2), ("other", 3)]) (g := gTup K 2 (gCons (gName 2) (gCons (gName 3) gNil))) rfl sc_unlike.nd (pi_zip (by rfl) mz (pa_cons (pv 0) (pa_cons (pv 1) pa_nil)))
      (blkOk_by (N := ["some", "others", "one", "other"]) (sc := defScope sUnlike) (by decide +kernel))
      (fun _ _ _ _ _ => pg_tup rfl (pgs_cons (pg_name (i := 2) sc_unlike.nd rfl (Or.inl rfl)) (pgs_cons (pg_name (i := 3) sc_unlike.nd rfl (Or.inl rfl)) pgs_nil))) (fun _ _ _ _ _ => pts_one (pt_cmpR op_ne (pv 2) (pv 3) (nomark _)))
      (fun _ _ _ _ _ => pv 2)) pa_nil))), ?_⟩
    refine ⟨_, rfl, _, rfl, a, b, _, _, rfl, hA, hB, fun D nD => ?_⟩
    refine lc_run (walk_zip (K := K) (a := a) (b := b) (xs := nI xs) (ys := nI ys) (n := xs.length) (by rw [nI_length, nI_length]; omega)) nD (fun H' s' => ⟨s'.seq hA, s'.seq hB⟩) (fun i => nI (((List.range i).filter (unlike xs ys)).map fun j => xs.getD j 0)) rfl hl2
      (fun i hi => by rw [nI_length, List.length_map]; exact Nat.le_trans (List.length_filter_le _ _) (by rw [List.length_range]; exact Nat.le_refl _)) (fun i x H2 H3 Nx Ny hi sm hD y kN kY => ?_) (fun H2 sm hD => ?_)
    · obtain ⟨T, x1, x2, rfl, nT, rfl, h1, h2⟩ := y
      obtain ⟨n1, e1, rfl⟩ := nI_some h1
      obtain ⟨n2, e2, rfl⟩ := nI_some h2
      have d1 : xs.getD i 0 = n1 := by rw [List.getD_eq_getElem?_getD, e1]; rfl
      have d2 : ys.getD i 0 = n2 := by rw [List.getD_eq_getElem?_getD, e2]; rfl
      have step : (List.range (i + 1)).filter (unlike xs ys) = (List.range i).filter (unlike xs ys) ++ if n1 = n2 then [] else [i] := by
        rw [List.range_succ, List.filter_append]
        congr 1
        by_cases e : n1 = n2
        · rw [if_pos e, List.filter_cons_of_neg (by unfold unlike; rw [d1, d2, e]; simp)]
          rfl
        · rw [if_neg e, List.filter_cons_of_pos (by unfold unlike; rw [d1, d2]; simpa using e)]
          rfl
      refine ⟨T, _, rfl, SqT.of upd_same, rfl, _, _, rfl, _, _, rfl, rfl, rfl, _, rfl, _, rfl, rfl, _, rfl, ?_⟩
      by_cases e : n1 = n2
      · subst e
        rw [decide_eq_true rfl]
        refine kN _ (same_new nT) ?_
        show nI (((List.range (i + 1)).filter (unlike xs ys)).map fun j => xs.getD j 0) = _
        rw [step, if_pos rfl, List.append_nil]
      · rw [decide_eq_false (fun z => e (by have := V.int.inj z; omega))]
        refine ⟨_, rfl, kY _ _ (same_new nT) ?_⟩
        show nI (((List.range (i + 1)).filter (unlike xs ys)).map fun j => xs.getD j 0) = _
        rw [step, if_neg e, List.map_append, nI_app]
        show _ ++ nI [xs.getD i 0] = _
        rw [d1]
        rfl
    · refine ⟨D, _, rfl, .inl (SqL.of hD), ?_⟩
      rw [nI_length, List.length_map]
      exact q H2 sm
theorem sc_bits : FnScope ["numbers", "number"] ["numbers"] (defScope sBits) := ⟨rfl, rfl, rfl, by decide +kernel, rfl, by decide +kernel, by decide +kernel⟩
def spBits (K : PySem.W.Frag) : Sp := fun vs H Q _ => ∃ (a : Addr) (ns : List Nat), vs = [.ref a] ∧ SqL K H a (nI ns) ∧ ns.length ≤ 1000 ∧ (∀ n ∈ ns, n ≤ 1000) ∧
  ∀ H', Same H H' → Q (.int ((Km441.bits ns : Nat) : Int)) H'
theorem bits_acc : ∀ (ns : List Nat) (a : Nat), ((ns.foldl (fun w k => w + 2 ^ k) a : Nat) : Int) = (a : Int) + (ns.map fun n => (1 : Int) * 2 ^ (((n : Nat) : Int)).toNat).sum
  | [], a => by simp
  | n :: ns, a => by
    rw [List.foldl_cons, bits_acc ns, List.map_cons, List.sum_cons, Int.toNat_natCast]
    push_cast
    omega
theorem bits_sum (ns : List Nat) : (ns.map fun n => (1 : Int) * 2 ^ (((n : Nat) : Int)).toNat).sum = ((Km441.bits ns : Nat) : Int) := by
  unfold Km441.bits
  rw [bits_acc]
  simp
theorem ok_bits (F : Fun K "bits_of" "bits_of" sBits f fd) (ms : mg "sum" = none) : FnOk P w K mg base CX0 1 f fd ["numbers"] (spBits K) := by
  refine F.ok sc_bits (fun vs H Q E h => ?_) (fun cdv A outer s H vs Q E hr h => ?_)
  · obtain ⟨_, _, rfl, _⟩ := h
    rfl
  · obtain ⟨a, ns, rfl, hA, hl, hb, q⟩ := h
    refine ⟨_, pss_one (ps_ret (pe_callB (cr_sum rfl) (by rfl) ms (by decide +kernel) (pa_cons (pe_lc (own := [("number", 1)]) (g := gName 1) (tt := tYes) rfl sc_bits.nd (pi_list (pv 0))
      (blkOk_by (N := ["numbers", "number"]) (sc := defScope sBits) (by decide +kernel)) (fun _ _ _ _ _ => pg_name (i := 1) sc_bits.nd rfl (Or.inl rfl)) (fun _ _ _ _ _ => pts_nil)
      (fun _ _ _ _ _ => pe_op op_shl pe_int (pv 1))) pa_nil))), ?_⟩
    refine ⟨_, rfl, a, rfl, ⟨_, hA⟩, fun D nD => ?_⟩
    refine lc_run (walk_list (K := K) (a := a) (xs := nI ns)) nD (fun H' s' => s'.seq hA) (fun i => ((ns.take i).map fun n => (1 : Int) * 2 ^ (((n : Nat) : Int)).toNat).map V.int) rfl (by rw [nI_length]; exact hl)
      (fun i hi => by rw [List.length_map, List.length_map, List.length_take]; exact Nat.min_le_left _ _) (fun i x H2 H3 Nx Ny hi sm hD y kN kY => ?_) (fun H2 sm hD => ?_)
    · obtain ⟨rfl, hx⟩ := y
      obtain ⟨n, hn, rfl⟩ := nI_some hx
      have hm := hb n (List.mem_of_getElem? hn)
      refine ⟨rfl, _, rfl, _, _, rfl, rfl, ⟨by omega, by omega, by decide⟩, kY _ _ (Same.refl _) ?_⟩
      show ((ns.take (i + 1)).map fun n => (1 : Int) * 2 ^ (((n : Nat) : Int)).toNat).map V.int = _
      rw [take_more hn, List.map_append, List.map_append]
      rfl
    · rw [nI_length, List.take_length] at hD
      refine ⟨D, _, rfl, SqL.of hD, ?_⟩
      rw [bits_sum]
      exact q H2 sm
end
end Sm
namespace Sm
open PySem PySem.Spec PyProof.Rows L2
/-! ### a station in the heap -/
def stF (s : Km441.Station) (p h : Addr) : List (Str × V) :=
  [("me", .int ((s.me : Nat) : Int)), ("minute", .int ((s.minute : Nat) : Int)), ("drill", .int ((s.drill : Nat) : Int)), ("persons", .ref p), ("heard_of", .ref h), ("many_heard", .int ((s.heard : Nat) : Int))]
structure StAt (C : Addr) (H : Hp) (a p h : Addr) (s : Km441.Station) : Prop where
  ob : ∃ dx, H a = some (.ins C dx (stF s p h))
  ps : H p = some (.lst (nI s.seen))
  hs : H h = some (.lst (nI s.news))
structure Ok (s : Km441.Station) : Prop where
  me : s.me ≤ 4
  mi : s.minute ≤ 100000
  dr : s.drill ≤ 1000
  sl : s.seen.length = 16
  nl : s.news.length = 5
  sk : ∀ x ∈ s.seen, okK x = true
  nk : ∀ x ∈ s.news, x ≤ 100000
  hd : s.heard ≤ 100000
theorem StAt.same {C : Addr} {H H' : Hp} {a p h : Addr} {s : Km441.Station} (x : StAt C H a p h s) (e : Same H H') : StAt C H' a p h s :=
  ⟨let ⟨dx, q⟩ := x.ob; ⟨dx, e _ _ q⟩, e _ _ x.ps, e _ _ x.hs⟩
theorem lt_k {α : Type} {l : List α} (n : Nat) (h : l.length = n) (hn : n < 1000) : l.length < 1000 := by
  rw [h]
  exact hn
theorem lk_me (s : Km441.Station) (p h : Addr) : (stF s p h).lookup ("me" : Str) = some (.int ((s.me : Nat) : Int)) := by kernel_rfl
theorem lk_minute (s : Km441.Station) (p h : Addr) : (stF s p h).lookup ("minute" : Str) = some (.int ((s.minute : Nat) : Int)) := by kernel_rfl
theorem lk_drill (s : Km441.Station) (p h : Addr) : (stF s p h).lookup ("drill" : Str) = some (.int ((s.drill : Nat) : Int)) := by kernel_rfl
theorem lk_persons (s : Km441.Station) (p h : Addr) : (stF s p h).lookup ("persons" : Str) = some (.ref p) := by kernel_rfl
theorem lk_heard_of (s : Km441.Station) (p h : Addr) : (stF s p h).lookup ("heard_of" : Str) = some (.ref h) := by kernel_rfl
theorem lk_many (s : Km441.Station) (p h : Addr) : (stF s p h).lookup ("many_heard" : Str) = some (.int ((s.heard : Nat) : Int)) := by kernel_rfl
theorem put_minute (s : Km441.Station) (p h : Addr) (n : Nat) : putF "minute" (.int (n : Int)) (stF s p h) = stF { s with minute := n } p h := by kernel_rfl
theorem put_drill (s : Km441.Station) (p h : Addr) (n : Nat) : putF "drill" (.int (n : Int)) (stF s p h) = stF { s with drill := n } p h := by kernel_rfl
theorem put_persons (s : Km441.Station) (p h q : Addr) : putF "persons" (.ref q) (stF s p h) = stF s q h := by kernel_rfl
theorem put_heard_of (s : Km441.Station) (p h q : Addr) : putF "heard_of" (.ref q) (stF s p h) = stF s p q := by kernel_rfl
theorem put_many (s : Km441.Station) (p h : Addr) (n : Nat) : putF "many_heard" (.int (n : Int)) (stF s p h) = stF { s with heard := n } p h := by kernel_rfl
/-- what the top says of the class Station, at C -/
structure TSt (K : PySem.W.Frag) (C : Addr) : Prop where
  cl : Cls K C
  me : NoAttr K C "me"
  minute : NoAttr K C "minute"
  drill : NoAttr K C "drill"
  persons : NoAttr K C "persons"
  heard_of : NoAttr K C "heard_of"
  many : NoAttr K C "many_heard"
/-- no method's name is a field's -/
theorem st_nofld (s : Km441.Station) (p h : Addr) {m : Str} (hm : (["me", "minute", "drill", "persons", "heard_of", "many_heard"] : List Str).contains m = false) : (stF s p h).lookup m = none := by
  have e : ∀ l : List (Str × V), (l.map (·.1)).contains m = false → l.lookup m = none := by
    intro l
    induction l with
    | nil => intro _; rfl
    | cons x l ih =>
      intro hc
      obtain ⟨k, v⟩ := x
      rw [List.map_cons, List.contains_cons, Bool.or_eq_false_iff] at hc
      show List.lookup m ((k, v) :: l) = none
      simp only [List.lookup]
      rw [show (m == k) = false from hc.1]
      exact ih hc.2
  exact e _ hm
section
variable {P : Program} {w : World} {K : PySem.W.Frag} {mg : Str → Option Value} {base : Heap} {f C : Addr} {fd : FuncData}
/-! ### __init__, in_drill, forget, here_and_now -/
abbrev sStInit : Stmt := inClass (top 20) 0
abbrev sInDrill : Stmt := inClass (top 20) 1
abbrev sForget : Stmt := inClass (top 20) 2
abbrev sNow : Stmt := inClass (top 20) 3
theorem zeros (n : Nat) : (List.replicate ((n : Nat) : Int).toNat [V.int 0]).flatten = nI (List.replicate n 0) := by
  rw [Int.toNat_natCast]
  induction n with
  | zero => rfl
  | succ n ih =>
    rw [List.replicate_succ, List.flatten_cons, ih]
    rfl
theorem sc_st_init : FnScope ["self", "me"] ["self", "me"] (defScope sStInit) := ⟨rfl, rfl, rfl, by decide +kernel, rfl, by decide +kernel, by decide +kernel⟩
def spStInit (C : Addr) : Sp := fun vs H Q _ => ∃ (a dx : Addr) (me : Nat), vs = [.ref a, .int (me : Int)] ∧ H a = some (.ins C dx []) ∧
  ∀ H' p h, StAt C H' a p h (Km441.station0 me) → But a H H' → H p = none → H h = none → p ≠ h → Q .non H'
theorem new_stF (me : Nat) (p h : Addr) : putF "many_heard" (.int 0) (putF "heard_of" (.ref h) (putF "persons" (.ref p) (putF "drill" (.int 0) (putF "minute" (.int 0) (putF "me" (.int (me : Int)) []))))) = stF (Km441.station0 me) p h := by kernel_rfl
theorem ok_st_init (F : Fun K "__init__" "Station.__init__" sStInit f fd) (T : TSt K C) (cN : Kon mg "NO_DRILL" 0) (cP : Kon mg "PERSONS" 16) (cS : Kon mg "STATIONS" 5) : FnOk P w K mg base CX0 1 f fd ["self", "me"] (spStInit C) := by
  refine F.ok sc_st_init (fun vs H Q E h => ?_) (fun cdv A outer s H vs Q E hr h => ?_)
  · obtain ⟨_, _, _, rfl, _⟩ := h
    rfl
  · obtain ⟨a, dx, me, rfl, ha, q⟩ := h
    refine ⟨_, pss_cons (ps_fld (pv 0) (pv 1) rfl) (pss_cons (ps_fld (pv 0) pe_int rfl) (pss_cons (ps_fld (pv 0) (pe_k cN) rfl)
      (pss_cons (ps_fld (pv 0) (pe_op op_rep (pe_lst (pa_cons pe_int pa_nil)) (pe_k cP)) rfl) (pss_cons (ps_fld (pv 0) (pe_op op_rep (pe_lst (pa_cons pe_int pa_nil)) (pe_k cS)) rfl)
      (pss_one (ps_fld (pv 0) pe_int rfl)))))), ?_⟩
    refine ⟨_, rfl, _, rfl, a, C, dx, [], rfl, ha, T.cl, T.me, (by decide), ?_⟩
    refine ⟨_, rfl, a, C, dx, _, rfl, upd_same, T.cl, T.minute, lt_k 1 (by kernel_rfl) (by decide), ?_⟩
    refine ⟨_, rfl, a, C, dx, _, rfl, upd_same, T.cl, T.drill, lt_k 2 (by kernel_rfl) (by decide), ?_⟩
    refine ⟨(by decide), fun l1 n1 => ⟨l1, 16, _, rfl, rfl, upd_same, (by decide), (by decide), (by decide), fun p n2 => ?_⟩⟩
    have b2 : But a H (upd (upd (upd H a (.ins C dx (putF "me" (.int (me : Int)) []))) a (.ins C dx (putF "minute" (.int 0) (putF "me" (.int (me : Int)) [])))) a (.ins C dx (putF "drill" (.int 0) (putF "minute" (.int 0) (putF "me" (.int (me : Int)) []))))) := (((But.refl a H).self).self).self
    have a2 : (upd (upd (upd H a (.ins C dx (putF "me" (.int (me : Int)) []))) a (.ins C dx (putF "minute" (.int 0) (putF "me" (.int (me : Int)) [])))) a (.ins C dx (putF "drill" (.int 0) (putF "minute" (.int 0) (putF "me" (.int (me : Int)) []))))) a = some (.ins C dx (putF "drill" (.int 0) (putF "minute" (.int 0) (putF "me" (.int (me : Int)) [])))) := upd_same
    generalize upd (upd (upd H a (.ins C dx (putF "me" (.int (me : Int)) []))) a (.ins C dx (putF "minute" (.int 0) (putF "me" (.int (me : Int)) [])))) a (.ins C dx (putF "drill" (.int 0) (putF "minute" (.int 0) (putF "me" (.int (me : Int)) [])))) = H2 at n1 n2 b2 a2 ⊢
    have s3 : Same H2 (upd (upd H2 l1 (.lst [V.int 0])) p (.lst (List.replicate (Int.toNat 16) [V.int 0]).flatten)) := snew (same_new n1) n2
    have hp : (upd (upd H2 l1 (.lst [V.int 0])) p (.lst (List.replicate (Int.toNat 16) [V.int 0]).flatten)) p = some (.lst (nI (List.replicate 16 0))) := upd_same.trans (congrArg (fun z => some (HO.lst z)) (zeros 16))
    have np : H2 p = none := (same_new n1).free n2
    generalize upd (upd H2 l1 (.lst [V.int 0])) p (.lst (List.replicate (Int.toNat 16) [V.int 0]).flatten) = H3 at s3 hp ⊢
    have npa : p ≠ a := (ne_of_none a2 np).symm
    refine ⟨_, rfl, a, C, dx, _, rfl, s3 _ _ a2, T.cl, T.persons, lt_k 3 (by kernel_rfl) (by decide), ?_⟩
    have b3 : But a H (upd H3 a (.ins C dx (putF "persons" (.ref p) (putF "drill" (.int 0) (putF "minute" (.int 0) (putF "me" (.int (me : Int)) [])))))) := (b2.trans (But.of s3)).self
    have a3 : (upd H3 a (.ins C dx (putF "persons" (.ref p) (putF "drill" (.int 0) (putF "minute" (.int 0) (putF "me" (.int (me : Int)) [])))))) a = some (.ins C dx (putF "persons" (.ref p) (putF "drill" (.int 0) (putF "minute" (.int 0) (putF "me" (.int (me : Int)) []))))) := upd_same
    have hp3 : (upd H3 a (.ins C dx (putF "persons" (.ref p) (putF "drill" (.int 0) (putF "minute" (.int 0) (putF "me" (.int (me : Int)) [])))))) p = some (.lst (nI (List.replicate 16 0))) := (upd_ne npa).trans hp
    generalize upd H3 a (.ins C dx (putF "persons" (.ref p) (putF "drill" (.int 0) (putF "minute" (.int 0) (putF "me" (.int (me : Int)) []))))) = H4 at b3 a3 hp3 ⊢
    refine ⟨(by decide), fun l2 n3 => ⟨l2, 5, _, rfl, rfl, upd_same, (by decide), (by decide), (by decide), fun h n4 => ?_⟩⟩
    have s5 : Same H4 (upd (upd H4 l2 (.lst [V.int 0])) h (.lst (List.replicate (Int.toNat 5) [V.int 0]).flatten)) := snew (same_new n3) n4
    have hh : (upd (upd H4 l2 (.lst [V.int 0])) h (.lst (List.replicate (Int.toNat 5) [V.int 0]).flatten)) h = some (.lst (nI (List.replicate 5 0))) := upd_same.trans (congrArg (fun z => some (HO.lst z)) (zeros 5))
    have nh : H4 h = none := (same_new n3).free n4
    generalize upd (upd H4 l2 (.lst [V.int 0])) h (.lst (List.replicate (Int.toNat 5) [V.int 0]).flatten) = H5 at s5 hh ⊢
    have nha : h ≠ a := (ne_of_none a3 nh).symm
    refine ⟨_, rfl, a, C, dx, _, rfl, s5 _ _ a3, T.cl, T.heard_of, lt_k 4 (by kernel_rfl) (by decide), ?_⟩
    refine ⟨_, rfl, a, C, dx, _, rfl, upd_same, T.cl, T.many, lt_k 5 (by kernel_rfl) (by decide), ?_⟩
    refine q _ p h ⟨⟨dx, upd_same.trans (congrArg (fun z => some (HO.ins C dx z)) (new_stF me p h))⟩, ?_, ?_⟩ (((b3.trans (But.of s5)).self).self) (b2.none np npa) (b3.none nh nha) (ne_of_none hp3 nh)
    · rw [upd_ne npa, upd_ne npa]
      exact s5 _ _ hp3
    · rw [upd_ne nha, upd_ne nha]
      exact hh
/-- [0] * n -/
theorem rep0 {σ : L2.St} {H : Hp} {Q : VK} (n : Nat) (hn : n ≤ 1000) (q : ∀ H' p, Same H H' → H p = none → H' p = some (.lst (nI (List.replicate n 0))) → Q (.ref p) H') : tOp rRep (tLst (tCons (tC (.int 0)) tNil)) (tC (.int (n : Int))) σ H Q := by
  refine ⟨(by decide), fun l n1 => ⟨l, n, _, rfl, rfl, upd_same, (by omega), (by omega), ?_, fun p n2 => ?_⟩⟩
  · rw [Int.toNat_natCast, List.length_singleton, Nat.one_mul]
    exact Nat.le_of_lt (small1000 hn)
  · rw [zeros]
    exact q _ p (snew (same_new n1) n2) ((same_new n1).free n2) upd_same
theorem sc_in_drill : FnScope ["self"] ["self"] (defScope sInDrill) := ⟨rfl, rfl, rfl, by decide +kernel, rfl, by decide +kernel, by decide +kernel⟩
def spInDrill (C : Addr) : Sp := fun vs H Q _ => ∃ (a p h : Addr) (s : Km441.Station), vs = [.ref a] ∧ StAt C H a p h s ∧ Q (.bl (decide (s.drill ≠ 0))) H
theorem ok_in_drill (F : Fun K "in_drill" "Station.in_drill" sInDrill f fd) (T : TSt K C) (cN : Kon mg "NO_DRILL" 0) : FnOk P w K mg base CX0 1 f fd ["self"] (spInDrill C) := by
  refine F.ok sc_in_drill (fun vs H Q E h => ?_) (fun cdv A outer s H vs Q E hr h => ?_)
  · obtain ⟨_, _, _, _, rfl, _⟩ := h
    rfl
  · obtain ⟨a, p, h, st, rfl, S, q⟩ := h
    obtain ⟨dx, ob⟩ := S.ob
    refine ⟨_, pss_one (ps_ret (pe_cmpR op_ne (pe_fld (pv 0) rfl) (pe_k cN) (nomark _))), ?_⟩
    refine ⟨_, rfl, a, C, dx, _, _, rfl, ob, T.cl, T.drill, lk_drill _ _ _, rfl, ?_⟩
    have e : (!decide (V.int ((st.drill : Nat) : Int) = V.int 0)) = decide (st.drill ≠ 0) := by
      rw [← decide_not]
      exact decide_eq_decide.mpr ⟨fun x y => x (by rw [y]; rfl), fun x y => x (by have := V.int.inj y; omega)⟩
    rw [e]
    exact q
theorem sc_forget : FnScope ["self", "drill"] ["self", "drill"] (defScope sForget) := ⟨rfl, rfl, rfl, by decide +kernel, rfl, by decide +kernel, by decide +kernel⟩
def spForget (C : Addr) : Sp := fun vs H Q _ => ∃ (a p h : Addr) (s : Km441.Station) (d : Nat), vs = [.ref a, .int (d : Int)] ∧ StAt C H a p h s ∧
  ∀ H' p' h', StAt C H' a p' h' (s.fresh d) → But a H H' → H p' = none → H h' = none → p' ≠ h' → Q .non H'
theorem ok_forget (F : Fun K "forget" "Station.forget" sForget f fd) (T : TSt K C) (cP : Kon mg "PERSONS" 16) (cS : Kon mg "STATIONS" 5) : FnOk P w K mg base CX0 1 f fd ["self", "drill"] (spForget C) := by
  refine F.ok sc_forget (fun vs H Q E h => ?_) (fun cdv A outer s H vs Q E hr h => ?_)
  · obtain ⟨_, _, _, _, _, rfl, _⟩ := h
    rfl
  · obtain ⟨a, p, h, st, d, rfl, S, q⟩ := h
    obtain ⟨dx, ob⟩ := S.ob
    refine ⟨_, pss_cons (ps_fld (pv 0) (pv 1) rfl) (pss_cons (ps_fld (pv 0) (pe_op op_rep (pe_lst (pa_cons pe_int pa_nil)) (pe_k cP)) rfl)
      (pss_one (ps_fld (pv 0) (pe_op op_rep (pe_lst (pa_cons pe_int pa_nil)) (pe_k cS)) rfl))), ?_⟩
    refine ⟨_, rfl, _, rfl, a, C, dx, _, rfl, ob, T.cl, T.drill, lt_k 6 rfl (by decide), ?_⟩
    rw [put_drill]
    refine gen_self _ _ _ fun H1 b1 a1 => ?_
    refine rep0 16 (by decide) fun H2 p' s2 np hp => ?_
    refine ⟨_, rfl, a, C, dx, _, rfl, s2 _ _ a1, T.cl, T.persons, lt_k 6 rfl (by decide), ?_⟩
    rw [put_persons]
    have npa : p' ≠ a := (ne_of_none a1 np).symm
    refine gen_self _ _ _ fun H3 b3 a3 => ?_
    refine rep0 5 (by decide) fun H4 h' s4 nh hh => ?_
    have nha : h' ≠ a := (ne_of_none a3 nh).symm
    refine ⟨_, rfl, a, C, dx, _, rfl, s4 _ _ a3, T.cl, T.heard_of, lt_k 6 rfl (by decide), ?_⟩
    rw [put_heard_of]
    have hp3 := b3 _ _ hp npa
    refine gen_self _ _ _ fun H5 b5 a5 => ?_
    have b : But a H H3 := (b1.trans (But.of s2)).trans b3
    refine q H5 p' h' ⟨⟨dx, a5⟩, b5 _ _ (s4 _ _ hp3) npa, b5 _ _ hh nha⟩ ((b.trans (But.of s4)).trans b5) (b1.none np npa) (b.none nh nha) (ne_of_none hp3 nh)
theorem sc_now : FnScope ["self"] ["self"] (defScope sNow) := ⟨rfl, rfl, rfl, by decide +kernel, rfl, by decide +kernel, by decide +kernel⟩
def spNow (C : Addr) : Sp := fun vs H Q _ => ∃ (a p h : Addr) (s : Km441.Station), vs = [.ref a] ∧ StAt C H a p h s ∧ Q (.int ((8 * s.minute + s.me + 1 : Nat) : Int)) H
theorem ok_now (F : Fun K "here_and_now" "Station.here_and_now" sNow f fd) (T : TSt K C) (Gk : GFn P w K mg base CX0 1 "known_of" ["minute", "place"] spKnownOf) : FnOk P w K mg base CX0 2 f fd ["self"] (spNow C) := by
  refine F.ok sc_now (fun vs H Q E h => ?_) (fun cdv A outer s H vs Q E hr h => ?_)
  · obtain ⟨_, _, _, _, rfl, _⟩ := h
    rfl
  · obtain ⟨a, p, h, st, rfl, S, q⟩ := h
    obtain ⟨dx, ob⟩ := S.ob
    refine ⟨_, pss_one (ps_ret (pe_gcall Gk hr (pa_cons (pe_fld (pv 0) rfl) (pa_cons (pe_fld (pv 0) rfl) pa_nil)) pass0)), ?_⟩
    refine ⟨_, rfl, a, C, dx, _, _, rfl, ob, T.cl, T.minute, lk_minute _ _ _, _, rfl, a, C, dx, _, _, rfl, ob, T.cl, T.me, lk_me _ _ _, _, _, rfl, ?_⟩
    exact q
/-! ### news, message -/
abbrev sNews : Stmt := inClass (top 20) 4
abbrev sMessage : Stmt := inClass (top 20) 5
theorem sc_news : FnScope ["self", "found"] ["self"] (defScope sNews) := ⟨rfl, rfl, rfl, by decide +kernel, rfl, by decide +kernel, by decide +kernel⟩
def spNews (C : Addr) : Sp := fun vs H Q _ => ∃ (a p h : Addr) (s : Km441.Station), vs = [.ref a] ∧ StAt C H a p h s ∧ Ok s ∧ ∀ H' D, Same H H' → H D = none → H' D = some (.lst (nI s.now.news)) → Q (.ref D) H'
theorem ok_news (F : Fun K "news" "Station.news" sNews f fd) (T : TSt K C) (ml : mg "list" = none) : FnOk P w K mg base CX0 1 f fd ["self"] (spNews C) := by
  refine F.ok sc_news (fun vs H Q E h => ?_) (fun cdv A outer s H vs Q E hr h => ?_)
  · obtain ⟨_, _, _, _, rfl, _⟩ := h
    rfl
  · obtain ⟨a, p, h, st, rfl, S, O, q⟩ := h
    obtain ⟨dx, ob⟩ := S.ob
    refine ⟨_, pss_cons (ps_set (i := 1) sc_news.nd rfl (.inl rfl) (pe_callTy call_list_of (by rfl) ml (by decide +kernel) (pa_cons (pe_fld (pv 0) rfl) pa_nil)))
      (pss_cons (ps_asg (pe_fld (pv 0) rfl) (pg_sub (pv 1) (pe_fld (pv 0) rfl) set_list)) (pss_one (ps_ret (pv 1)))), ?_⟩
    refine ⟨_, rfl, a, C, dx, _, _, rfl, ob, T.cl, T.heard_of, lk_heard_of _ _ _, h, _, rfl, .inl (SqL.of S.hs), fun D nD => ?_⟩
    have ob1 := same_new (o := .lst (nI st.news)) nD _ _ ob
    refine ⟨_, rfl, a, C, dx, _, _, rfl, ob1, T.cl, T.minute, lk_minute _ _ _, _, rfl, _, rfl, a, C, dx, _, _, rfl, ob1, T.cl, T.me, lk_me _ _ _, D, _, _, st.me, rfl, rfl, upd_same, ?_, ?_⟩
    · unfold ixN
      rw [nI_length, O.nl, if_pos (by omega), if_pos (by have := O.me; omega), Int.toNat_natCast]
    · rw [nI_set]
      refine ⟨_, rfl, q _ D (fun b o e => ?_) nD upd_same⟩
      rw [upd_upd, upd_ne (ne_of_none e nD)]
      exact e
theorem sc_message : FnScope ["self"] ["self"] (defScope sMessage) := ⟨rfl, rfl, rfl, by decide +kernel, rfl, by decide +kernel, by decide +kernel⟩
def spMessage (C : Addr) : Sp := fun vs H Q _ => ∃ (a p h : Addr) (s : Km441.Station), vs = [.ref a] ∧ StAt C H a p h s ∧ Ok s ∧ ∀ H' D, Same H H' → H D = none → H' D = some (.lst (nI s.message)) → Q (.ref D) H'
theorem ok_message (F : Fun K "message" "Station.message" sMessage f fd) (T : TSt K C) (Gn : GMe P w K mg base CX0 1 C "news" ["self"] (spNews C)) : FnOk P w K mg base CX0 2 f fd ["self"] (spMessage C) := by
  refine F.ok sc_message (fun vs H Q E h => ?_) (fun cdv A outer s H vs Q E hr h => ?_)
  · obtain ⟨_, _, _, _, rfl, _⟩ := h
    rfl
  · obtain ⟨a, p, h, st, rfl, S, O, q⟩ := h
    obtain ⟨dx, ob⟩ := S.ob
    refine ⟨_, pss_one (ps_ret (pe_op op_cat (pe_op op_cat (pe_lst (pa_cons (pe_fld (pv 0) rfl) pa_nil)) (pe_fld (pv 0) rfl)) (pe_gmeth0 T.cl Gn hr (pv 0) pass0))), ?_⟩
    refine ⟨_, rfl, a, C, dx, _, _, rfl, ob, T.cl, T.drill, lk_drill _ _ _, le_line (by show 1 ≤ 1000; decide), fun l n1 => ?_⟩
    refine gen_new _ _ _ n1 fun H1 s1 e1 => ?_
    refine ⟨_, rfl, a, C, dx, _, _, rfl, s1 _ _ ob, T.cl, T.persons, lk_persons _ _ _, l, p, _, _, rfl, rfl, e1, s1 _ _ S.ps, ?_, fun l2 n2 => ?_⟩
    · rw [nI_length, O.sl]
      exact le_line (by show 1 + 16 ≤ 1000; decide)
    refine gen_new _ _ _ n2 fun H2 s2 e2 => ?_
    have s12 := s1.trans s2
    refine ⟨_, rfl, a, dx, _, rfl, s12 _ _ ob, st_nofld _ _ _ (by decide +kernel), a, p, h, st, rfl, S.same s12, O, fun H3 D s3 nD hD => ?_⟩
    refine ⟨l2, D, _, _, rfl, rfl, s3 _ _ e2, hD, ?_, fun p2 n3 => ?_⟩
    · rw [nI_length, List.length_append, nI_length, O.sl]
      show [V.int _].length + 16 + (st.news.set st.me st.minute).length ≤ sizeLine
      rw [List.length_set, O.nl]
      exact le_line (by show 1 + 16 + 5 ≤ 1000; decide)
    · refine q _ p2 ((s12.trans s3).trans (same_new n3)) ((s12.trans s3).free n3) (upd_same.trans ?_)
      show some (HO.lst _) = some (HO.lst (nI (st.drill :: (st.seen ++ st.now.news))))
      rw [show nI (st.drill :: (st.seen ++ st.now.news)) = V.int ((st.drill : Nat) : Int) :: (nI st.seen ++ nI st.now.news) from congrArg _ (nI_app _ _)]
      rfl
end
end Sm
namespace Sm
open PySem PySem.Spec PyProof.Rows L2
/-! ### max of a list of pairs -/
def lt2 (a b : Nat × Nat) : Bool := decide (a.1 < b.1 ∨ (a.1 = b.1 ∧ a.2 < b.2))
/-- the first of the greatest -/
def max2 (x : Nat × Nat) (xs : List (Nat × Nat)) : Nat × Nat := xs.foldl (fun a y => if lt2 a y then y else a) x
def dP (q : Nat × Nat) : PyData := .tuple [.int (q.1 : Int), .int (q.2 : Int)]
theorem dP_inj {a b : Nat × Nat} (h : dP a = dP b) : a = b := by
  unfold dP at h
  injection h with h
  injection h with h1 h2
  injection h2 with h2 _
  injection h1 with h1
  injection h2 with h2
  obtain ⟨a1, a2⟩ := a
  obtain ⟨b1, b2⟩ := b
  simp only at h1 h2
  rw [show a1 = b1 by omega, show a2 = b2 by omega]
theorem dP_lt (a b : Nat × Nat) : PySem.W.dataLt (dP a) (dP b) = lt2 a b := by
  unfold dP lt2
  rw [PySem.W.dataLt_ii]
  exact decide_eq_decide.mpr (by omega)
theorem maxD_dP : ∀ (xs : List (Nat × Nat)) (x : Nat × Nat), PySem.W.maxD (dP x) (xs.map dP) = dP (max2 x xs)
  | [], _ => rfl
  | y :: xs, x => by
    unfold PySem.W.maxD max2
    rw [List.map_cons, List.foldl_cons, List.foldl_cons, dP_lt]
    by_cases e : lt2 x y = true
    · rw [if_pos e, if_pos e]
      exact maxD_dP xs y
    · rw [if_neg e, if_neg e]
      exact maxD_dP xs x
theorem dP_alike (xs : List (Nat × Nat)) : PySem.W.AlikeAll (xs.map dP) := by
  refine ⟨fun x hx y hy => ?_, fun x hx => ?_⟩
  · obtain ⟨a, _, rfl⟩ := List.mem_map.mp hx
    obtain ⟨b, _, rfl⟩ := List.mem_map.mp hy
    rfl
  · obtain ⟨a, _, rfl⟩ := List.mem_map.mp hx
    intro z
    cases z
theorem dP_depth : ∀ (xs : List (Nat × Nat)), PyData.depthAll (xs.map dP) ≤ 2
  | [] => by decide
  | a :: xs => by
    rw [List.map_cons]
    show max (dP a).depth (PyData.depthAll (xs.map dP)) ≤ 2
    have h1 := dP_depth xs
    have h2 : (dP a).depth ≤ 2 := by
      simp [dP, PyData.depth, PyData.depthAll]
    omega
section
variable {X : Cx}
def rMaxP (K : PySem.W.Frag) : List V → Hp → VK → Prop := fun vs H Q => ∃ (a : Addr) (ts : List Addr) (x : Nat × Nat) (xs : List (Nat × Nat)), vs = [V.ref a] ∧ SqL K H a (ts.map V.ref) ∧ ts.length = xs.length + 1 ∧ (x :: xs).length ≤ 1000 ∧
  (∀ (j : Nat) (t : Addr) (q : Nat × Nat), ts[j]? = some t → (x :: xs)[j]? = some q → SqT K H t [.int (q.1 : Int), .int (q.2 : Int)]) ∧
  ∀ t, SqT K H t [.int ((max2 x xs).1 : Int), .int ((max2 x xs).2 : Int)] → Q (.ref t) H
theorem dpAll {K : PySem.W.Frag} {H : Hp} : ∀ (ts : List Addr) (ps : List (Nat × Nat)), ts.length = ps.length → (∀ (j : Nat) (t : Addr) (q : Nat × Nat), ts[j]? = some t → ps[j]? = some q → SqT K H t [.int (q.1 : Int), .int (q.2 : Int)]) → DpAll K H (ts.map V.ref) (ps.map dP)
  | [], [], _, _ => .nil
  | t :: ts, q :: ps, hl, h => .cons (.tup (h 0 t q rfl rfl) (.cons (.int _) (.cons (.int _) .nil))) (dpAll ts ps (by simpa using hl) fun j t' q' h1 h2 => h (j + 1) t' q' (by simpa using h1) (by simpa using h2))
  | [], _ :: _, hl, _ => by simp at hl
  | _ :: _, [], hl, _ => by simp at hl
theorem cr_maxP (hc : X.calm = true) (hu : X.A.units + 1 + 2 < cLine) : CallR X (.builtin "max") (rMaxP X.K) := by
  intro pins s σ H xs us Q I r h
  obtain ⟨a, ts, x, ps, rfl, hS, hl, hz, hT, q⟩ := h
  obtain ⟨u, rfl, ru⟩ := Vals.one r
  obtain rfl : u = Value.ref a := ru
  obtain ⟨its, rv, pl, _⟩ := I.list hS
  have D := dpAll (K := X.K) (H := H) ts (x :: ps) hl hT
  obtain ⟨as, ra⟩ := Dp.readsAll I _ _ _ D rv
  refine PySem.W.max_list_data (I.ok.hd hc) (l := a) (vs := its.toArray) (x := dP x) (xs := ps.map dP) (as := as) pl.isList (by simpa using ra) (dP_alike (x :: ps)) ?_ fun i v h' tk bs hi rm hk => ?_
  · have := dP_depth (x :: ps)
    rw [List.map_cons] at this
    omega
  · have hi' : its[i]? = some v := by simpa using hi
    have hlen := rv.length
    obtain ⟨t, ht, rt⟩ : ∃ t, ts[i]? = some t ∧ v = Value.ref t := by
      have hlt : i < its.length := (List.getElem?_eq_some_iff.mp hi').1
      rw [← hlen, List.length_map] at hlt
      refine ⟨ts[i], List.getElem?_eq_getElem hlt, ?_⟩
      obtain ⟨u, hu', ru'⟩ := rv.get (i := i) (x := V.ref ts[i]) (by rw [List.getElem?_map, List.getElem?_eq_getElem hlt]; rfl)
      rw [hi'] at hu'
      cases hu'
      exact ru'
    subst rt
    have hlt2 : i < (x :: ps).length := by
      have := (List.getElem?_eq_some_iff.mp ht).1
      rw [hl] at this
      simpa using this
    have hq := hT i t _ ht (List.getElem?_eq_getElem hlt2)
    have I2 : Inv X pins σ H { s with heap := h', toks := tk } := I.kept hk
    obtain ⟨as2, r2⟩ := Dp.reads I2 (dP (x :: ps)[i]) (.ref t) (.ref t) (.tup hq (.cons (.int _) (.cons (.int _) .nil))) rfl
    rw [maxD_dP] at rm
    have e := dP_inj (r2.unique _ _ rm).1
    exact ⟨.ref t, H, I2, rfl, q t (by rw [← e]; exact hq)⟩
end
end Sm
namespace Sm
open PySem PySem.Spec PyProof.Rows L2
/-! ### what hearing makes -/
open Km441 (Station merge)
theorem merge_zeros {n : Nat} {ys : List Nat} (h : ys.length = n) : merge (List.replicate n 0) ys = ys := by
  refine List.ext_getElem? fun i => ?_
  by_cases hi : i < n
  · rw [merge_at (a := 0) (b := ys[i]'(by omega)) (by rw [List.getElem?_replicate, if_pos hi]) (List.getElem?_eq_getElem (by omega)), List.getElem?_eq_getElem (by omega : i < ys.length), Nat.zero_max]
  · rw [List.getElem?_eq_none (by rw [merge_length, List.length_replicate]; omega), List.getElem?_eq_none (by omega)]
theorem join_old {s : Station} {m : List Nat} (h : m.getD 0 0 < s.drill) : s.join m = s := if_pos h
theorem join_new {s : Station} {m : List Nat} (h : s.drill < m.getD 0 0) (hl : m.length = 22) : s.join m = { s with drill := m.getD 0 0, seen := (m.drop 1).take 16, news := merge (List.replicate 5 0) (m.drop 17) } := by
  unfold Station.join
  rw [if_neg (by omega)]
  simp only [if_pos h]
  show { s with drill := m.getD 0 0, seen := merge (List.replicate 16 0) ((m.drop 1).take 16), news := merge (List.replicate 5 0) (m.drop 17) } = _
  rw [merge_zeros (by rw [List.length_take, List.length_drop]; omega)]
theorem join_same {s : Station} {m : List Nat} (h : m.getD 0 0 = s.drill) : s.join m = { s with seen := merge s.seen ((m.drop 1).take 16), news := merge s.news (m.drop 17) } := by
  unfold Station.join
  rw [if_neg (by omega)]
  simp only [if_neg (show ¬ s.drill < m.getD 0 0 by omega)]
  rfl
theorem know_at {s : Station} {p : Nat} : s.know p = s.seen.getD p 0 := rfl
section
variable {P : Program} {w : World} {K : PySem.W.Frag} {mg : Str → Option Value} {base : Heap} {f C : Addr} {fd : FuncData}
abbrev sBehind : Stmt := inClass (top 20) 6
abbrev sManyNew : Stmt := inClass (top 20) 7
abbrev sHear : Stmt := inClass (top 20) 8
theorem sc_behind : FnScope ["self", "message"] ["self", "message"] (defScope sBehind) := ⟨rfl, rfl, rfl, by decide +kernel, rfl, by decide +kernel, by decide +kernel⟩
def spBehind (K : PySem.W.Frag) (C : Addr) : Sp := fun vs H Q _ => ∃ (a p h b : Addr) (s : Station) (m : List Nat), vs = [.ref a, .ref b] ∧ StAt C H a p h s ∧ Ok s ∧ SqL K H b (nI m) ∧ m.length = 22 ∧
  ∀ H' D, Same H H' → H D = none → H' D = some (.lst (nI (s.join m).seen)) → Q (.ref D) H'
theorem ok_behind (F : Fun K "persons_behind" "Station.persons_behind" sBehind f fd) (T : TSt K C) (ml : mg "list" = none) (Gd : GFn P w K mg base CX0 1 "drill_in" ["message"] (spDrillIn K))
    (Gp : GFn P w K mg base CX0 1 "persons_in" ["message"] (spPersonsIn K)) (Gg : GFn P w K mg base CX0 1 "greater_ones" ["some", "others"] (spGreater K)) : FnOk P w K mg base CX0 2 f fd ["self", "message"] (spBehind K C) := by
  refine F.ok sc_behind (fun vs H Q E h => ?_) (fun cdv A outer s H vs Q E hr h => ?_)
  · obtain ⟨_, _, _, _, _, _, rfl, _⟩ := h
    rfl
  · obtain ⟨a, p, h, b, st, m, rfl, S, O, hB, hl, q⟩ := h
    obtain ⟨dx, ob⟩ := S.ob
    refine ⟨_, pss_cons (ps_if (pt_cmpR op_lt (pe_gcall Gd hr (pa_cons (pv 1) pa_nil) pass0) (pe_fld (pv 0) rfl) (nomark _)) (pss_one (ps_ret (pe_callTy call_list_of (by rfl) ml (by decide +kernel) (pa_cons (pe_fld (pv 0) rfl) pa_nil)))) pss_nil)
      (pss_cons (ps_if (pt_cmpR op_gt (pe_gcall Gd hr (pa_cons (pv 1) pa_nil) pass0) (pe_fld (pv 0) rfl) (nomark _)) (pss_one (ps_ret (pe_callTy call_list_of (by rfl) ml (by decide +kernel) (pa_cons (pe_gcall Gp hr (pa_cons (pv 1) pa_nil) pass0) pa_nil)))) pss_nil)
      (pss_one (ps_ret (pe_gcall Gg hr (pa_cons (pe_fld (pv 0) rfl) (pa_cons (pe_gcall Gp hr (pa_cons (pv 1) pa_nil) pass0) pa_nil)) pass0)))), ?_⟩
    have lp : ((m.drop 1).take 16).length = 16 := by
      rw [List.length_take, List.length_drop]
      omega
    refine ⟨_, rfl, b, m, rfl, hB, hl, _, rfl, a, C, dx, _, _, rfl, ob, T.cl, T.drill, lk_drill _ _ _, _, _, rfl, rfl, _, rfl, ite2 (fun e => ?_) (fun e => ?_)⟩
    · have e1 : ((m.getD 0 0 : Nat) : Int) < (st.drill : Int) := of_decide_eq_true e
      refine ⟨_, rfl, a, C, dx, _, _, rfl, ob, T.cl, T.persons, lk_persons _ _ _, p, _, rfl, .inl (SqL.of S.ps), fun D nD => ?_⟩
      refine q _ D (same_new nD) nD (upd_same.trans ?_)
      rw [join_old (by omega)]
    · have e1 : ¬ ((m.getD 0 0 : Nat) : Int) < (st.drill : Int) := fun z => e (decide_eq_true z)
      refine ⟨_, rfl, b, m, rfl, hB, hl, _, rfl, a, C, dx, _, _, rfl, ob, T.cl, T.drill, lk_drill _ _ _, _, _, rfl, rfl, _, rfl, ite2 (fun e => ?_) (fun e => ?_)⟩
      · have e2 : (st.drill : Int) < ((m.getD 0 0 : Nat) : Int) := of_decide_eq_true e
        refine ⟨_, rfl, b, m, rfl, hB, hl, fun l nl => ⟨l, _, rfl, .inl (SqL.of upd_same), fun D nD => ?_⟩⟩
        refine q _ D (snew (same_new nl) nD) ((same_new nl).free nD) (upd_same.trans ?_)
        rw [join_new (by omega) hl]
      · have e2 : ¬ (st.drill : Int) < ((m.getD 0 0 : Nat) : Int) := fun z => e (decide_eq_true z)
        refine ⟨_, rfl, a, C, dx, _, _, rfl, ob, T.cl, T.persons, lk_persons _ _ _, _, rfl, b, m, rfl, hB, hl, fun l nl => ?_⟩
        refine gen_new _ _ _ nl fun H1 s1 e1 => ?_
        refine ⟨p, l, st.seen, _, rfl, SqL.of (s1 _ _ S.ps), SqL.of e1, by rw [O.sl, lp], by rw [O.sl]; decide, fun H2 D s2 nD hD => ?_⟩
        refine q H2 D (s1.trans s2) (s1.free nD) (hD.trans ?_)
        rw [join_same (by omega)]
theorem sc_many_new : FnScope ["self", "message", "before"] ["self", "message"] (defScope sManyNew) := ⟨rfl, rfl, rfl, by decide +kernel, rfl, by decide +kernel, by decide +kernel⟩
/-- what mu_new answers of a good message -/
def newOf (s : Station) (m : List Nat) : Nat := if m.getD 0 0 < s.drill then 0 else s.changes m
def spManyNew (K : PySem.W.Frag) (C : Addr) : Sp := fun vs H Q _ => ∃ (a p h b : Addr) (s : Station) (m : List Nat), vs = [.ref a, .ref b] ∧ StAt C H a p h s ∧ Ok s ∧ SqL K H b (nI m) ∧ m.length = 22 ∧
  ∀ H', Same H H' → Q (.int ((newOf s m : Nat) : Int)) H'
theorem join_seen_len {s : Station} {m : List Nat} (O : Ok s) (hl : m.length = 22) : (s.join m).seen.length = 16 := by
  rcases Nat.lt_trichotomy (m.getD 0 0) s.drill with h | h | h
  · rw [join_old h]
    exact O.sl
  · rw [join_same h]
    show (merge _ _).length = 16
    rw [merge_length]
    exact O.sl
  · rw [join_new h hl]
    show ((m.drop 1).take 16).length = 16
    rw [List.length_take, List.length_drop]
    omega
theorem filter_none {l : List Nat} {p : Nat → Bool} (h : ∀ x ∈ l, p x = false) : (l.filter p).length = 0 := by
  rw [List.filter_eq_nil_iff.mpr fun x hx => by rw [h x hx]; exact Bool.false_ne_true]
  rfl
theorem newOf_le {s : Station} {m : List Nat} (h : ¬ s.drill < m.getD 0 0) : ((List.range 16).filter (unlike s.seen (s.join m).seen)).length = newOf s m := by
  unfold newOf
  by_cases e : m.getD 0 0 < s.drill
  · rw [if_pos e, join_old e]
    exact filter_none fun x _ => by unfold unlike; simp
  · rw [if_neg e]
    unfold Station.changes
    refine congrArg List.length (List.filter_congr (l := List.range 16) fun x hx => ?_)
    show (s.seen.getD x 0 != (s.join m).seen.getD x 0) = ((s.join m).seen.getD x 0 != if s.drill < m.getD 0 0 then 0 else s.seen.getD x 0)
    rw [if_neg h]
    exact bne_comm
theorem newOf_gt {s : Station} {m : List Nat} (h : s.drill < m.getD 0 0) : ((List.range 16).filter (unlike (List.replicate 16 0) (s.join m).seen)).length = newOf s m := by
  unfold newOf
  rw [if_neg (by omega)]
  unfold Station.changes
  refine congrArg List.length (List.filter_congr (l := List.range 16) fun x hx => ?_)
  show ((List.replicate 16 0).getD x 0 != (s.join m).seen.getD x 0) = ((s.join m).seen.getD x 0 != if s.drill < m.getD 0 0 then 0 else s.seen.getD x 0)
  rw [if_pos h, show (List.replicate 16 0).getD x 0 = 0 by
    rw [List.getD_eq_getElem?_getD, List.getElem?_replicate, if_pos (List.mem_range.mp hx)]
    rfl]
  exact bne_comm
theorem ok_many_new (F : Fun K "many_new" "Station.many_new" sManyNew f fd) (T : TSt K C) (cP : Kon mg "PERSONS" 16) (Gd : GFn P w K mg base CX0 1 "drill_in" ["message"] (spDrillIn K))
    (Gu : GFn P w K mg base CX0 1 "many_unlike" ["some", "others"] (spUnlike K)) (Gb : GMe P w K mg base CX0 2 C "persons_behind" ["self", "message"] (spBehind K C)) : FnOk P w K mg base CX0 3 f fd ["self", "message"] (spManyNew K C) := by
  refine F.ok sc_many_new (fun vs H Q E h => ?_) (fun cdv A outer s H vs Q E hr h => ?_)
  · obtain ⟨_, _, _, _, _, _, rfl, _⟩ := h
    rfl
  · obtain ⟨a, p, h, b, st, m, rfl, S, O, hB, hl, q⟩ := h
    obtain ⟨dx, ob⟩ := S.ob
    refine ⟨_, pss_cons (ps_set (i := 2) sc_many_new.nd rfl (.inl rfl) (pe_fld (pv 0) rfl))
      (pss_cons (ps_if (pt_cmpR op_gt (pe_gcall Gd hr (pa_cons (pv 1) pa_nil) pass0) (pe_fld (pv 0) rfl) (nomark _)) (pss_one (ps_set (i := 2) sc_many_new.nd rfl (.inl rfl) (pe_op op_rep (pe_lst (pa_cons pe_int pa_nil)) (pe_k cP)))) pss_nil)
      (pss_one (ps_ret (pe_gcall Gu hr (pa_cons (pv 2) (pa_cons (pe_gmeth T.cl Gb hr (pv 0) (pa_cons (pv 1) pa_nil) pass0) pa_nil)) pass0)))), ?_⟩
    refine ⟨_, rfl, a, C, dx, _, _, rfl, ob, T.cl, T.persons, lk_persons _ _ _, ?_⟩
    refine ⟨_, rfl, b, m, rfl, hB, hl, _, rfl, a, C, dx, _, _, rfl, ob, T.cl, T.drill, lk_drill _ _ _, _, _, rfl, rfl, _, rfl, ite2 (fun e => ?_) (fun e => ?_)⟩
    · have e2 : (st.drill : Int) < ((m.getD 0 0 : Nat) : Int) := of_decide_eq_true e
      refine rep0 16 (by decide) fun H1 z s1 nz hz => ?_
      refine ⟨_, rfl, _, rfl, a, dx, _, rfl, s1 _ _ ob, st_nofld _ _ _ (by decide +kernel), _, rfl, a, p, h, b, st, m, rfl, S.same s1, O, s1.seq hB, hl, fun H2 D s2 nD hD => ?_⟩
      refine ⟨z, D, List.replicate 16 0, _, rfl, SqL.of (s2 _ _ hz), SqL.of hD, by rw [join_seen_len O hl]; rfl, by decide, fun H3 s3 => ?_⟩
      rw [show (List.replicate 16 0).length = 16 from rfl, newOf_gt (by omega)]
      exact q H3 ((s1.trans s2).trans s3)
    · have e2 : ¬ (st.drill : Int) < ((m.getD 0 0 : Nat) : Int) := fun z => e (decide_eq_true z)
      refine ⟨_, rfl, _, rfl, a, dx, _, rfl, ob, st_nofld _ _ _ (by decide +kernel), _, rfl, a, p, h, b, st, m, rfl, S, O, hB, hl, fun H2 D s2 nD hD => ?_⟩
      refine ⟨p, D, st.seen, _, rfl, SqL.of (s2 _ _ S.ps), SqL.of hD, by rw [join_seen_len O hl]; exact O.sl, by rw [O.sl]; decide, fun H3 s3 => ?_⟩
      rw [O.sl, newOf_le (by omega)]
      exact q H3 (s2.trans s3)
/-! ### hear -/
theorem sc_hear : FnScope ["self", "message", "persons"] ["self", "message"] (defScope sHear) := ⟨rfl, rfl, rfl, by decide +kernel, rfl, by decide +kernel, by decide +kernel⟩
def heard (s : Station) (m : List Nat) : Station := { s.join m with heard := min 100000 (s.heard + 1) }
def spHear (K : PySem.W.Frag) (C : Addr) : Sp := fun vs H Q _ => ∃ (a p h b : Addr) (s : Station) (m : List Nat), vs = [.ref a, .ref b] ∧ StAt C H a p h s ∧ Ok s ∧ SqL K H b (nI m) ∧ m.length = 22 ∧ 1 ≤ m.getD 0 0 ∧ p ≠ h ∧
  ∀ H' p' h', StAt C H' a p' h' (heard s m) → But a H H' → H p' = none → (h' = h ∨ H h' = none) → p' ≠ h' → Q .non H'
theorem But.seq {a b : Addr} {H H' : Hp} {xs : List V} {C dx : Addr} {fs : List (Str × V)} (x : But a H H') (ob : H a = some (.ins C dx fs)) (h : SqL K H b xs) : SqL K H' b xs := by
  have ne : ∀ u, H b = some u → (∀ C dx fs, u ≠ .ins C dx fs) → b ≠ a := fun u e n z => by
    rw [z, ob] at e
    exact n _ _ _ (Option.some.inj e).symm
  rcases h with (h | ⟨o, h⟩) | h
  · exact .inl (.inl (x _ _ h (ne _ h (by intro _ _ _ z; cases z))))
  · exact .inl (.inr ⟨o, x _ _ h (ne _ h (by intro _ _ _ z; cases z))⟩)
  · exact .inr h
theorem ok_hear (F : Fun K "hear" "Station.hear" sHear f fd) (T : TSt K C) (cM : Kon mg "MOST_HEARD" 100000) (mm : mg "min" = none) (Gd : GFn P w K mg base CX0 1 "drill_in" ["message"] (spDrillIn K))
    (Gn : GFn P w K mg base CX0 1 "news_in" ["message"] (spNewsIn K)) (Gg : GFn P w K mg base CX0 1 "greater_ones" ["some", "others"] (spGreater K))
    (Gf : GMe P w K mg base CX0 1 C "forget" ["self", "drill"] (spForget C)) (Gb : GMe P w K mg base CX0 2 C "persons_behind" ["self", "message"] (spBehind K C)) : FnOk P w K mg base CX0 3 f fd ["self", "message"] (spHear K C) := by
  refine F.ok sc_hear (fun vs H Q E h => ?_) (fun cdv A outer s H vs Q E hr h => ?_)
  · obtain ⟨_, _, _, _, _, _, rfl, _⟩ := h
    rfl
  · obtain ⟨a, p, h, b, st, m, rfl, S, O, hB, hl, h1, nph, q⟩ := h
    obtain ⟨dx, ob⟩ := S.ob
    refine ⟨_, pss_cons (ps_set (i := 2) sc_hear.nd rfl (.inl rfl) (pe_gmeth T.cl Gb hr (pv 0) (pa_cons (pv 1) pa_nil) pass0))
      (pss_cons (ps_if (pt_cmpR op_gt (pe_gcall Gd hr (pa_cons (pv 1) pa_nil) pass0) (pe_fld (pv 0) rfl) (nomark _)) (pss_one (ps_expr (pe_gmeth T.cl Gf hr (pv 0) (pa_cons (pe_gcall Gd hr (pa_cons (pv 1) pa_nil) pass0) pa_nil) pass0))) pss_nil)
      (pss_cons (ps_if (pt_cmpR op_eq (pe_gcall Gd hr (pa_cons (pv 1) pa_nil) pass0) (pe_fld (pv 0) rfl) (nomark _)) (pss_one (ps_fld (pv 0) (pe_gcall Gg hr (pa_cons (pe_fld (pv 0) rfl) (pa_cons (pe_gcall Gn hr (pa_cons (pv 1) pa_nil) pass0) pa_nil)) pass0) rfl)) pss_nil)
      (pss_cons (ps_fld (pv 0) (pv 2) rfl)
      (pss_one (ps_fld (pv 0) (pe_callB (call_min2 rfl) (by rfl) mm (by decide +kernel) (pa_cons (pe_k cM) (pa_cons (pe_op op_add (pe_fld (pv 0) rfl) pe_int) pa_nil))) rfl))))), ?_⟩
    -- what would be known of each person: a new list D
    refine ⟨_, rfl, a, dx, _, rfl, ob, st_nofld _ _ _ (by decide +kernel), _, rfl, a, p, h, b, st, m, rfl, S, O, hB, hl, fun H1 D s1 nD hD => ?_⟩
    have ob1 := s1 _ _ ob
    have hDa : D ≠ a := (ne_of_none ob nD).symm
    -- the end: from a heap where the station is t (its persons not yet stored) with what it has heard, its news of the joined one
    have fin : ∀ (H2 : Hp) (p2 h2 dx2 : Addr) (t : Station), H2 a = some (.ins C dx2 (stF t p2 h2)) → H2 h2 = some (.lst (nI (st.join m).news)) → H2 D = some (.lst (nI (st.join m).seen)) → t.me = st.me → t.minute = st.minute → t.drill = (st.join m).drill → t.heard = st.heard →
        But a H H2 → (h2 = h ∨ H h2 = none) → D ≠ h2 → h2 ≠ a →
        tSeq (sFld K (tVar 0) (tVar 2) "persons") (sFld K (tVar 0) (tCB (fun xs H Q => ∃ i j, xs = [V.int i, V.int j] ∧ Q (.int (if j < i then j else i)) H) (tCons (tC (.int 100000)) (tCons (tOp (rI0 fun i j => .int (i + j)) (tFld K (tVar 0) "many_heard") (tC (.int 1))) tNil))) "many_heard")
          { nx := fun _ H' => Q .non H', rt := Q } [some (.ref a), some (.ref b), some (.ref D)] H2 := by
      intro H2 p2 h2 dx2 t a2 hh2 hD2 e1 e2 e3 e4 b2 hor nDh nha
      refine ⟨_, rfl, _, rfl, a, C, dx2, _, rfl, a2, T.cl, T.persons, lt_k 6 rfl (by decide), ?_⟩
      rw [put_persons]
      refine gen_self _ _ _ fun H3 b3 a3 => ?_
      refine ⟨_, rfl, a, C, dx2, _, _, rfl, a3, T.cl, T.many, lk_many _ _ _, _, _, rfl, rfl, _, _, rfl, ?_⟩
      refine ⟨_, rfl, a, C, dx2, _, rfl, a3, T.cl, T.many, lt_k 6 rfl (by decide), ?_⟩
      rw [show (if ((t.heard : Nat) : Int) + 1 < 100000 then ((t.heard : Nat) : Int) + 1 else 100000) = ((min 100000 (t.heard + 1) : Nat) : Int) by split <;> omega, put_many]
      refine gen_self _ _ _ fun H4 b4 a4 => ?_
      refine q H4 D h2 ⟨⟨dx2, a4.trans ?_⟩, b4 _ _ (b3 _ _ hD2 hDa) hDa, b4 _ _ (b3 _ _ hh2 nha) nha⟩ ((b2.trans b3).trans b4) nD hor nDh
      have hj : (st.join m).me = st.me ∧ (st.join m).minute = st.minute := by
        rcases Nat.lt_trichotomy (m.getD 0 0) st.drill with e | e | e
        · rw [join_old e]
          exact ⟨rfl, rfl⟩
        · rw [join_same e]
          exact ⟨rfl, rfl⟩
        · rw [join_new e hl]
          exact ⟨rfl, rfl⟩
      show some (HO.ins C dx2 (stF { t with heard := min 100000 (t.heard + 1) } D h2)) = some (HO.ins C dx2 (stF { st.join m with heard := min 100000 (st.heard + 1) } D h2))
      unfold stF
      rw [e1, e2, e3, e4, hj.1, hj.2]
    have ln : (m.drop 17).length = 5 := by
      rw [List.length_drop, hl]
    refine ⟨_, rfl, b, m, rfl, s1.seq hB, hl, _, rfl, a, C, dx, _, _, rfl, ob1, T.cl, T.drill, lk_drill _ _ _, _, _, rfl, rfl, _, rfl, ite2 (fun e => ?_) (fun e => ?_)⟩
    · -- a later drill is joined
      have e2 : (st.drill : Int) < ((m.getD 0 0 : Nat) : Int) := of_decide_eq_true e
      have lt : st.drill < m.getD 0 0 := by omega
      refine ⟨_, rfl, a, dx, _, rfl, ob1, st_nofld _ _ _ (by decide +kernel), _, rfl, b, m, rfl, s1.seq hB, hl, a, p, h, st, m.getD 0 0, rfl, S.same s1, fun H2 p2 h2 S2 b2 np2 nh2 nph2 => ?_⟩
      obtain ⟨dx2, ob2⟩ := S2.ob
      have hB2 := b2.seq ob1 (s1.seq hB)
      have hD2 := b2 _ _ hD hDa
      refine ⟨_, rfl, b, m, rfl, hB2, hl, _, rfl, a, C, dx2, _, _, rfl, ob2, T.cl, T.drill, lk_drill _ _ _, rfl, _, rfl, ?_⟩
      rw [decide_eq_true (show V.int ((m.getD 0 0 : Nat) : Int) = V.int (((st.fresh (m.getD 0 0)).drill : Nat) : Int) from rfl)]
      refine iteT ?_
      refine ⟨_, rfl, a, C, dx2, _, _, rfl, ob2, T.cl, T.heard_of, lk_heard_of _ _ _, _, rfl, b, m, rfl, hB2, hl, fun l nl => ?_⟩
      refine gen_new _ _ _ nl fun H3 s3 e3 => ?_
      refine ⟨h2, l, List.replicate 5 0, _, rfl, SqL.of (s3 _ _ S2.hs), SqL.of e3, by rw [ln]; rfl, by decide, fun H4 g s4 ng hg => ?_⟩
      have s24 := s3.trans s4
      have ng2 : H2 g = none := s3.free ng
      have nga : g ≠ a := (ne_of_none ob2 ng2).symm
      refine ⟨_, rfl, a, C, dx2, _, rfl, s24 _ _ ob2, T.cl, T.heard_of, lt_k 6 rfl (by decide), ?_⟩
      rw [put_heard_of]
      refine gen_self _ _ _ fun H5 b5 a5 => ?_
      have b25 : But a H2 H5 := (But.of s24).trans b5
      have b15 : But a H1 H5 := b2.trans b25
      refine fin H5 p2 g dx2 (st.fresh (m.getD 0 0)) a5 ?_ (b25 _ _ hD2 hDa) rfl rfl ?_ rfl ((But.of s1).trans b15) (.inr (s1.free (b2.none ng2 nga))) (ne_of_none hD2 ng2) nga
      · rw [join_new lt hl]
        exact b5 _ _ hg nga
      · rw [join_new lt hl]
        rfl
    · have e2 : ¬ (st.drill : Int) < ((m.getD 0 0 : Nat) : Int) := fun z => e (decide_eq_true z)
      refine ⟨_, rfl, b, m, rfl, s1.seq hB, hl, _, rfl, a, C, dx, _, _, rfl, ob1, T.cl, T.drill, lk_drill _ _ _, rfl, _, rfl, ite2 (fun e3 => ?_) (fun e3 => ?_)⟩
      · have e4 : m.getD 0 0 = st.drill := by
          have := V.int.inj (of_decide_eq_true e3)
          omega
        refine ⟨_, rfl, a, C, dx, _, _, rfl, ob1, T.cl, T.heard_of, lk_heard_of _ _ _, _, rfl, b, m, rfl, s1.seq hB, hl, fun l nl => ?_⟩
        refine gen_new _ _ _ nl fun H3 s3 e3 => ?_
        refine ⟨h, l, st.news, _, rfl, SqL.of (s3 _ _ (s1 _ _ S.hs)), SqL.of e3, by rw [ln]; exact O.nl, by rw [O.nl]; decide, fun H4 g s4 ng hg => ?_⟩
        have s14 := s3.trans s4
        have ng1 : H1 g = none := s3.free ng
        have nga : g ≠ a := (ne_of_none ob1 ng1).symm
        refine ⟨_, rfl, a, C, dx, _, rfl, s14 _ _ ob1, T.cl, T.heard_of, lt_k 6 rfl (by decide), ?_⟩
        rw [put_heard_of]
        refine gen_self _ _ _ fun H5 b5 a5 => ?_
        have b15 : But a H1 H5 := (But.of s14).trans b5
        refine fin H5 p g dx st a5 ?_ (b15 _ _ hD hDa) rfl rfl ?_ rfl ((But.of s1).trans b15) (.inr (s1.free ng1)) (ne_of_none hD ng1) nga
        · rw [join_same e4]
          exact b5 _ _ hg nga
        · rw [join_same e4]
      · have e4 : m.getD 0 0 < st.drill := by
          have : m.getD 0 0 ≠ st.drill := fun z => e3 (decide_eq_true (by rw [z]))
          omega
        refine fin H1 p h dx st ob1 ?_ hD rfl rfl ?_ rfl (But.of s1) (.inl rfl) (ne_of_none S.hs nD).symm (ne_of S.hs ob (by intro z; cases z))
        · rw [join_old e4]
          exact s1 _ _ S.hs
        · rw [join_old e4]
/-! ### who_is_in, who_is_out, who_is_at -/
abbrev sWhoIn : Stmt := inClass (top 20) 9
abbrev sWhoOut : Stmt := inClass (top 20) 10
abbrev sWhoAt : Stmt := inClass (top 20) 11
theorem sc_who_in : FnScope ["self", "p", "known"] ["self"] (defScope sWhoIn) := ⟨rfl, rfl, rfl, by decide +kernel, rfl, by decide +kernel, by decide +kernel⟩
theorem sc_who_out : FnScope ["self", "p", "known"] ["self"] (defScope sWhoOut) := ⟨rfl, rfl, rfl, by decide +kernel, rfl, by decide +kernel, by decide +kernel⟩
def spWho (C : Addr) (g : Station → List Nat) : Sp := fun vs H Q _ => ∃ (a p h : Addr) (s : Station), vs = [.ref a] ∧ StAt C H a p h s ∧ Ok s ∧ ∀ H' D, Same H H' → H D = none → H' D = some (.lst (nI (g s))) → Q (.ref D) H'
theorem range_step (n : Nat) (p : Nat → Bool) : (List.range (n + 1)).filter p = (List.range n).filter p ++ if p n = true then [n] else [] := by
  rw [List.range_succ, List.filter_append]
  congr 1
  by_cases e : p n = true
  · rw [if_pos e, List.filter_cons_of_pos e]
    rfl
  · rw [if_neg e, List.filter_cons_of_neg e]
    rfl
theorem ok_who_in (F : Fun K "who_is_in" "Station.who_is_in" sWhoIn f fd) (T : TSt K C) (me : mg "enumerate" = none) : FnOk P w K mg base CX0 1 f fd ["self"] (spWho C Station.in_) := by
  refine F.ok sc_who_in (fun vs H Q E h => ?_) (fun cdv A outer s H vs Q E hr h => ?_)
  · obtain ⟨_, _, _, _, rfl, _⟩ := h
    rfl
  · obtain ⟨a, p, h, st, rfl, S, O, q⟩ := h
    obtain ⟨dx, ob⟩ := S.ob
    refine ⟨_, pss_one (ps_ret (pe_lc (own := [("p", 1), ("known", 2)]) (g := gTup K 2 (gCons (gName 1) (gCons (gName 2) gNil))) rfl sc_who_in.nd (pi_enum (by rfl) me (pa_cons (pe_fld (pv 0) rfl) pa_nil))
      (blkOk_by (N := ["self", "p", "known"]) (sc := defScope sWhoIn) (by decide +kernel))
      (fun _ _ _ _ _ => pg_tup rfl (pgs_cons (pg_name (i := 1) sc_who_in.nd rfl (Or.inl rfl)) (pgs_cons (pg_name (i := 2) sc_who_in.nd rfl (Or.inl rfl)) pgs_nil))) (fun _ _ _ _ _ => pts_one (pt_cmpR op_gt (pv 2) pe_int (nomark _)))
      (fun _ _ _ _ _ => pv 1))), ?_⟩
    refine ⟨_, rfl, a, C, dx, _, _, rfl, ob, T.cl, T.persons, lk_persons _ _ _, p, _, rfl, SqL.of S.ps, fun D nD => ?_⟩
    refine lc_run (walk_enum (K := K) (a := p) (xs := nI st.seen)) nD (fun H' s' => SqL.of (s' _ _ S.ps)) (fun i => nI ((List.range i).filter fun p => st.know p != 0)) rfl (by rw [nI_length, O.sl]; decide)
      (fun i hi => by rw [nI_length]; exact Nat.le_trans (List.length_filter_le _ _) (by rw [List.length_range]; exact Nat.le_refl _)) (fun i x H2 H3 Nx Ny hi sm hD y kN kY => ?_) (fun H2 sm hD => ?_)
    · obtain ⟨t, x1, x2, rfl, nt, rfl, h1, h2⟩ := y
      cases h1
      obtain ⟨n, e2, rfl⟩ := nI_some h2
      have d1 : st.know i = n := by rw [know_at, List.getD_eq_getElem?_getD, e2]; rfl
      refine ⟨t, _, rfl, SqT.of upd_same, rfl, _, _, rfl, _, _, rfl, rfl, rfl, _, rfl, _, _, rfl, rfl, _, rfl, ?_⟩
      by_cases e : n = 0
      · rw [show decide ((0 : Int) < (n : Int)) = false from decide_eq_false (by omega)]
        refine kN _ (same_new nt) ?_
        show nI ((List.range (i + 1)).filter fun p => st.know p != 0) = _
        rw [range_step, if_neg (by rw [d1, e]; decide), List.append_nil]
      · rw [show decide ((0 : Int) < (n : Int)) = true from decide_eq_true (by omega)]
        refine ⟨_, rfl, kY _ _ (same_new nt) ?_⟩
        show nI ((List.range (i + 1)).filter fun p => st.know p != 0) = _
        rw [range_step, if_pos (by rw [d1]; simpa using e), nI_app]
        rfl
    · rw [nI_length, O.sl] at hD
      exact q H2 D sm nD hD
theorem ok_who_out (F : Fun K "who_is_out" "Station.who_is_out" sWhoOut f fd) (T : TSt K C) (me : mg "enumerate" = none) : FnOk P w K mg base CX0 1 f fd ["self"] (spWho C Station.missing) := by
  refine F.ok sc_who_out (fun vs H Q E h => ?_) (fun cdv A outer s H vs Q E hr h => ?_)
  · obtain ⟨_, _, _, _, rfl, _⟩ := h
    rfl
  · obtain ⟨a, p, h, st, rfl, S, O, q⟩ := h
    obtain ⟨dx, ob⟩ := S.ob
    refine ⟨_, pss_one (ps_ret (pe_lc (own := [("p", 1), ("known", 2)]) (g := gTup K 2 (gCons (gName 1) (gCons (gName 2) gNil))) rfl sc_who_out.nd (pi_enum (by rfl) me (pa_cons (pe_fld (pv 0) rfl) pa_nil))
      (blkOk_by (N := ["self", "p", "known"]) (sc := defScope sWhoOut) (by decide +kernel))
      (fun _ _ _ _ _ => pg_tup rfl (pgs_cons (pg_name (i := 1) sc_who_out.nd rfl (Or.inl rfl)) (pgs_cons (pg_name (i := 2) sc_who_out.nd rfl (Or.inl rfl)) pgs_nil))) (fun _ _ _ _ _ => pts_one (pt_cmpR op_eq (pv 2) pe_int (nomark _)))
      (fun _ _ _ _ _ => pv 1))), ?_⟩
    refine ⟨_, rfl, a, C, dx, _, _, rfl, ob, T.cl, T.persons, lk_persons _ _ _, p, _, rfl, SqL.of S.ps, fun D nD => ?_⟩
    refine lc_run (walk_enum (K := K) (a := p) (xs := nI st.seen)) nD (fun H' s' => SqL.of (s' _ _ S.ps)) (fun i => nI ((List.range i).filter fun p => st.know p == 0)) rfl (by rw [nI_length, O.sl]; decide)
      (fun i hi => by rw [nI_length]; exact Nat.le_trans (List.length_filter_le _ _) (by rw [List.length_range]; exact Nat.le_refl _)) (fun i x H2 H3 Nx Ny hi sm hD y kN kY => ?_) (fun H2 sm hD => ?_)
    · obtain ⟨t, x1, x2, rfl, nt, rfl, h1, h2⟩ := y
      cases h1
      obtain ⟨n, e2, rfl⟩ := nI_some h2
      have d1 : st.know i = n := by rw [know_at, List.getD_eq_getElem?_getD, e2]; rfl
      refine ⟨t, _, rfl, SqT.of upd_same, rfl, _, _, rfl, _, _, rfl, rfl, rfl, _, rfl, rfl, _, rfl, ?_⟩
      by_cases e : n = 0
      · rw [show decide (V.int (n : Int) = V.int 0) = true from decide_eq_true (by rw [e]; rfl)]
        refine ⟨_, rfl, kY _ _ (same_new nt) ?_⟩
        show nI ((List.range (i + 1)).filter fun p => st.know p == 0) = _
        rw [range_step, if_pos (by rw [d1, e]; decide), nI_app]
        rfl
      · rw [show decide (V.int (n : Int) = V.int 0) = false from decide_eq_false (fun z => e (by have := V.int.inj z; omega))]
        refine kN _ (same_new nt) ?_
        show nI ((List.range (i + 1)).filter fun p => st.know p == 0) = _
        rw [range_step, if_neg (by rw [d1]; simpa using e), List.append_nil]
    · rw [nI_length, O.sl] at hD
      exact q H2 D sm nD hD
theorem sc_who_at : FnScope ["self", "k", "p"] ["self", "k"] (defScope sWhoAt) := ⟨rfl, rfl, rfl, by decide +kernel, rfl, by decide +kernel, by decide +kernel⟩
def spWhoAt (C : Addr) : Sp := fun vs H Q _ => ∃ (a p h : Addr) (s : Station) (k : Nat), vs = [.ref a, .int (k : Int)] ∧ StAt C H a p h s ∧ Ok s ∧ ∀ H' D, Same H H' → H D = none → H' D = some (.lst (nI (s.at_ k))) → Q (.ref D) H'
theorem at_of_in (s : Station) (k : Nat) : s.in_.filter (fun p => s.know p % 8 == k + 1) = s.at_ k := by
  unfold Station.in_ Station.at_
  rw [List.filter_filter]
  refine List.filter_congr fun p _ => ?_
  by_cases e : s.know p = 0
  · rw [e]
    simp
  · rw [show (s.know p != 0) = true by simpa using e, Bool.and_true]
theorem in_len (s : Station) : s.in_.length ≤ 16 := by
  unfold Station.in_
  exact Nat.le_trans (List.length_filter_le _ _) (by rw [List.length_range]; decide)
theorem in_lt {s : Station} {p : Nat} (h : p ∈ s.in_) : p < 16 := List.mem_range.mp (List.mem_filter.mp h).1
theorem filter_more {l : List Nat} {i n : Nat} (h : l[i]? = some n) (p : Nat → Bool) : (l.take (i + 1)).filter p = (l.take i).filter p ++ if p n = true then [n] else [] := by
  rw [take_more h, List.filter_append]
  congr 1
  by_cases e : p n = true
  · rw [if_pos e, List.filter_cons_of_pos e]
    rfl
  · rw [if_neg e, List.filter_cons_of_neg e]
    rfl
theorem ok_who_at (F : Fun K "who_is_at" "Station.who_is_at" sWhoAt f fd) (T : TSt K C) (Gi : GMe P w K mg base CX0 1 C "who_is_in" ["self"] (spWho C Station.in_)) (Gp : GFn P w K mg base CX0 1 "place_of" ["known"] spPlaceOf) :
    FnOk P w K mg base CX0 2 f fd ["self", "k"] (spWhoAt C) := by
  refine F.ok sc_who_at (fun vs H Q E h => ?_) (fun cdv A outer s H vs Q E hr h => ?_)
  · obtain ⟨_, _, _, _, _, rfl, _⟩ := h
    rfl
  · obtain ⟨a, p, h, st, k, rfl, S, O, q⟩ := h
    obtain ⟨dx, ob⟩ := S.ob
    refine ⟨_, pss_one (ps_ret (pe_lc (own := [("p", 2)]) (g := gName 2) (tt := tTest (tOp rEq (tCall spPlaceOf [] E0 (tCons (tOp (rIxL K) (tFld K (tVar 0) "persons") (tVar 2)) tNil)) (tVar 1))) rfl sc_who_at.nd (pi_list (pe_gmeth0 T.cl Gi hr (pv 0) pass0))
      (blkOk_by (N := ["self", "k", "p"]) (sc := defScope sWhoAt) (by decide +kernel))
      (fun _ _ _ _ _ => pg_name (i := 2) sc_who_at.nd rfl (Or.inl rfl)) (fun _ _ _ _ _ => pts_one (pt_cmpR op_eq (pe_gcall Gp hr (by exact (pa_cons (pe_ix ix_list (pe_fld (pv 0) rfl) (pv 2) (fun _ _ => rfl)) pa_nil)) pass0) (pv 1) (nomark _)))
      (fun _ _ _ _ _ => pv 2))), ?_⟩
    refine ⟨_, rfl, a, dx, _, rfl, ob, st_nofld _ _ _ (by decide +kernel), a, p, h, st, rfl, S, O, fun H1 l s1 nl hl => ⟨l, rfl, ⟨_, SqL.of hl⟩, fun D nD => ?_⟩⟩
    refine lc_run (walk_list (K := K) (a := l) (xs := nI st.in_)) nD (fun H' s' => SqL.of (s' _ _ hl)) (fun i => nI ((st.in_.take i).filter fun p => st.know p % 8 == k + 1)) rfl (by rw [nI_length]; exact Nat.le_trans (in_len st) (by decide))
      (fun i hi => by rw [nI_length]; exact Nat.le_trans (List.length_filter_le _ _) (by rw [List.length_take]; exact Nat.min_le_left _ _)) (fun i x H2 H3 Nx Ny hi sm hD y kN kY => ?_) (fun H2 sm hD => ?_)
    · obtain ⟨rfl, hx⟩ := y
      obtain ⟨n, hn, rfl⟩ := nI_some hx
      have hm : n ∈ st.in_ := List.mem_of_getElem? hn
      have hkn : st.know n ≠ 0 := by
        have := (List.mem_filter.mp hm).2
        simpa using this
      have hk8 : 1 ≤ st.know n % 8 := by
        have h1 := O.sk (st.know n) (by
          rw [know_at, List.getD_eq_getElem?_getD, List.getElem?_eq_getElem (by rw [O.sl]; exact in_lt hm)]
          exact List.getElem_mem _)
        unfold okK at h1
        simp only [Bool.or_eq_true, beq_iff_eq, Bool.and_eq_true, decide_eq_true_eq] at h1
        rcases h1 with h1 | h1
        · exact absurd h1 hkn
        · exact h1.1
      have s3 := s1.trans sm
      refine ⟨rfl, _, rfl, a, C, dx, _, _, rfl, s3 _ _ ob, T.cl, T.persons, lk_persons _ _ _, _, rfl, p, _, (n : Int), _, rfl, rfl, SqL.of (s3 _ _ S.ps), atI_nat (nI_at (getD_some (by rw [O.sl]; exact in_lt hm))), st.know n, rfl, _, rfl, rfl, _, rfl, ?_⟩
      by_cases e : st.know n % 8 = k + 1
      · rw [show decide (V.int (((st.know n % 8 : Nat) : Int) - 1) = V.int (k : Int)) = true from decide_eq_true (by rw [show ((st.know n % 8 : Nat) : Int) - 1 = (k : Int) by omega])]
        refine ⟨_, rfl, kY _ _ (Same.refl _) ?_⟩
        show nI ((st.in_.take (i + 1)).filter fun p => st.know p % 8 == k + 1) = _
        rw [filter_more hn, if_pos (by simpa using e), nI_app]
        rfl
      · rw [show decide (V.int (((st.know n % 8 : Nat) : Int) - 1) = V.int (k : Int)) = false from decide_eq_false (fun z => e (by have := V.int.inj z; omega))]
        refine kN _ (Same.refl _) ?_
        show nI ((st.in_.take (i + 1)).filter fun p => st.know p % 8 == k + 1) = _
        rw [filter_more hn, if_neg (by simpa using e), List.append_nil]
    · rw [nI_length, List.take_length, at_of_in] at hD
      exact q H2 D (s1.trans sm) (s1.free nD) hD
end
end Sm
namespace Sm
open PySem PySem.Spec PyProof.Rows L2
open Km441 (Station merge)
/-! ### the least, the last -/
theorem foldmin_le (f : Nat → Nat) : ∀ (l : List Nat) (r : Nat), l.foldl (fun r k => min r (f k)) r ≤ r ∧ ∀ k ∈ l, l.foldl (fun r k => min r (f k)) r ≤ f k
  | [], r => ⟨Nat.le_refl _, fun k hk => by cases hk⟩
  | a :: l, r => by
    rw [List.foldl_cons]
    obtain ⟨h1, h2⟩ := foldmin_le f l (min r (f a))
    refine ⟨by omega, fun k hk => ?_⟩
    rcases List.mem_cons.mp hk with e | hk
    · rw [e]
      omega
    · exact h2 k hk
theorem foldmin_in (f : Nat → Nat) : ∀ (l : List Nat) (r : Nat), l.foldl (fun r k => min r (f k)) r = r ∨ ∃ k ∈ l, l.foldl (fun r k => min r (f k)) r = f k
  | [], r => .inl rfl
  | a :: l, r => by
    rw [List.foldl_cons]
    rcases foldmin_in f l (min r (f a)) with h | ⟨k, hk, h⟩
    · by_cases e : r ≤ f a
      · exact .inl (h.trans (Nat.min_eq_left e))
      · exact .inr ⟨a, List.mem_cons_self, h.trans (Nat.min_eq_right (by omega))⟩
    · exact .inr ⟨k, List.mem_cons_of_mem _ hk, h⟩
theorem now_le {s : Station} (O : Ok s) : ∀ x ∈ s.now.news, x ≤ 100000 := fun x hx => by
  have h : x ∈ s.news.set s.me s.minute := hx
  rcases List.mem_or_eq_of_mem_set h with h | h
  · exact O.nk x h
  · rw [h]
    exact O.mi
theorem now_len {s : Station} (O : Ok s) : s.now.news.length = 5 := by
  show (s.news.set s.me s.minute).length = 5
  rw [List.length_set]
  exact O.nl
theorem least_eq {s : Station} (O : Ok s) {n : Nat} (h5 : n ≤ 5) {m : Int} (hm : m ∈ (s.now.news.take n).map fun (x : Nat) => (x : Int)) (hle : ∀ y ∈ (s.now.news.take n).map fun (x : Nat) => (x : Int), m ≤ y) : m = ((s.least n : Nat) : Int) := by
  obtain ⟨x, hx, rfl⟩ := List.mem_map.mp hm
  obtain ⟨k, hk, e⟩ := List.mem_take_iff_getElem.mp hx
  have hk' : k < n ∧ k < s.now.news.length := by omega
  have ek : s.now.news.getD k 0 = x := by rw [List.getD_eq_getElem?_getD, List.getElem?_eq_getElem hk'.2, e]; rfl
  obtain ⟨_, a2⟩ := foldmin_le (fun k => s.now.news.getD k 0) (List.range n) Km441.LATEST
  have l1 : s.least n ≤ x := by
    have := a2 k (List.mem_range.mpr hk'.1)
    rw [ek] at this
    exact this
  have l2 : x ≤ s.least n := by
    rcases foldmin_in (fun k => s.now.news.getD k 0) (List.range n) Km441.LATEST with h | ⟨j, hj, h⟩
    · have e2 : s.least n = 100000 := h
      rw [e2]
      exact now_le O x (List.mem_of_mem_take hx)
    · have e2 : s.least n = s.now.news.getD j 0 := h
      have hj' := List.mem_range.mp hj
      have hj2 : j < s.now.news.length := by rw [now_len O]; omega
      have := hle _ (List.mem_map.mpr ⟨s.now.news[j], List.mem_take_iff_getElem.mpr ⟨j, by omega, rfl⟩, rfl⟩)
      rw [e2, List.getD_eq_getElem?_getD, List.getElem?_eq_getElem hj2]
      show x ≤ s.now.news[j]
      omega
  omega
/-- mu_last's turn -/
def lastF (s : Station) (r : Option Nat) (p : Nat) : Option Nat := match r with
  | none => some p
  | some q => if s.know q ≤ s.know p then some p else some q
theorem last_fold (s : Station) : s.last = s.in_.foldl (lastF s) none := rfl
theorem last_max (s : Station) : ∀ (l : List Nat) (q : Nat), (q :: l).Pairwise (· < ·) → l.foldl (lastF s) (some q) = some (max2 (s.know q, q) (l.map fun p => (s.know p, p))).2
  | [], q, _ => rfl
  | p :: l, q, h => by
    obtain ⟨h1, h2⟩ := List.pairwise_cons.mp h
    obtain ⟨h3, h4⟩ := List.pairwise_cons.mp h2
    have hqp := h1 p List.mem_cons_self
    unfold max2
    rw [List.map_cons, List.foldl_cons, List.foldl_cons]
    show l.foldl (lastF s) (if s.know q ≤ s.know p then some p else some q) = _
    by_cases e : s.know q ≤ s.know p
    · rw [if_pos e, if_pos (show lt2 (s.know q, q) (s.know p, p) = true from decide_eq_true (by show s.know q < s.know p ∨ (s.know q = s.know p ∧ q < p); omega))]
      exact last_max s l p h2
    · rw [if_neg e, if_neg (show ¬ lt2 (s.know q, q) (s.know p, p) = true from fun z => by
        have z' : s.know q < s.know p ∨ (s.know q = s.know p ∧ q < p) := of_decide_eq_true z
        omega)]
      exact last_max s l q (List.pairwise_cons.mpr ⟨fun x hx => h1 x (List.mem_cons_of_mem _ hx), h4⟩)
theorem in_sorted (s : Station) : s.in_.Pairwise (· < ·) := List.Pairwise.filter _ List.pairwise_lt_range
section
variable {P : Program} {w : World} {K : PySem.W.Frag} {mg : Str → Option Value} {base : Heap} {f C : Addr} {fd : FuncData}
abbrev sSoonest : Stmt := inClass (top 20) 12
abbrev sLastIn : Stmt := inClass (top 20) 13
theorem sc_soonest : FnScope ["self", "n", "some", "k", "minute"] ["self", "n"] (defScope sSoonest) := ⟨rfl, rfl, rfl, by decide +kernel, rfl, by decide +kernel, by decide +kernel⟩
def soonBits (s : Station) (n : Nat) : Nat := Km441.bits ((List.range n).filter fun k => s.now.news.getD k 0 == s.least n)
def spSoonest (C : Addr) : Sp := fun vs H Q _ => ∃ (a p h : Addr) (s : Station) (n : Nat), vs = [.ref a, .int (n : Int)] ∧ StAt C H a p h s ∧ Ok s ∧ 1 ≤ n ∧ n ≤ 5 ∧
  ∀ H' t, Same H H' → H t = none → H' t = some (.tup [.int ((s.least n : Nat) : Int), .int ((soonBits s n : Nat) : Int)]) → Q (.ref t) H'
theorem ok_soonest (F : Fun K "soonest" "Station.soonest" sSoonest f fd) (T : TSt K C) (mm : mg "min" = none) (me : mg "enumerate" = none) (Gn : GMe P w K mg base CX0 1 C "news" ["self"] (spNews C)) (Gb : GFn P w K mg base CX0 1 "bits_of" ["numbers"] (spBits K)) :
    FnOk P w K mg base CX0 2 f fd ["self", "n"] (spSoonest C) := by
  refine F.ok sc_soonest (fun vs H Q E h => ?_) (fun cdv A outer s H vs Q E hr h => ?_)
  · obtain ⟨_, _, _, _, _, rfl, _⟩ := h
    rfl
  · obtain ⟨a, p, h, st, n, rfl, S, O, h1, h5, q⟩ := h
    obtain ⟨dx, ob⟩ := S.ob
    refine ⟨_, pss_cons (ps_set (i := 2) sc_soonest.nd rfl (.inr rfl) (pe_slice sl_list (pe_gmeth0 T.cl Gn hr (pv 0) pass0) po_none (po_some (pv 1))))
      (pss_one (ps_ret (pe_tup (pa_cons (pe_callB (cr_min rfl) (by rfl) mm (by decide +kernel) (pa_cons (pv 2) pa_nil)) (pa_cons (pe_gcall Gb hr (pa_cons
        (pe_lc (own := [("k", 3), ("minute", 4)]) (g := gTup K 2 (gCons (gName 3) (gCons (gName 4) gNil))) (tt := tTest (tOp rEq (tVar 4) (tCB (rMin K) (tCons (tVar 2) tNil)))) rfl sc_soonest.nd (pi_enum (by rfl) me (pa_cons (pv 2) pa_nil))
          (blkOk_by (N := ["self", "n", "some", "k", "minute"]) (sc := defScope sSoonest) (by decide +kernel))
          (fun _ _ _ _ _ => pg_tup rfl (pgs_cons (pg_name (i := 3) sc_soonest.nd rfl (Or.inl rfl)) (pgs_cons (pg_name (i := 4) sc_soonest.nd rfl (Or.inl rfl)) pgs_nil)))
          (fun _ _ _ _ _ => pts_one (pt_cmpR op_eq (pv 4) (pe_callB (cr_min rfl) (by rfl) mm (by decide +kernel) (pa_cons (pv 2) pa_nil)) (nomark _)))
          (fun _ _ _ _ _ => pv 3)) pa_nil) pass0) pa_nil))))), ?_⟩
    refine ⟨_, rfl, a, dx, _, rfl, ob, st_nofld _ _ _ (by decide +kernel), a, p, h, st, rfl, S, O, fun H1 l s1 nl hl => ?_⟩
    refine ⟨_, rfl, _, rfl, l, _, rfl, SqL.of hl, fun D nD => ?_⟩
    rw [cut_to _ n (by rw [nI_length, now_len O]; exact h5), show (nI st.now.news).take n = nI (st.now.news.take n) from (List.map_take ..).symm]
    refine gen_new _ _ _ nD fun H2 s2 hD => ?_
    have s12 := s1.trans s2
    have lt : (st.now.news.take n).length = n := by
      rw [List.length_take, now_len O]
      omega
    have hS2 : SqL K H2 D (((st.now.news.take n).map fun (x : Nat) => (x : Int)).map V.int) := by
      rw [← nI_ints]
      exact SqL.of hD
    -- min(some)
    refine ⟨_, rfl, D, _, rfl, hS2, by rw [List.length_map, lt]; omega, fun m hm hle => ?_⟩
    rw [least_eq O h5 hm hle]
    -- the comprehension
    refine ⟨_, rfl, D, _, rfl, SqL.of hD, fun G nG => ?_⟩
    refine lc_run (walk_enum (K := K) (a := D) (xs := nI (st.now.news.take n))) nG (fun H' s' => SqL.of (s' _ _ hD)) (fun i => nI ((List.range i).filter fun k => st.now.news.getD k 0 == st.least n)) rfl (by rw [nI_length, lt]; omega)
      (fun i hi => by rw [nI_length]; exact Nat.le_trans (List.length_filter_le _ _) (by rw [List.length_range]; exact Nat.le_refl _)) (fun i x H3 H4 Nx Ny hi sm hG y kN kY => ?_) (fun H3 sm hG => ?_)
    · obtain ⟨t, x1, x2, rfl, nt, rfl, e1, e2⟩ := y
      cases e1
      obtain ⟨v, ev, rfl⟩ := nI_some e2
      rw [nI_length, lt] at hi
      have d1 : st.now.news.getD i 0 = v := by
        rw [List.getElem?_take, if_pos hi] at ev
        rw [List.getD_eq_getElem?_getD, ev]
        rfl
      have sT := same_new (o := .tup [V.int ((i : Nat) : Int), V.int (v : Int)]) nt
      refine ⟨t, _, rfl, SqT.of upd_same, rfl, _, _, rfl, _, _, rfl, rfl, rfl, _, rfl, _, rfl, D, _, rfl, (sm.trans sT).seq hS2, by rw [List.length_map, lt]; omega, fun m2 hm2 hle2 => ?_⟩
      rw [least_eq O h5 hm2 hle2]
      refine ⟨rfl, _, rfl, ?_⟩
      by_cases e : v = st.least n
      · rw [show decide (V.int (v : Int) = V.int ((st.least n : Nat) : Int)) = true from decide_eq_true (by rw [e])]
        refine ⟨_, rfl, kY _ _ sT ?_⟩
        show nI ((List.range (i + 1)).filter fun k => st.now.news.getD k 0 == st.least n) = _
        rw [range_step, if_pos (by rw [d1]; simpa using e), nI_app]
        rfl
      · rw [show decide (V.int (v : Int) = V.int ((st.least n : Nat) : Int)) = false from decide_eq_false (fun z => e (by have := V.int.inj z; omega))]
        refine kN _ sT ?_
        show nI ((List.range (i + 1)).filter fun k => st.now.news.getD k 0 == st.least n) = _
        rw [range_step, if_neg (by rw [d1]; simpa using e), List.append_nil]
    · rw [nI_length, lt] at hG
      refine ⟨G, _, rfl, SqL.of hG, Nat.le_trans (List.length_filter_le _ _) (by rw [List.length_range]; omega), fun x hx => ?_, fun H4 s4 => ?_⟩
      · have := List.mem_range.mp (List.mem_filter.mp hx).1
        omega
      · refine ⟨le_line (by show 2 ≤ 1000; decide), fun t nt => ?_⟩
        have s14 := (s12.trans sm).trans s4
        exact q _ t (snew s14 nt) (s14.free nt) upd_same
/-! ### last_in -/
theorem hu3 {k : Nat} {A : Around} (hr : Room k A) : A.units + 1 + 2 < cLine := by
  have := hr.units
  omega
theorem sc_last_in : FnScope ["self", "p"] ["self"] (defScope sLastIn) := ⟨rfl, rfl, rfl, by decide +kernel, rfl, by decide +kernel, by decide +kernel⟩
def spLastIn (C : Addr) : Sp := fun vs H Q _ => ∃ (a p h : Addr) (s : Station) (b : Nat), vs = [.ref a] ∧ StAt C H a p h s ∧ Ok s ∧ s.last = some b ∧ ∀ H', Same H H' → Q (.int (b : Int)) H'
theorem ok_last_in (F : Fun K "last_in" "Station.last_in" sLastIn f fd) (T : TSt K C) (mm : mg "max" = none) (Gi : GMe P w K mg base CX0 1 C "who_is_in" ["self"] (spWho C Station.in_)) : FnOk P w K mg base CX0 2 f fd ["self"] (spLastIn C) := by
  refine F.ok sc_last_in (fun vs H Q E h => ?_) (fun cdv A outer s H vs Q E hr h => ?_)
  · obtain ⟨_, _, _, _, _, rfl, _⟩ := h
    rfl
  · obtain ⟨a, p, h, st, b, rfl, S, O, hb, q⟩ := h
    obtain ⟨dx, ob⟩ := S.ob
    refine ⟨_, pss_one (ps_ret (pe_ix ix_tup (pe_callB (cr_maxP rfl (hu3 hr)) (by rfl) mm (by decide +kernel) (pa_cons
      (pe_lc (own := [("p", 1)]) (g := gName 1) (tt := tYes) (te := tTup (tCons (tOp (rIxL K) (tFld K (tVar 0) "persons") (tVar 1)) (tCons (tVar 1) tNil))) rfl sc_last_in.nd (pi_list (pe_gmeth0 T.cl Gi hr (pv 0) pass0))
        (blkOk_by (N := ["self", "p"]) (sc := defScope sLastIn) (by decide +kernel)) (fun _ _ _ _ _ => pg_name (i := 1) sc_last_in.nd rfl (Or.inl rfl)) (fun _ _ _ _ _ => pts_nil)
        (fun _ _ _ _ _ => pe_tup (by exact (pa_cons (pe_ix ix_list (pe_fld (pv 0) rfl) (pv 1) (fun _ _ => rfl)) (pa_cons (pv 1) pa_nil))))) pa_nil)) pe_int (fun _ _ => rfl))), ?_⟩
    refine ⟨_, rfl, a, dx, _, rfl, ob, st_nofld _ _ _ (by decide +kernel), a, p, h, st, rfl, S, O, fun H1 l s1 nl hl => ⟨l, rfl, ⟨_, SqL.of hl⟩, fun D nD => ?_⟩⟩
    have l16 := in_len st
    refine lc_it (walk_list (K := K) (a := l) (xs := nI st.in_)) (fun i H => Same H1 H ∧ ∃ ts : List Addr, ts.length = i ∧ H D = some (.lst (ts.map V.ref)) ∧ ∀ (j : Nat) (t : Addr) (q : Nat), ts[j]? = some t → st.in_[j]? = some q → H t = some (.tup [.int ((st.know q : Nat) : Int), .int (q : Int)]))
      ⟨same_new nD, [], rfl, upd_same, fun j t q h1 _ => by simp at h1⟩ (fun i H _ x => SqL.of (x.1 _ _ hl)) (fun i x H2 H3 hi pv y => ?_) (fun H2 pv => ?_)
    · obtain ⟨sm, ts, ht, hD, hT⟩ := pv
      obtain ⟨rfl, hx⟩ := y
      obtain ⟨n, hn, rfl⟩ := nI_some hx
      rw [nI_length] at hi
      have hm : n ∈ st.in_ := List.mem_of_getElem? hn
      have s3 := s1.trans sm
      refine ⟨rfl, _, rfl, a, C, dx, _, _, rfl, s3 _ _ ob, T.cl, T.persons, lk_persons _ _ _, _, rfl, p, _, (n : Int), _, rfl, rfl, SqL.of (s3 _ _ S.ps), atI_nat (nI_at (getD_some (by rw [O.sl]; exact in_lt hm))), _, rfl, le_line (by show 2 ≤ 1000; decide), fun t nt => ?_⟩
      have nDt : D ≠ t := ne_of_none hD nt
      refine ⟨_, (upd_ne nDt).trans hD, small1000 (by rw [List.length_map, ht]; omega), fun c o e => ?_, ts ++ [t], by rw [List.length_append, ht]; rfl, upd_same.trans (by rw [List.map_append]; rfl), fun j t' q' h1 h2 => ?_⟩
      · have e2 := sm _ _ e
        rw [upd_ne (ne_of_none e nD), upd_ne (ne_of_none e2 nt)]
        exact e2
      · by_cases hj : j < ts.length
        · rw [List.getElem?_append_left hj] at h1
          have e2 := hT j t' q' h1 h2
          rw [upd_ne (ne_of e2 hD (by intro z; cases z)), upd_ne (ne_of_none e2 nt)]
          exact e2
        · have hj2 : j = i := by
            have := (List.getElem?_eq_some_iff.mp h1).1
            rw [List.length_append, List.length_singleton] at this
            omega
          subst hj2
          rw [List.getElem?_append_right (by omega), ht, Nat.sub_self] at h1
          cases h1
          rw [hn] at h2
          cases h2
          rw [upd_ne nDt.symm, upd_same]
          rfl
    · obtain ⟨sm, ts, ht, hD, hT⟩ := pv
      rw [nI_length] at ht
      have ne : st.in_ ≠ [] := fun z => by
        rw [last_fold, z] at hb
        cases hb
      obtain ⟨q0, l0, e0⟩ := List.exists_cons_of_ne_nil ne
      have hs := in_sorted st
      rw [e0] at hs
      have em : max2 (st.know q0, q0) (l0.map fun p => (st.know p, p)) = (max2 (st.know q0, q0) (l0.map fun p => (st.know p, p))) := rfl
      rw [last_fold, e0, List.foldl_cons, show lastF st none q0 = some q0 from rfl, last_max st l0 q0 hs] at hb
      have hb2 := Option.some.inj hb
      refine ⟨D, ts, (st.know q0, q0), l0.map fun p => (st.know p, p), rfl, SqL.of hD, by rw [ht, e0, List.length_map]; rfl, ?_, fun j t pq h1 h2 => ?_, fun t hS => ?_⟩
      · rw [List.length_cons, List.length_map]
        have : (q0 :: l0).length ≤ 16 := by rw [← e0]; exact l16
        rw [List.length_cons] at this
        omega
      · have h3 : (st.in_.map fun p => (st.know p, p))[j]? = some pq := by rw [e0]; exact h2
        rw [List.getElem?_map] at h3
        obtain ⟨q1, h4, rfl⟩ := Option.map_eq_some_iff.mp h3
        exact SqT.of (hT j t q1 h1 h4)
      · refine ⟨t, _, 1, _, rfl, rfl, hS, atI_nat (j := 1) rfl, ?_⟩
        rw [hb2]
        exact q H2 (s1.trans sm)
end
end Sm
namespace Sm
open PySem PySem.Spec PyProof.Rows L2
open Km441 (Station merge act only)
section
variable {P : Program} {w : World} {K : PySem.W.Frag} {mg : Str → Option Value} {base : Heap} {f CS CM CF : Addr} {fd : FuncData}
/-! ### Refused, want, counted -/
abbrev sRefInit : Stmt := inClass (top 34) 0
abbrev sWant : Stmt := top 35
abbrev sCounted : Stmt := top 36
theorem sc_ref_init : FnScope ["self", "code"] ["self", "code"] (defScope sRefInit) := ⟨rfl, rfl, rfl, by decide +kernel, rfl, by decide +kernel, by decide +kernel⟩
/-- what the top says of the class Refused, at CF -/
structure TRef (K : PySem.W.Frag) (mg : Str → Option Value) (CF : Addr) : Prop where
  ox : OexC K CF
  code : PySem.W.findIn K (.ref CF) "code" = some none
  gF : mg "Refused" = some (.ref CF)
  mV : mg "ValueError" = none
  vV : PySem.W.findCls K (.type "ValueError") (.type "type") "__init__" = some (.val (.builtin "ValueError.__init__"))
  te : PySem.W.exmOne K (.ref CF) (.ref CF) = some true
  xf : XfC K CF
def spRefInit (CF : Addr) : Sp := fun vs H Q _ => ∃ (a : Addr) (c : Int), vs = [.ref a, .int c] ∧ H a = some (exo a CF none) ∧
  ∀ dx, H dx = none → dx ≠ a → Q .non (upd (upd H dx (exd dx [("code", .int c)])) a (exo a CF (some dx)))
theorem ok_ref_init (F : Fun K "__init__" "Refused.__init__" sRefInit f fd) (T : TRef K mg CF) : FnOk P w K mg base CX0 1 f fd ["self", "code"] (spRefInit CF) := by
  refine F.ok sc_ref_init (fun vs H Q E h => ?_) (fun cdv A outer s H vs Q E hr h => ?_)
  · obtain ⟨_, _, rfl, _⟩ := h
    rfl
  · obtain ⟨a, c, rfl, ha, q⟩ := h
    refine ⟨_, pss_cons (ps_expr (pe_veinit (by rfl) T.mV T.vV (pa_cons (pv 0) (pa_cons pe_str pa_nil)))) (pss_one (ps_ost (pv 0) (pv 1))), ?_⟩
    exact ⟨_, rfl, a, CF, _, rfl, by decide, T.ox, ha, _, rfl, _, rfl, a, CF, rfl, T.ox, T.code, .inl ⟨ha, fun dx n ne => q dx n ne⟩⟩
theorem sc_want : FnScope ["good", "code"] ["good", "code"] (defScope sWant) := ⟨rfl, rfl, rfl, by decide +kernel, rfl, by decide +kernel, by decide +kernel⟩
def spWant (CF : Addr) : Sp := fun vs H Q E => ∃ (g : Bool) (c : Int), vs = [.bl g, .int c] ∧ (g = true → Q .non H) ∧
  (g = false → ∀ H' d, Same H H' → H d = none → H' d = some (.xd [("code", .int c)]) → E (.ref CF) (some d) H')
theorem ok_want {fI : Addr} {fdI : FuncData} (F : Fun K "want" "want" sWant f fd) (T : TRef K mg CF) (iC : PySem.W.findIn K (.ref CF) "__init__" = some (some (.ref fI))) (tI : PySem.W.typeIn K (.ref fI) = some (.type "function"))
    (GI : FnOk P w K mg base CX0 1 fI fdI ["self", "code"] (spRefInit CF)) (bI : Binds K fdI ["self", "code"] []) : FnOk P w K mg base (L2.CX P w) 3 f fd ["good", "code"] (spWant CF) := by
  refine F.okX sc_want (fun vs H Q E h => ?_) (fun cdv A outer s H vs Q E hr h => ?_)
  · obtain ⟨_, _, rfl, _⟩ := h
    rfl
  · obtain ⟨g, c, rfl, qt, qf⟩ := h
    refine ⟨_, pss_one (ps_if (pt_not (pt_val (pv 0))) (pss_one (ps_raise rfl (takes_of rfl rfl rfl rfl) (pmk_oex T.ox iC tI GI hr bI .nil pass0 (by rfl) T.gF (pa_cons (pv 1) pa_nil)))) pss_nil), ?_⟩
    refine ⟨_, rfl, _, rfl, ?_⟩
    cases g with
    | true => exact qt rfl
    | false =>
      refine ⟨_, rfl, (by show 1 ≤ 1000; decide), fun a na => ?_⟩
      refine ⟨a, c, rfl, upd_same, fun dx n ne => ⟨rfl, dx, _, upd_same, (upd_ne ne).trans upd_same, ?_, ?_⟩⟩
      · rw [upd_ne ne] at n
        exact n
      · rw [upd_ne ne] at n
        refine qf rfl _ dx (fun b o e => ?_) n upd_same
        have nb1 : b ≠ a := ne_of_none e na
        have nb2 : b ≠ dx := ne_of_none e n
        rw [upd_ne nb2, del_ne nb1, upd_ne nb1, upd_ne nb2, upd_ne nb1]
        exact e
theorem sc_counted : FnScope ["numbers"] ["numbers"] (defScope sCounted) := ⟨rfl, rfl, rfl, by decide +kernel, rfl, by decide +kernel, by decide +kernel⟩
def spCounted (K : PySem.W.Frag) : Sp := fun vs H Q _ => ∃ (a : Addr) (ns : List Nat), vs = [.ref a] ∧ SqL K H a (nI ns) ∧ ns.length ≤ 1000 ∧ (∀ n ∈ ns, n ≤ 1000) ∧
  ∀ H' D, Same H H' → H D = none → H' D = some (.lst [.int ((ns.length : Nat) : Int), .int ((Km441.bits ns : Nat) : Int)]) → Q (.ref D) H'
theorem ok_counted (F : Fun K "counted" "counted" sCounted f fd) (ml : mg "len" = none) (Gb : GFn P w K mg base CX0 1 "bits_of" ["numbers"] (spBits K)) : FnOk P w K mg base CX0 2 f fd ["numbers"] (spCounted K) := by
  refine F.ok sc_counted (fun vs H Q E h => ?_) (fun cdv A outer s H vs Q E hr h => ?_)
  · obtain ⟨_, _, rfl, _⟩ := h
    rfl
  · obtain ⟨a, ns, rfl, hA, hl, hb, q⟩ := h
    refine ⟨_, pss_one (ps_ret (pe_lst (pa_cons (pe_callB call_len_seq (by rfl) ml PySem.boot_len (pa_cons (pv 0) pa_nil)) (pa_cons (pe_gcall Gb hr (pa_cons (pv 0) pa_nil) pass0) pa_nil)))), ?_⟩
    refine ⟨_, rfl, a, _, rfl, .inl hA, _, rfl, a, ns, rfl, hA, hl, hb, fun H1 s1 => ⟨le_line (by show 2 ≤ 1000; decide), fun D nD => ?_⟩⟩
    refine q _ D (snew s1 nD) (s1.free nD) (upd_same.trans ?_)
    rw [nI_length]
/-! ### the muster in the heap -/
def muF (l : Addr) : List (Str × V) := [("stations", .ref l)]
theorem lk_stations (l : Addr) : (muF l).lookup ("stations" : Str) = some (.ref l) := by kernel_rfl
structure TMu (K : PySem.W.Frag) (C : Addr) : Prop where
  cl : Cls K C
  stations : NoAttr K C "stations"
theorem mu_nofld (l : Addr) {m : Str} (hm : (m == ("stations" : Str)) = false) : (muF l).lookup m = none := by
  unfold muF
  simp only [List.lookup]
  rw [hm]
/-- the muster at m; its list at l; its k-th station at a, with its lists at p and h -/
structure At1 (CM CS : Addr) (H : Hp) (m l : Addr) (k : Nat) (a p h : Addr) (s : Station) : Prop where
  mu : ∃ dx, H m = some (.ins CM dx (muF l))
  ls : ∃ vs, H l = some (.lst vs) ∧ vs[k]? = some (.ref a)
  st : StAt CS H a p h s
  ok : Ok s
theorem At1.same {H H' : Hp} {m l : Addr} {k : Nat} {a p h : Addr} {s : Station} (x : At1 CM CS H m l k a p h s) (e : Same H H') : At1 CM CS H' m l k a p h s :=
  ⟨let ⟨dx, q⟩ := x.mu; ⟨dx, e _ _ q⟩, let ⟨vs, q, r⟩ := x.ls; ⟨vs, e _ _ q, r⟩, x.st.same e, x.ok⟩
/-- self.stations[at] -/
theorem obj_ok {σ : L2.St} {H : Hp} {Q : VK} {m l : Addr} {k : Nat} {a p h : Addr} {s : Station} (x : At1 CM CS H m l k a p h s) (T : TMu K CM) (h0 : σ[0]? = some (some (.ref m))) (h1 : σ[1]? = some (some (.int (k : Int)))) (q : Q (.ref a) H) :
    tOp (rIxL K) (tFld K (tVar 0) "stations") (tVar 1) σ H Q := by
  obtain ⟨dx, hm⟩ := x.mu
  obtain ⟨vs, hl, hk⟩ := x.ls
  exact ⟨_, h0, m, CM, dx, _, _, rfl, hm, T.cl, T.stations, lk_stations l, _, h1, l, vs, (k : Int), _, rfl, rfl, SqL.of hl, atI_nat hk, q⟩
/-- what is wanted behind a call that leaves all as it is, by its answer -/
structure AnsQ (CF : Addr) (ans : Km441.Ans) (H : Hp) (Q : VK) (E : XK) : Prop where
  good : 0 ≤ ans.value → ∀ H' D, Same H H' → H D = none → H' D = some (.lst (.int ans.value :: nI ans.out)) → Q (.ref D) H'
  bad : ans.value < 0 → ∀ H' d, Same H H' → H d = none → H' d = some (.xd [("code", .int ans.value)]) → E (.ref CF) (some d) H'
theorem AnsQ.err {ans : Km441.Ans} {H : Hp} {Q : VK} {E : XK} {v : Int} (A : AnsQ CF ans H Q E) (e : ans = only v) (hv : v < 0) {H1 : Hp} (s1 : Same H H1) : ∀ H' d, Same H1 H' → H1 d = none → H' d = some (.xd [("code", .int v)]) → E (.ref CF) (some d) H' := by
  subst e
  exact fun H' d s n hd => A.bad hv H' d (s1.trans s) (s1.free n) hd
theorem AnsQ.ans {ans : Km441.Ans} {H : Hp} {Q : VK} {E : XK} {v : Int} {o : List Nat} (A : AnsQ CF ans H Q E) (e : ans = ⟨v, o⟩) (hv : 0 ≤ v) {H1 : Hp} (s1 : Same H H1) : ∀ H' D, Same H1 H' → H1 D = none → H' D = some (.lst (.int v :: nI o)) → Q (.ref D) H' := by
  subst e
  exact fun H' d s n hd => A.good hv H' d (s1.trans s) (s1.free n) hd
def spR0 (CM CS CF : Addr) (c : Km441.Call) : Sp := fun vs H Q E => ∃ (m l : Addr) (k : Nat) (a p h : Addr) (s : Station), vs = [.ref m, .int (k : Int)] ∧ At1 CM CS H m l k a p h s ∧ AnsQ CF (act s c).2 H Q E
def spR1 (CM CS CF : Addr) (c : Nat → Km441.Call) : Sp := fun vs H Q E => ∃ (m l : Addr) (k : Nat) (a p h : Addr) (s : Station) (n : Nat), vs = [.ref m, .int (k : Int), .int (n : Int)] ∧ At1 CM CS H m l k a p h s ∧ AnsQ CF (act s (c n)).2 H Q E
def spR2 (CM CS CF : Addr) (c : Nat → Nat → Km441.Call) : Sp := fun vs H Q E => ∃ (m l : Addr) (k : Nat) (a p h : Addr) (s : Station) (n t : Nat), vs = [.ref m, .int (k : Int), .int (n : Int), .int (t : Int)] ∧ At1 CM CS H m l k a p h s ∧ AnsQ CF (act s (c n t)).2 H Q E
def spRM (K : PySem.W.Frag) (CM CS CF : Addr) (c : List Nat → Km441.Call) : Sp := fun vs H Q E => ∃ (m l : Addr) (k : Nat) (a p h b : Addr) (s : Station) (ms : List Nat), vs = [.ref m, .int (k : Int), .ref b] ∧ At1 CM CS H m l k a p h s ∧ SqL K H b (nI ms) ∧ ms.length = 22 ∧
  AnsQ CF (act s (c ms)).2 H Q E
/-! ### where, missing, who_at -/
abbrev sMuInit : Stmt := inClass (top 37) 0
abbrev sWhere : Stmt := inClass (top 37) 7
abbrev sMissing : Stmt := inClass (top 37) 8
abbrev sWhoAtM : Stmt := inClass (top 37) 9
theorem sc_where : FnScope ["self", "at", "p", "known"] ["self", "at", "p"] (defScope sWhere) := ⟨rfl, rfl, rfl, by decide +kernel, rfl, by decide +kernel, by decide +kernel⟩
theorem ok_known {s : Station} (O : Ok s) {p : Nat} (hp : p < 16) : okK (s.know p) = true := O.sk _ (by
  rw [know_at, List.getD_eq_getElem?_getD, List.getElem?_eq_getElem (by rw [O.sl]; exact hp)]
  exact List.getElem_mem _)
theorem okK_rest {n : Nat} (h : okK n = true) (h0 : n ≠ 0) : 1 ≤ n % 8 ∧ n % 8 ≤ 5 ∧ n / 8 ≤ 100000 := by
  unfold okK at h
  simp only [Bool.or_eq_true, beq_iff_eq, Bool.and_eq_true, decide_eq_true_eq] at h
  rcases h with h | h
  · exact absurd h h0
  · exact h
theorem ok_where (F : Fun K "where" "Muster.where" sWhere f fd) (T : TMu K CM) (TS : TSt K CS) (cP : Kon mg "PERSONS" 16) (cN : Kon mg "NONE_SUCH" (-2)) (cG : Kon mg "NOTHING" (-6))
    (Gw : GFn P w K mg base (L2.CX P w) 3 "want" ["good", "code"] (spWant CF)) (Gp : GFn P w K mg base CX0 1 "place_of" ["known"] spPlaceOf) (Gm : GFn P w K mg base CX0 1 "minute_of" ["known"] spMinuteOf) :
    FnOk P w K mg base (L2.CX P w) 4 f fd ["self", "at", "p"] (spR1 CM CS CF .where_) := by
  refine F.okX sc_where (fun vs H Q E h => ?_) (fun cdv A outer s H vs Q E hr h => ?_)
  · obtain ⟨_, _, _, _, _, _, _, _, rfl, _⟩ := h
    rfl
  · obtain ⟨m, l, k, a, p, h, st, n, rfl, x, AQ⟩ := h
    have O := x.ok
    obtain ⟨dx, ob⟩ := x.st.ob
    refine ⟨_, pss_cons (ps_expr (pe_gcall Gw hr (pa_cons (pe_cmpR op_lt (pv 2) (pe_k cP) (nomark _)) (pa_cons (pe_k cN) pa_nil)) (passes_call (takes_of rfl rfl rfl rfl) (fun _ _ _ _ h => h))))
      (pss_cons (ps_set (i := 3) sc_where.nd rfl (.inl rfl) (pe_ix ix_list (pe_fld (pe_ix ix_list (pe_fld (pv 0) rfl) (pv 1) (fun _ _ => rfl)) rfl) (pv 2) (fun _ _ => rfl)))
      (pss_cons (ps_expr (pe_gcall Gw hr (pa_cons (pe_cmpR op_gt (pv 3) pe_int (nomark _)) (pa_cons (pe_k cG) pa_nil)) (passes_call (takes_of rfl rfl rfl rfl) (fun _ _ _ _ h => h))))
      (pss_one (ps_ret (pe_lst (pa_cons (pe_gcall Gp hr (pa_cons (pv 3) pa_nil) pass0) (pa_cons (pe_gcall Gm hr (pa_cons (pv 3) pa_nil) pass0) pa_nil))))))), ?_⟩
    refine ⟨_, rfl, _, _, rfl, rfl, _, _, rfl, fun e => ?_, fun e => ?_⟩
    · have hn : n < 16 := by
        have := of_decide_eq_true e
        omega
      refine obj_ok x T rfl rfl ?_
      refine ⟨a, CS, dx, _, _, rfl, ob, TS.cl, TS.persons, lk_persons _ _ _, _, rfl, p, _, (n : Int), _, rfl, rfl, SqL.of x.st.ps, atI_nat (nI_at (getD_some (by rw [O.sl]; exact hn))), ?_⟩
      have ek : st.seen.getD n 0 = st.know n := rfl
      rw [ek]
      refine ⟨_, rfl, _, _, rfl, rfl, _, _, rfl, fun e2 => ?_, fun e2 => ?_⟩
      · have hk : st.know n ≠ 0 := by
          have := of_decide_eq_true e2
          omega
        have hk8 := okK_rest (ok_known O hn) hk
        refine ⟨_, rfl, st.know n, rfl, _, rfl, st.know n, rfl, le_line (by show 2 ≤ 1000; decide), fun D nD => ?_⟩
        refine AQ.ans (v := ((st.know n % 8 - 1 : Nat) : Int)) (o := [st.know n / 8]) ?_ (by omega) (Same.refl H) _ D (same_new nD) nD (upd_same.trans ?_)
        · show (if Km441.PERSONS ≤ n then only (-2) else if st.know n = 0 then only (-6) else _) = _
          rw [if_neg (by show ¬ 16 ≤ n; omega), if_neg hk]
        · rw [show ((st.know n % 8 : Nat) : Int) - 1 = ((st.know n % 8 - 1 : Nat) : Int) by omega]
          rfl
      · have hk : st.know n = 0 := by
          have := of_decide_eq_false e2
          omega
        refine AQ.err ?_ (by decide) (Same.refl H)
        show (if Km441.PERSONS ≤ n then only (-2) else if st.know n = 0 then only (-6) else _) = _
        rw [if_neg (by show ¬ 16 ≤ n; omega), if_pos hk]
    · have hn : ¬ n < 16 := by
        have := of_decide_eq_false e
        omega
      refine AQ.err ?_ (by decide) (Same.refl H)
      show (if Km441.PERSONS ≤ n then only (-2) else _) = _
      rw [if_pos (by show 16 ≤ n; omega)]
end
end Sm
namespace Sm
open PySem PySem.Spec PyProof.Rows L2
open Km441 (Station merge act only)
theorem dpInts {K : PySem.W.Frag} {H : Hp} : ∀ ns : List Nat, DpAll K H (nI ns) (ns.map fun (n : Nat) => PyData.int (n : Int))
  | [] => .nil
  | n :: ns => .cons (.int _) (dpInts ns)
theorem eqvNil (ns : List Nat) : PyData.eqv (.list (ns.map fun (n : Nat) => PyData.int (n : Int))) (.list []) = ns.isEmpty := by
  cases ns with
  | nil => rfl
  | cons n ns => simp [PyData.eqv, PyData.eqvAll]
theorem shapedNats (ns : List Nat) : SeqAt.shaped (.list (ns.map fun (n : Nat) => PyData.int (n : Int))) = true := by
  have h := PySem.W.ke_shaped_ints (ns.map fun (n : Nat) => (n : Int))
  rw [List.map_map] at h
  exact h
theorem missing_len (s : Station) : s.missing.length ≤ 16 := by
  unfold Station.missing
  exact Nat.le_trans (List.length_filter_le _ _) (by rw [List.length_range]; decide)
theorem missing_lt {s : Station} {p : Nat} (h : p ∈ s.missing) : p < 16 := List.mem_range.mp (List.mem_filter.mp h).1
theorem at_len (s : Station) (k : Nat) : (s.at_ k).length ≤ 16 := by
  unfold Station.at_
  exact Nat.le_trans (List.length_filter_le _ _) (by rw [List.length_range]; decide)
theorem at_lt {s : Station} {k p : Nat} (h : p ∈ s.at_ k) : p < 16 := List.mem_range.mp (List.mem_filter.mp h).1
section
variable {P : Program} {w : World} {K : PySem.W.Frag} {mg : Str → Option Value} {base : Heap} {f CS CM CF : Addr} {fd : FuncData}

theorem sc_missing : FnScope ["self", "at"] ["self", "at"] (defScope sMissing) := ⟨rfl, rfl, rfl, by decide +kernel, rfl, by decide +kernel, by decide +kernel⟩
theorem ok_missing (F : Fun K "missing" "Muster.missing" sMissing f fd) (T : TMu K CM) (TS : TSt K CS) (cG : Kon mg "NOTHING" (-6))
    (Gw : GFn P w K mg base (L2.CX P w) 3 "want" ["good", "code"] (spWant CF)) (Gd : GMe P w K mg base CX0 1 CS "in_drill" ["self"] (spInDrill CS)) (Go : GMe P w K mg base CX0 1 CS "who_is_out" ["self"] (spWho CS Station.missing))
    (Gc : GFn P w K mg base CX0 2 "counted" ["numbers"] (spCounted K)) : FnOk P w K mg base (L2.CX P w) 4 f fd ["self", "at"] (spR0 CM CS CF .missing) := by
  refine F.okX sc_missing (fun vs H Q E h => ?_) (fun cdv A outer s H vs Q E hr h => ?_)
  · obtain ⟨_, _, _, _, _, _, _, rfl, _⟩ := h
    rfl
  · obtain ⟨m, l, k, a, p, h, st, rfl, x, AQ⟩ := h
    obtain ⟨dx, ob⟩ := x.st.ob
    refine ⟨_, pss_cons (ps_expr (pe_gcall Gw hr (pa_cons (pe_gmeth0 TS.cl Gd hr (pe_ix ix_list (pe_fld (pv 0) rfl) (pv 1) (fun _ _ => rfl)) pass0) (pa_cons (pe_k cG) pa_nil)) (passes_call (takes_of rfl rfl rfl rfl) (fun _ _ _ _ h => h))))
      (pss_one (ps_ret (pe_gcall Gc hr (pa_cons (pe_gmeth0 TS.cl Go hr (pe_ix ix_list (pe_fld (pv 0) rfl) (pv 1) (fun _ _ => rfl)) pass0) pa_nil) pass0))), ?_⟩
    refine obj_ok x T rfl rfl ?_
    refine ⟨a, dx, _, rfl, ob, st_nofld _ _ _ (by decide +kernel), a, p, h, st, rfl, x.st, _, _, rfl, fun e => ?_, fun e => ?_⟩
    · have hd : st.drill ≠ 0 := of_decide_eq_true e
      refine obj_ok x T rfl rfl ?_
      refine ⟨a, dx, _, rfl, ob, st_nofld _ _ _ (by decide +kernel), a, p, h, st, rfl, x.st, x.ok, fun H1 D s1 nD hD => ?_⟩
      refine ⟨D, _, rfl, SqL.of hD, Nat.le_trans (missing_len st) (by decide), fun n hn => Nat.le_trans (Nat.le_of_lt (missing_lt hn)) (by decide), ?_⟩
      refine AQ.ans (v := ((st.missing.length : Nat) : Int)) (o := [Km441.bits st.missing]) ?_ (by omega) s1
      show (if st.drill = 0 then only (-6) else _) = _
      rw [if_neg hd]
    · have hd : st.drill = 0 := Decidable.byContradiction (of_decide_eq_false e)
      refine AQ.err ?_ (by decide) (Same.refl H)
      show (if st.drill = 0 then only (-6) else _) = _
      rw [if_pos hd]
theorem sc_who_atM : FnScope ["self", "at", "k"] ["self", "at", "k"] (defScope sWhoAtM) := ⟨rfl, rfl, rfl, by decide +kernel, rfl, by decide +kernel, by decide +kernel⟩
theorem ok_who_atM (F : Fun K "who_at" "Muster.who_at" sWhoAtM f fd) (T : TMu K CM) (TS : TSt K CS) (cS : Kon mg "STATIONS" 5) (cN : Kon mg "NONE_SUCH" (-2))
    (Gw : GFn P w K mg base (L2.CX P w) 3 "want" ["good", "code"] (spWant CF)) (Ga : GMe P w K mg base CX0 2 CS "who_is_at" ["self", "k"] (spWhoAt CS))
    (Gc : GFn P w K mg base CX0 2 "counted" ["numbers"] (spCounted K)) : FnOk P w K mg base (L2.CX P w) 4 f fd ["self", "at", "k"] (spR1 CM CS CF .at_) := by
  refine F.okX sc_who_atM (fun vs H Q E h => ?_) (fun cdv A outer s H vs Q E hr h => ?_)
  · obtain ⟨_, _, _, _, _, _, _, _, rfl, _⟩ := h
    rfl
  · obtain ⟨m, l, k, a, p, h, st, n, rfl, x, AQ⟩ := h
    obtain ⟨dx, ob⟩ := x.st.ob
    refine ⟨_, pss_cons (ps_expr (pe_gcall Gw hr (pa_cons (pe_cmpR op_lt (pv 2) (pe_k cS) (nomark _)) (pa_cons (pe_k cN) pa_nil)) (passes_call (takes_of rfl rfl rfl rfl) (fun _ _ _ _ h => h))))
      (pss_one (ps_ret (pe_gcall Gc hr (pa_cons (pe_gmeth TS.cl Ga hr (pe_ix ix_list (pe_fld (pv 0) rfl) (pv 1) (fun _ _ => rfl)) (pa_cons (pv 2) pa_nil) pass0) pa_nil) pass0))), ?_⟩
    refine ⟨_, rfl, _, _, rfl, rfl, _, _, rfl, fun e => ?_, fun e => ?_⟩
    · have hn : n < 5 := by
        have := of_decide_eq_true e
        omega
      refine obj_ok x T rfl rfl ?_
      refine ⟨a, dx, _, rfl, ob, st_nofld _ _ _ (by decide +kernel), _, rfl, a, p, h, st, n, rfl, x.st, x.ok, fun H1 D s1 nD hD => ?_⟩
      refine ⟨D, _, rfl, SqL.of hD, Nat.le_trans (at_len st n) (by decide), fun j hj => Nat.le_trans (Nat.le_of_lt (at_lt hj)) (by decide), ?_⟩
      refine AQ.ans (v := (((st.at_ n).length : Nat) : Int)) (o := [Km441.bits (st.at_ n)]) ?_ (by omega) s1
      show (if Km441.STATIONS ≤ n then only (-2) else _) = _
      rw [if_neg (by show ¬ 5 ≤ n; omega)]
    · have hn : ¬ n < 5 := by
        have := of_decide_eq_false e
        omega
      refine AQ.err ?_ (by decide) (Same.refl H)
      show (if Km441.STATIONS ≤ n then only (-2) else _) = _
      rw [if_pos (by show 5 ≤ n; omega)]
/-! ### sure -/
abbrev sSure : Stmt := inClass (top 37) 10
theorem sc_sure : FnScope ["self", "at", "n", "t", "station", "minute"] ["self", "at", "n", "t"] (defScope sSure) := ⟨rfl, rfl, rfl, by decide +kernel, rfl, by decide +kernel, by decide +kernel⟩
theorem late_iff {s : Station} (O : Ok s) {n t : Nat} (h5 : n ≤ 5) : ((s.now.news.take n).all fun x => decide (t < x)) = decide (s.late n t = []) := by
  have e : (((s.now.news.take n).all fun x => decide (t < x)) = true) ↔ s.late n t = [] := by
    unfold Station.late
    rw [List.filter_eq_nil_iff, List.all_eq_true]
    constructor
    · intro h k hk
      have hk' := List.mem_range.mp hk
      have hk2 : k < s.now.news.length := by rw [now_len O]; omega
      have := h s.now.news[k] (List.mem_take_iff_getElem.mpr ⟨k, by omega, rfl⟩)
      have h1 : t < s.now.news[k] := of_decide_eq_true this
      rw [List.getD_eq_getElem?_getD, List.getElem?_eq_getElem hk2]
      intro z
      have z' : s.now.news[k] ≤ t := of_decide_eq_true z
      omega
    · intro h y hy
      obtain ⟨k, hk, e⟩ := List.mem_take_iff_getElem.mp hy
      have hk2 : k < s.now.news.length := by omega
      have h1 := h k (List.mem_range.mpr (by omega))
      rw [List.getD_eq_getElem?_getD, List.getElem?_eq_getElem hk2] at h1
      have h2 : ¬ s.now.news[k] ≤ t := fun z => h1 (decide_eq_true z)
      exact decide_eq_true (by omega)
  by_cases h : s.late n t = []
  · rw [decide_eq_true h]
    exact e.mpr h
  · rw [decide_eq_false h]
    exact Bool.eq_false_iff.mpr fun z => h (e.mp z)
theorem ok_sure (F : Fun K "sure" "Muster.sure" sSure f fd) (T : TMu K CM) (TS : TSt K CS) (cS : Kon mg "STATIONS" 5) (cL : Kon mg "LAST_MINUTE" 100000) (cR : Kon mg "OUT_OF_RANGE" (-22)) (cG : Kon mg "NOTHING" (-6)) (cT : Kon mg "TOO_SOON" (-13)) (mA : mg "all" = none)
    (Gw : GFn P w K mg base (L2.CX P w) 3 "want" ["good", "code"] (spWant CF)) (Gd : GMe P w K mg base CX0 1 CS "in_drill" ["self"] (spInDrill CS)) (Gn : GMe P w K mg base CX0 1 CS "news" ["self"] (spNews CS))
    (Go : GMe P w K mg base CX0 1 CS "who_is_out" ["self"] (spWho CS Station.missing)) (Gc : GFn P w K mg base CX0 2 "counted" ["numbers"] (spCounted K)) : FnOk P w K mg base (L2.CX P w) 4 f fd ["self", "at", "n", "t"] (spR2 CM CS CF .sure) := by
  refine F.okX sc_sure (fun vs H Q E h => ?_) (fun cdv A outer s H vs Q E hr h => ?_)
  · obtain ⟨_, _, _, _, _, _, _, _, _, rfl, _⟩ := h
    rfl
  · obtain ⟨m, l, k, a, p, h, st, n, t, rfl, x, AQ⟩ := h
    obtain ⟨dx, ob⟩ := x.st.ob
    refine ⟨_, pss_cons (ps_set (i := 4) sc_sure.nd rfl (.inl rfl) (pe_ix ix_list (pe_fld (pv 0) rfl) (pv 1) (fun _ _ => rfl)))
      (pss_cons (ps_expr (pe_gcall Gw hr (pa_cons (pe_and (pe_chain op_le op_le pe_int (pv 2) (pe_k cS)) (pe_one (pe_cmpR op_le (pv 3) (pe_k cL) (nomark _)))) (pa_cons (pe_k cR) pa_nil)) (passes_call (takes_of rfl rfl rfl rfl) (fun _ _ _ _ h => h))))
      (pss_cons (ps_expr (pe_gcall Gw hr (pa_cons (pe_gmeth0 TS.cl Gd hr (pv 4) pass0) (pa_cons (pe_k cG) pa_nil)) (passes_call (takes_of rfl rfl rfl rfl) (fun _ _ _ _ h => h))))
      (pss_cons (ps_expr (pe_gcall Gw hr (pa_cons (pe_callB (cr_all rfl) (by rfl) mA (by decide +kernel) (pa_cons (pe_lc (own := [("minute", 5)]) (g := gName 5) (tt := tYes) rfl sc_sure.nd (pi_list (pe_slice sl_list (pe_gmeth0 TS.cl Gn hr (pv 4) pass0) po_none (po_some (pv 2))))
          (blkOk_by (N := ["self", "at", "n", "t", "station", "minute"]) (sc := defScope sSure) (by decide +kernel)) (fun _ _ _ _ _ => pg_name (i := 5) sc_sure.nd rfl (Or.inl rfl)) (fun _ _ _ _ _ => pts_nil)
          (fun _ _ _ _ _ => pe_cmpR op_gt (pv 5) (pv 3) (nomark _))) pa_nil)) (pa_cons (pe_k cT) pa_nil)) (passes_call (takes_of rfl rfl rfl rfl) (fun _ _ _ _ h => h))))
      (pss_one (ps_ret (pe_gcall Gc hr (pa_cons (pe_gmeth0 TS.cl Go hr (pv 4) pass0) pa_nil) pass0)))))), ?_⟩
    refine obj_ok x T rfl rfl ?_
    have eA : (act st (.sure n t)).2 = if n = 0 ∨ 5 < n ∨ 100000 < t then only (-22) else if st.drill = 0 then only (-6) else if st.late n t ≠ [] then only (-13) else ⟨((st.missing.length : Nat) : Int), [Km441.bits st.missing]⟩ := rfl
    -- the range
    have fin : ∀ g : Bool, g = decide (1 ≤ n ∧ n ≤ 5 ∧ t ≤ 100000) → spWant CF [.bl g, .int (-22)] H (fun _ H1 => tSeq (tDrop (tCall (spWant CF) [] E (tCons (tMeth CS "in_drill" (spInDrill CS) [] E0 (tVar 4) tNil) (tCons (tC (.int (-6))) tNil))))
        (tSeq (tDrop (tCall (spWant CF) [] E (tCons (tCB (rAll K) (tCons (tLc (iList K (tSl (rSlL K) (tMeth CS "news" (spNews CS) [] E0 (tVar 4) tNil) tNoPart (tPart (tVar 2)))) (gName 5) tYes (tOp (rI0 fun i j => .bl (decide (j < i))) (tVar 5) (tVar 3)) [5]) tNil)) (tCons (tC (.int (-13))) tNil))))
        (tRet (tCall (spCounted K) [] E0 (tCons (tMeth CS "who_is_out" (spWho CS Station.missing) [] E0 (tVar 4) tNil) tNil))))
        { nx := fun _ H' => Q .non H', rt := Q } [some (.ref m), some (.int (k : Int)), some (.int (n : Int)), some (.int (t : Int)), some (.ref a), none] H1) E := by
      intro g eg
      refine ⟨g, -22, rfl, fun e => ?_, fun e => ?_⟩
      · rw [e] at eg
        obtain ⟨h1, h5, ht⟩ := of_decide_eq_true eg.symm
        refine ⟨_, rfl, a, dx, _, rfl, ob, st_nofld _ _ _ (by decide +kernel), a, p, h, st, rfl, x.st, _, _, rfl, fun e => ?_, fun e => ?_⟩
        · have hd : st.drill ≠ 0 := of_decide_eq_true e
          refine ⟨_, rfl, a, dx, _, rfl, ob, st_nofld _ _ _ (by decide +kernel), a, p, h, st, rfl, x.st, x.ok, fun H1 l1 s1 nl hl => ?_⟩
          refine ⟨_, rfl, _, rfl, l1, _, rfl, SqL.of hl, fun D nD => ?_⟩
          rw [cut_to _ n (by rw [nI_length, now_len x.ok]; exact h5), show (nI st.now.news).take n = nI (st.now.news.take n) from (List.map_take ..).symm]
          refine gen_new _ _ _ nD fun H2 s2 hD => ⟨D, rfl, ⟨_, SqL.of hD⟩, fun G nG => ?_⟩
          have lt : (st.now.news.take n).length = n := by
            rw [List.length_take, now_len x.ok]
            omega
          refine lc_run (walk_list (K := K) (a := D) (xs := nI (st.now.news.take n))) nG (fun H' s' => SqL.of (s' _ _ hD)) (fun i => (((st.now.news.take n).take i).map fun y => V.bl (decide (t < y)))) rfl (by rw [nI_length, lt]; omega)
            (fun i hi => by rw [List.length_map, List.length_take]; exact Nat.min_le_left _ _) (fun i y H3 H4 Nx Ny hi sm hG yy kN kY => ?_) (fun H3 sm hG => ?_)
          · obtain ⟨rfl, hx⟩ := yy
            obtain ⟨v, hv, rfl⟩ := nI_some hx
            refine ⟨rfl, _, rfl, _, rfl, _, _, rfl, rfl, kY _ _ (Same.refl _) ?_⟩
            show (((st.now.news.take n).take (i + 1)).map fun y => V.bl (decide (t < y))) = _
            rw [take_more hv, List.map_append]
            have ed : decide (t < v) = decide ((t : Int) < (v : Int)) := decide_eq_decide.mpr (by omega)
            exact congrArg (fun z => ((st.now.news.take n).take i).map (fun y => V.bl (decide (t < y))) ++ [V.bl z]) ed
          · rw [nI_length, all_take] at hG
            have s13 := (s1.trans s2).trans sm
            refine ⟨G, _, rfl, SqL.of hG, _, _, rfl, fun e => ?_, fun e => ?_⟩
            · rw [List.all_map] at e
              have e2 : ((st.now.news.take n).all fun x => decide (t < x)) = true := e
              rw [late_iff x.ok h5] at e2
              have e3 : st.late n t = [] := of_decide_eq_true e2
              refine ⟨_, rfl, a, dx, _, rfl, s13 _ _ ob, st_nofld _ _ _ (by decide +kernel), a, p, h, st, rfl, x.st.same s13, x.ok, fun H4 D4 s4 nD4 hD4 => ?_⟩
              refine ⟨D4, _, rfl, SqL.of hD4, Nat.le_trans (missing_len st) (by decide), fun n hn => Nat.le_trans (Nat.le_of_lt (missing_lt hn)) (by decide), ?_⟩
              refine AQ.ans (v := ((st.missing.length : Nat) : Int)) (o := [Km441.bits st.missing]) ?_ (by omega) (s13.trans s4)
              rw [eA, if_neg (by omega), if_neg hd, if_neg (fun z => z e3)]
            · rw [List.all_map] at e
              have e2 : ((st.now.news.take n).all fun x => decide (t < x)) = false := e
              rw [late_iff x.ok h5] at e2
              have e3 : st.late n t ≠ [] := of_decide_eq_false e2
              refine AQ.err ?_ (by decide) s13
              rw [eA, if_neg (by omega), if_neg hd, if_pos e3]
        · have hd : st.drill = 0 := Decidable.byContradiction (of_decide_eq_false e)
          refine AQ.err ?_ (by decide) (Same.refl H)
          rw [eA, if_neg (by omega), if_pos hd]
      · rw [e] at eg
        have hn := of_decide_eq_false eg.symm
        refine AQ.err ?_ (by decide) (Same.refl H)
        rw [eA, if_pos (by omega)]
    refine ⟨_, rfl, _, _, rfl, rfl, _, rfl, ite2 (fun e => ?_) (fun e => ?_)⟩
    · have e1 : (1 : Int) ≤ (n : Int) := of_decide_eq_true e
      refine ⟨_, _, rfl, rfl, _, rfl, ite2 (fun e => ?_) (fun e => ?_)⟩
      · have e2 : (n : Int) ≤ 5 := of_decide_eq_true e
        exact ⟨_, rfl, _, _, rfl, rfl, fin _ (decide_eq_decide.mpr (by omega))⟩
      · have e2 : ¬ (n : Int) ≤ 5 := fun z => e (decide_eq_true z)
        exact fin false (decide_eq_false (by omega)).symm
    · have e1 : ¬ (1 : Int) ≤ (n : Int) := fun z => e (decide_eq_true z)
      exact ⟨_, rfl, iteF (fin false (decide_eq_false (by omega)).symm)⟩
end
end Sm
namespace Sm
open PySem PySem.Spec PyProof.Rows L2
open Km441 (Station merge act only)
section
variable {P : Program} {w : World} {K : PySem.W.Frag} {mg : Str → Option Value} {base : Heap} {f CS CM CF : Addr} {fd : FuncData}
/-! ### news_of, soonest, would_hear -/
abbrev sNewsOf : Stmt := inClass (top 37) 11
abbrev sSoonestM : Stmt := inClass (top 37) 12
abbrev sWould : Stmt := inClass (top 37) 13
abbrev sLast : Stmt := inClass (top 37) 14
abbrev sWhich : Stmt := inClass (top 37) 15
abbrev sState : Stmt := inClass (top 37) 16
abbrev sTell : Stmt := inClass (top 37) 5
theorem sc_news_of : FnScope ["self", "at", "k"] ["self", "at", "k"] (defScope sNewsOf) := ⟨rfl, rfl, rfl, by decide +kernel, rfl, by decide +kernel, by decide +kernel⟩
theorem ok_news_of (F : Fun K "news_of" "Muster.news_of" sNewsOf f fd) (T : TMu K CM) (TS : TSt K CS) (cS : Kon mg "STATIONS" 5) (cN : Kon mg "NONE_SUCH" (-2))
    (Gw : GFn P w K mg base (L2.CX P w) 3 "want" ["good", "code"] (spWant CF)) (Gn : GMe P w K mg base CX0 1 CS "news" ["self"] (spNews CS)) : FnOk P w K mg base (L2.CX P w) 4 f fd ["self", "at", "k"] (spR1 CM CS CF .news) := by
  refine F.okX sc_news_of (fun vs H Q E h => ?_) (fun cdv A outer s H vs Q E hr h => ?_)
  · obtain ⟨_, _, _, _, _, _, _, _, rfl, _⟩ := h
    rfl
  · obtain ⟨m, l, k, a, p, h, st, n, rfl, x, AQ⟩ := h
    obtain ⟨dx, ob⟩ := x.st.ob
    refine ⟨_, pss_cons (ps_expr (pe_gcall Gw hr (pa_cons (pe_cmpR op_lt (pv 2) (pe_k cS) (nomark _)) (pa_cons (pe_k cN) pa_nil)) (passes_call (takes_of rfl rfl rfl rfl) (fun _ _ _ _ h => h))))
      (pss_one (ps_ret (pe_lst (pa_cons (pe_ix ix_list (pe_gmeth0 TS.cl Gn hr (pe_ix ix_list (pe_fld (pv 0) rfl) (pv 1) (fun _ _ => rfl)) pass0) (pv 2) (fun _ _ => rfl)) pa_nil)))), ?_⟩
    refine ⟨_, rfl, _, _, rfl, rfl, _, _, rfl, fun e => ?_, fun e => ?_⟩
    · have hn : n < 5 := by
        have := of_decide_eq_true e
        omega
      refine obj_ok x T rfl rfl ?_
      refine ⟨a, dx, _, rfl, ob, st_nofld _ _ _ (by decide +kernel), a, p, h, st, rfl, x.st, x.ok, fun H1 l1 s1 nl hl => ?_⟩
      refine ⟨_, rfl, l1, _, (n : Int), _, rfl, rfl, SqL.of hl, atI_nat (nI_at (getD_some (by rw [now_len x.ok]; exact hn))), le_line (by show 1 ≤ 1000; decide), fun D nD => ?_⟩
      refine AQ.ans (v := ((st.now.news.getD n 0 : Nat) : Int)) (o := []) ?_ (by omega) s1 _ D (same_new nD) nD upd_same
      show (if Km441.STATIONS ≤ n then only (-2) else _) = _
      rw [if_neg (by show ¬ 5 ≤ n; omega)]
      rfl
    · have hn : ¬ n < 5 := by
        have := of_decide_eq_false e
        omega
      refine AQ.err ?_ (by decide) (Same.refl H)
      show (if Km441.STATIONS ≤ n then only (-2) else _) = _
      rw [if_pos (by show 5 ≤ n; omega)]
theorem sc_soonestM : FnScope ["self", "at", "n"] ["self", "at", "n"] (defScope sSoonestM) := ⟨rfl, rfl, rfl, by decide +kernel, rfl, by decide +kernel, by decide +kernel⟩
theorem ok_soonestM (F : Fun K "soonest" "Muster.soonest" sSoonestM f fd) (T : TMu K CM) (TS : TSt K CS) (cS : Kon mg "STATIONS" 5) (cR : Kon mg "OUT_OF_RANGE" (-22)) (mL : mg "list" = none)
    (Gw : GFn P w K mg base (L2.CX P w) 3 "want" ["good", "code"] (spWant CF)) (Gn : GMe P w K mg base CX0 2 CS "soonest" ["self", "n"] (spSoonest CS)) : FnOk P w K mg base (L2.CX P w) 4 f fd ["self", "at", "n"] (spR1 CM CS CF .soonest) := by
  refine F.okX sc_soonestM (fun vs H Q E h => ?_) (fun cdv A outer s H vs Q E hr h => ?_)
  · obtain ⟨_, _, _, _, _, _, _, _, rfl, _⟩ := h
    rfl
  · obtain ⟨m, l, k, a, p, h, st, n, rfl, x, AQ⟩ := h
    obtain ⟨dx, ob⟩ := x.st.ob
    refine ⟨_, pss_cons (ps_expr (pe_gcall Gw hr (pa_cons (pe_chain op_le op_le pe_int (pv 2) (pe_k cS)) (pa_cons (pe_k cR) pa_nil)) (passes_call (takes_of rfl rfl rfl rfl) (fun _ _ _ _ h => h))))
      (pss_one (ps_ret (pe_callTy call_list_of (by rfl) mL (by decide +kernel) (pa_cons (pe_gmeth TS.cl Gn hr (pe_ix ix_list (pe_fld (pv 0) rfl) (pv 1) (fun _ _ => rfl)) (pa_cons (pv 2) pa_nil) pass0) pa_nil)))), ?_⟩
    have eA : (act st (.soonest n)).2 = if n = 0 ∨ 5 < n then only (-22) else ⟨((st.least n : Nat) : Int), [soonBits st n]⟩ := rfl
    have bad : ¬ (1 ≤ n ∧ n ≤ 5) → ∀ H' d, Same H H' → H d = none → H' d = some (.xd [("code", .int (-22))]) → E (.ref CF) (some d) H' := fun hn => by
      refine AQ.err ?_ (by decide) (Same.refl H)
      rw [eA, if_pos (by omega)]
    refine ⟨_, rfl, _, _, rfl, rfl, _, rfl, ite2 (fun e => ?_) (fun e => ?_)⟩
    · have e1 : (1 : Int) ≤ (n : Int) := of_decide_eq_true e
      refine ⟨_, _, rfl, rfl, _, _, rfl, fun e => ?_, fun e => ?_⟩
      · have e2 : (n : Int) ≤ 5 := of_decide_eq_true e
        refine obj_ok x T rfl rfl ?_
        refine ⟨a, dx, _, rfl, ob, st_nofld _ _ _ (by decide +kernel), _, rfl, a, p, h, st, n, rfl, x.st, x.ok, by omega, by omega, fun H1 t s1 nt ht => ?_⟩
        refine ⟨t, _, rfl, .inr (SqT.of ht), fun D nD => ?_⟩
        refine AQ.ans (v := ((st.least n : Nat) : Int)) (o := [soonBits st n]) ?_ (by omega) s1 _ D (same_new nD) nD upd_same
        rw [eA, if_neg (by omega)]
      · have e2 := of_decide_eq_false e
        exact bad (by omega)
    · have e1 : ¬ (1 : Int) ≤ (n : Int) := fun z => e (decide_eq_true z)
      exact ⟨false, _, rfl, fun z => Bool.noConfusion z, fun _ => bad (by omega)⟩
theorem sc_would : FnScope ["self", "at", "message"] ["self", "at", "message"] (defScope sWould) := ⟨rfl, rfl, rfl, by decide +kernel, rfl, by decide +kernel, by decide +kernel⟩
theorem ok_would (F : Fun K "would_hear" "Muster.would_hear" sWould f fd) (T : TMu K CM) (TS : TSt K CS) (cB : Kon mg "NOT_GOOD" (-71))
    (Gw : GFn P w K mg base (L2.CX P w) 3 "want" ["good", "code"] (spWant CF)) (Gg : GFn P w K mg base CX0 3 "is_good" ["message"] (spIsGood K)) (Gn : GMe P w K mg base CX0 3 CS "many_new" ["self", "message"] (spManyNew K CS)) :
    FnOk P w K mg base (L2.CX P w) 4 f fd ["self", "at", "message"] (spRM K CM CS CF .new_) := by
  refine F.okX sc_would (fun vs H Q E h => ?_) (fun cdv A outer s H vs Q E hr h => ?_)
  · obtain ⟨_, _, _, _, _, _, _, _, _, rfl, _⟩ := h
    rfl
  · obtain ⟨m, l, k, a, p, h, b, st, ms, rfl, x, hB, hl, AQ⟩ := h
    refine ⟨_, pss_cons (ps_expr (pe_gcall Gw hr (pa_cons (pe_gcall Gg hr (pa_cons (pv 2) pa_nil) pass0) (pa_cons (pe_k cB) pa_nil)) (passes_call (takes_of rfl rfl rfl rfl) (fun _ _ _ _ h => h))))
      (pss_one (ps_ret (pe_lst (pa_cons (pe_gmeth TS.cl Gn hr (pe_ix ix_list (pe_fld (pv 0) rfl) (pv 1) (fun _ _ => rfl)) (pa_cons (pv 2) pa_nil) pass0) pa_nil)))), ?_⟩
    have eA : (act st (.new_ ms)).2 = if Km441.good ms = false then only (-71) else only ((newOf st ms : Nat) : Int) := rfl
    refine ⟨_, rfl, b, ms, rfl, hB, hl, fun H1 s1 => ⟨_, _, rfl, fun e => ?_, fun e => ?_⟩⟩
    · have x1 := x.same s1
      obtain ⟨dx, ob⟩ := x1.st.ob
      refine obj_ok x1 T rfl rfl ?_
      refine ⟨a, dx, _, rfl, ob, st_nofld _ _ _ (by decide +kernel), _, rfl, a, p, h, b, st, ms, rfl, x1.st, x.ok, s1.seq hB, hl, fun H2 s2 => ⟨le_line (by show 1 ≤ 1000; decide), fun D nD => ?_⟩⟩
      refine AQ.ans (v := ((newOf st ms : Nat) : Int)) (o := []) ?_ (by omega) (s1.trans s2) _ D (same_new nD) nD upd_same
      rw [eA, if_neg (by rw [e]; exact Bool.noConfusion)]
      rfl
    · refine AQ.err ?_ (by decide) s1
      rw [eA, if_pos e]
/-! ### last, which, state, tell -/
theorem sc_last : FnScope ["self", "at", "station", "p"] ["self", "at"] (defScope sLast) := ⟨rfl, rfl, rfl, by decide +kernel, rfl, by decide +kernel, by decide +kernel⟩
theorem last_none {s : Station} (h : s.in_ = []) : s.last = none := by
  rw [last_fold, h]
  rfl
theorem last_mem : ∀ (s : Station) (l : List Nat) (r : Option Nat) (b : Nat), l.foldl (lastF s) r = some b → b ∈ l ∨ r = some b
  | _, [], r, b, h => .inr h
  | s, p :: l, r, b, h => by
    rw [List.foldl_cons] at h
    rcases last_mem s l _ b h with h | h
    · exact .inl (List.mem_cons_of_mem _ h)
    · cases r with
      | none =>
        have e : p = b := Option.some.inj h
        rw [e]
        exact .inl List.mem_cons_self
      | some q =>
        have h2 : (if s.know q ≤ s.know p then some p else some q) = some b := h
        by_cases e : s.know q ≤ s.know p
        · rw [if_pos e] at h2
          rw [← Option.some.inj h2]
          exact .inl List.mem_cons_self
        · rw [if_neg e] at h2
          exact .inr h2
theorem last_some {s : Station} (h : s.in_ ≠ []) : ∃ b, s.last = some b ∧ b ∈ s.in_ := by
  obtain ⟨q0, l0, e0⟩ := List.exists_cons_of_ne_nil h
  have hs := in_sorted s
  rw [e0] at hs
  have e : s.last = some (max2 (s.know q0, q0) (l0.map fun p => (s.know p, p))).2 := by
    rw [last_fold, e0, List.foldl_cons, show lastF s none q0 = some q0 from rfl, last_max s l0 q0 hs]
  refine ⟨_, e, ?_⟩
  rw [last_fold] at e
  rcases last_mem s _ _ _ e with h | h
  · exact h
  · cases h
theorem ok_last (F : Fun K "last" "Muster.last" sLast f fd) (T : TMu K CM) (TS : TSt K CS) (cG : Kon mg "NOTHING" (-6))
    (Gw : GFn P w K mg base (L2.CX P w) 3 "want" ["good", "code"] (spWant CF)) (Gi : GMe P w K mg base CX0 1 CS "who_is_in" ["self"] (spWho CS Station.in_)) (Gl : GMe P w K mg base CX0 2 CS "last_in" ["self"] (spLastIn CS))
    (Gp : GFn P w K mg base CX0 1 "place_of" ["known"] spPlaceOf) (Gm : GFn P w K mg base CX0 1 "minute_of" ["known"] spMinuteOf) : FnOk P w K mg base (L2.CX P w) 4 f fd ["self", "at"] (spR0 CM CS CF .last) := by
  refine F.okX sc_last (fun vs H Q E h => ?_) (fun cdv A outer s H vs Q E hr h => ?_)
  · obtain ⟨_, _, _, _, _, _, _, rfl, _⟩ := h
    rfl
  · obtain ⟨m, l, k, a, p, h, st, rfl, x, AQ⟩ := h
    have O := x.ok
    obtain ⟨dx, ob⟩ := x.st.ob
    refine ⟨_, pss_cons (ps_set (i := 2) sc_last.nd rfl (.inl rfl) (pe_ix ix_list (pe_fld (pv 0) rfl) (pv 1) (fun _ _ => rfl)))
      (pss_cons (ps_expr (pe_gcall Gw hr (pa_cons (pe_cmpR (op_neD hr.units) (pe_gmeth0 TS.cl Gi hr (pv 2) pass0) (pe_lst pa_nil) (nomark _)) (pa_cons (pe_k cG) pa_nil)) (passes_call (takes_of rfl rfl rfl rfl) (fun _ _ _ _ h => h))))
      (pss_cons (ps_set (i := 3) sc_last.nd rfl (.inl rfl) (pe_gmeth0 TS.cl Gl hr (pv 2) pass0))
      (pss_one (ps_ret (pe_lst (pa_cons (pv 3) (pa_cons (pe_gcall Gm hr (by exact (pa_cons (pe_ix ix_list (pe_fld (pv 2) rfl) (pv 3) (fun _ _ => rfl)) pa_nil)) pass0)
        (pa_cons (pe_gcall Gp hr (by exact (pa_cons (pe_ix ix_list (pe_fld (pv 2) rfl) (pv 3) (fun _ _ => rfl)) pa_nil)) pass0) pa_nil)))))))), ?_⟩
    have eA : (act st .last).2 = match st.last with
      | none => only (-6)
      | some p => ⟨((p : Nat) : Int), [st.know p / 8, st.know p % 8 - 1]⟩ := rfl
    refine obj_ok x T rfl rfl ?_
    refine ⟨_, rfl, a, dx, _, rfl, ob, st_nofld _ _ _ (by decide +kernel), a, p, h, st, rfl, x.st, O, fun H1 D s1 nD hD => ?_⟩
    refine ⟨(by decide), fun G nG => ?_⟩
    refine gen_new _ _ _ nG fun H2 s2 hG => ?_
    have s12 := s1.trans s2
    refine ⟨_, _, .lst (SqL.of (s2 _ _ hD)) (dpInts st.in_), .lst (SqL.of hG) .nil, shapedNats _, (by decide +kernel), ?_⟩
    rw [eqvNil]
    refine ⟨_, _, rfl, fun e => ?_, fun e => ?_⟩
    · have ne : st.in_ ≠ [] := fun z => by
        rw [z] at e
        cases e
      obtain ⟨b, hb, hm⟩ := last_some ne
      have hb16 := in_lt hm
      have hk : st.know b ≠ 0 := by
        have := (List.mem_filter.mp hm).2
        simpa using this
      have hk8 := okK_rest (ok_known O hb16) hk
      refine ⟨_, rfl, a, dx, _, rfl, s12 _ _ ob, st_nofld _ _ _ (by decide +kernel), a, p, h, st, b, rfl, x.st.same s12, O, hb, fun H3 s3 => ?_⟩
      have s13 := s12.trans s3
      have get := atI_nat (nI_at (getD_some (l := st.seen) (i := b) (by rw [O.sl]; exact hb16)))
      have ek : st.seen.getD b 0 = st.know b := rfl
      rw [ek] at get
      refine ⟨_, rfl, _, rfl, a, CS, dx, _, _, rfl, s13 _ _ ob, TS.cl, TS.persons, lk_persons _ _ _, _, rfl, p, _, (b : Int), _, rfl, rfl, SqL.of (s13 _ _ x.st.ps), get, st.know b, rfl, ?_⟩
      refine ⟨_, rfl, a, CS, dx, _, _, rfl, s13 _ _ ob, TS.cl, TS.persons, lk_persons _ _ _, _, rfl, p, _, (b : Int), _, rfl, rfl, SqL.of (s13 _ _ x.st.ps), get, st.know b, rfl, le_line (by show 3 ≤ 1000; decide), fun D2 nD2 => ?_⟩
      refine AQ.ans (v := (b : Int)) (o := [st.know b / 8, st.know b % 8 - 1]) ?_ (by omega) s13 _ D2 (same_new nD2) nD2 (upd_same.trans ?_)
      · rw [eA, hb]
      · rw [show ((st.know b % 8 : Nat) : Int) - 1 = ((st.know b % 8 - 1 : Nat) : Int) by omega]
        rfl
    · have en : st.in_ = [] := by
        cases e0 : st.in_ with
        | nil => rfl
        | cons q0 l0 =>
          rw [e0] at e
          cases e
      refine AQ.err ?_ (by decide) s12
      rw [eA, last_none en]
theorem sc_which : FnScope ["self", "at"] ["self", "at"] (defScope sWhich) := ⟨rfl, rfl, rfl, by decide +kernel, rfl, by decide +kernel, by decide +kernel⟩
theorem ok_which (F : Fun K "which" "Muster.which" sWhich f fd) (T : TMu K CM) (TS : TSt K CS) (cG : Kon mg "NOTHING" (-6))
    (Gw : GFn P w K mg base (L2.CX P w) 3 "want" ["good", "code"] (spWant CF)) (Gd : GMe P w K mg base CX0 1 CS "in_drill" ["self"] (spInDrill CS)) : FnOk P w K mg base (L2.CX P w) 4 f fd ["self", "at"] (spR0 CM CS CF .drillNow) := by
  refine F.okX sc_which (fun vs H Q E h => ?_) (fun cdv A outer s H vs Q E hr h => ?_)
  · obtain ⟨_, _, _, _, _, _, _, rfl, _⟩ := h
    rfl
  · obtain ⟨m, l, k, a, p, h, st, rfl, x, AQ⟩ := h
    obtain ⟨dx, ob⟩ := x.st.ob
    refine ⟨_, pss_cons (ps_expr (pe_gcall Gw hr (pa_cons (pe_gmeth0 TS.cl Gd hr (pe_ix ix_list (pe_fld (pv 0) rfl) (pv 1) (fun _ _ => rfl)) pass0) (pa_cons (pe_k cG) pa_nil)) (passes_call (takes_of rfl rfl rfl rfl) (fun _ _ _ _ h => h))))
      (pss_one (ps_ret (pe_lst (pa_cons (pe_fld (pe_ix ix_list (pe_fld (pv 0) rfl) (pv 1) (fun _ _ => rfl)) rfl) pa_nil)))), ?_⟩
    refine obj_ok x T rfl rfl ?_
    refine ⟨a, dx, _, rfl, ob, st_nofld _ _ _ (by decide +kernel), a, p, h, st, rfl, x.st, _, _, rfl, fun e => ?_, fun e => ?_⟩
    · have hd : st.drill ≠ 0 := of_decide_eq_true e
      refine obj_ok x T rfl rfl ?_
      refine ⟨a, CS, dx, _, _, rfl, ob, TS.cl, TS.drill, lk_drill _ _ _, le_line (by show 1 ≤ 1000; decide), fun D nD => ?_⟩
      refine AQ.ans (v := ((st.drill : Nat) : Int)) (o := []) ?_ (by omega) (Same.refl H) _ D (same_new nD) nD upd_same
      show (if st.drill = 0 then only (-6) else _) = _
      rw [if_neg hd]
      rfl
    · have hd : st.drill = 0 := Decidable.byContradiction (of_decide_eq_false e)
      refine AQ.err ?_ (by decide) (Same.refl H)
      show (if st.drill = 0 then only (-6) else _) = _
      rw [if_pos hd]
theorem sc_state : FnScope ["self", "at", "station"] ["self", "at"] (defScope sState) := ⟨rfl, rfl, rfl, by decide +kernel, rfl, by decide +kernel, by decide +kernel⟩
theorem ok_state (F : Fun K "state" "Muster.state" sState f fd) (T : TMu K CM) (TS : TSt K CS) : FnOk P w K mg base (L2.CX P w) 4 f fd ["self", "at"] (spR0 CM CS CF .state) := by
  refine F.okX sc_state (fun vs H Q E h => ?_) (fun cdv A outer s H vs Q E hr h => ?_)
  · obtain ⟨_, _, _, _, _, _, _, rfl, _⟩ := h
    rfl
  · obtain ⟨m, l, k, a, p, h, st, rfl, x, AQ⟩ := h
    obtain ⟨dx, ob⟩ := x.st.ob
    refine ⟨_, pss_cons (ps_set (i := 2) sc_state.nd rfl (.inl rfl) (pe_ix ix_list (pe_fld (pv 0) rfl) (pv 1) (fun _ _ => rfl)))
      (pss_one (ps_ret (pe_lst (pa_cons (pe_fld (pv 2) rfl) (pa_cons (pe_fld (pv 2) rfl) (pa_cons (pe_fld (pv 2) rfl) (pa_cons (pe_fld (pv 2) rfl) pa_nil))))))), ?_⟩
    refine obj_ok x T rfl rfl ?_
    refine ⟨_, rfl, a, CS, dx, _, _, rfl, ob, TS.cl, TS.minute, lk_minute _ _ _, _, rfl, a, CS, dx, _, _, rfl, ob, TS.cl, TS.me, lk_me _ _ _, _, rfl, a, CS, dx, _, _, rfl, ob, TS.cl, TS.drill, lk_drill _ _ _,
      _, rfl, a, CS, dx, _, _, rfl, ob, TS.cl, TS.many, lk_many _ _ _, le_line (by show 4 ≤ 1000; decide), fun D nD => ?_⟩
    exact AQ.ans (v := ((st.minute : Nat) : Int)) (o := [st.me, st.drill, st.heard]) rfl (by omega) (Same.refl H) _ D (same_new nD) nD upd_same
theorem sc_tell : FnScope ["self", "at", "station"] ["self", "at"] (defScope sTell) := ⟨rfl, rfl, rfl, by decide +kernel, rfl, by decide +kernel, by decide +kernel⟩
theorem message_len {s : Station} (O : Ok s) : s.message.length = 22 := by
  show (s.drill :: (s.seen ++ s.now.news)).length = 22
  rw [List.length_cons, List.length_append, O.sl, now_len O]
theorem ok_tell (F : Fun K "tell" "Muster.tell" sTell f fd) (T : TMu K CM) (TS : TSt K CS) (cG : Kon mg "NOTHING" (-6)) (ml : mg "len" = none)
    (Gw : GFn P w K mg base (L2.CX P w) 3 "want" ["good", "code"] (spWant CF)) (Gd : GMe P w K mg base CX0 1 CS "in_drill" ["self"] (spInDrill CS)) (Gi : GMe P w K mg base CX0 1 CS "who_is_in" ["self"] (spWho CS Station.in_))
    (Gm : GMe P w K mg base CX0 2 CS "message" ["self"] (spMessage CS)) : FnOk P w K mg base (L2.CX P w) 4 f fd ["self", "at"] (spR0 CM CS CF .tell) := by
  refine F.okX sc_tell (fun vs H Q E h => ?_) (fun cdv A outer s H vs Q E hr h => ?_)
  · obtain ⟨_, _, _, _, _, _, _, rfl, _⟩ := h
    rfl
  · obtain ⟨m, l, k, a, p, h, st, rfl, x, AQ⟩ := h
    have O := x.ok
    obtain ⟨dx, ob⟩ := x.st.ob
    refine ⟨_, pss_cons (ps_set (i := 2) sc_tell.nd rfl (.inl rfl) (pe_ix ix_list (pe_fld (pv 0) rfl) (pv 1) (fun _ _ => rfl)))
      (pss_cons (ps_expr (pe_gcall Gw hr (pa_cons (pe_gmeth0 TS.cl Gd hr (pv 2) pass0) (pa_cons (pe_k cG) pa_nil)) (passes_call (takes_of rfl rfl rfl rfl) (fun _ _ _ _ h => h))))
      (pss_one (ps_ret (pe_op op_cat (pe_lst (pa_cons (pe_callB call_len_seq (by rfl) ml PySem.boot_len (pa_cons (pe_gmeth0 TS.cl Gi hr (pv 2) pass0) pa_nil)) pa_nil)) (pe_gmeth0 TS.cl Gm hr (pv 2) pass0))))), ?_⟩
    have eA : (act st .tell).2 = if st.drill = 0 then only (-6) else ⟨((st.in_.length : Nat) : Int), st.message⟩ := by
      show (if st.drill = 0 then (st, only (-6)) else (st.now, (⟨((st.in_.length : Nat) : Int), st.message⟩ : Km441.Ans))).2 = _
      split <;> rfl
    refine obj_ok x T rfl rfl ?_
    refine ⟨_, rfl, a, dx, _, rfl, ob, st_nofld _ _ _ (by decide +kernel), a, p, h, st, rfl, x.st, _, _, rfl, fun e => ?_, fun e => ?_⟩
    · have hd : st.drill ≠ 0 := of_decide_eq_true e
      refine ⟨_, rfl, a, dx, _, rfl, ob, st_nofld _ _ _ (by decide +kernel), a, p, h, st, rfl, x.st, O, fun H1 D s1 nD hD => ?_⟩
      refine ⟨D, _, rfl, .inl (SqL.of hD), le_line (by show 1 ≤ 1000; decide), fun G nG => ?_⟩
      refine gen_new _ _ _ nG fun H2 s2 hG => ?_
      have s12 := s1.trans s2
      refine ⟨_, rfl, a, dx, _, rfl, s12 _ _ ob, st_nofld _ _ _ (by decide +kernel), a, p, h, st, rfl, x.st.same s12, O, fun H3 M s3 nM hM => ?_⟩
      refine ⟨G, M, _, _, rfl, rfl, s3 _ _ hG, hM, ?_, fun D2 nD2 => ?_⟩
      · rw [nI_length, nI_length, message_len O]
        exact le_line (by show 1 + 22 ≤ 1000; decide)
      · refine AQ.ans (v := ((st.in_.length : Nat) : Int)) (o := st.message) ?_ (by omega) (s12.trans s3) _ D2 (same_new nD2) nD2 (upd_same.trans ?_)
        · rw [eA, if_neg hd]
        · rw [nI_length]
          rfl
    · have hd : st.drill = 0 := Decidable.byContradiction (of_decide_eq_false e)
      refine AQ.err ?_ (by decide) (Same.refl H)
      rw [eA, if_pos hd]
end
end Sm
namespace Sm
open PySem PySem.Spec PyProof.Rows L2
open Km441 (Station merge act only station0)
/-! ### the muster with its three stations -/
/-- where a station and its two lists lie -/
structure Ft where
  a : Addr
  p : Addr
  h : Addr
def objV : Option Ft → V
  | none => .non
  | some f => .ref f.a
/-- the addresses that are the muster's -/
def Foot (m l : Addr) (ft : List (Option Ft)) (b : Addr) : Prop := b = m ∨ b = l ∨ ∃ (k : Nat) (f : Ft), ft[k]? = some (some f) ∧ (b = f.a ∨ b = f.p ∨ b = f.h)
structure MuAt (CM CS : Addr) (H : Hp) (m l : Addr) (S : List (Option Station)) (ft : List (Option Ft)) : Prop where
  mu : ∃ dx, H m = some (.ins CM dx (muF l))
  ls : H l = some (.lst (ft.map objV))
  fl : ft.length = S.length
  no : ∀ k : Nat, S[k]? = some none → ft[k]? = some none
  st : ∀ (k : Nat) (s : Station), S[k]? = some (some s) → ∃ f, ft[k]? = some (some f) ∧ StAt CS H f.a f.p f.h s ∧ Ok s ∧ f.p ≠ f.h ∧ f.p ≠ l ∧ f.h ≠ l
  dj : ∀ (j k : Nat) (f g : Ft), j ≠ k → ft[j]? = some (some f) → ft[k]? = some (some g) → f.a ≠ g.a ∧ f.p ≠ g.p ∧ f.p ≠ g.h
/-- what a call may do with the muster -/
def Post (CM CS m l : Addr) (S' : List (Option Station)) (ft : List (Option Ft)) (H H' : Hp) : Prop := ∃ ft', MuAt CM CS H' m l S' ft' ∧ (∀ b o, H b = some o → ¬ Foot m l ft b → H' b = some o) ∧ ∀ b, Foot m l ft' b → Foot m l ft b ∨ H b = none
section
variable {CM CS CF m l : Addr} {H H' : Hp} {S : List (Option Station)} {ft : List (Option Ft)}
theorem MuAt.same (M : MuAt CM CS H m l S ft) (e : Same H H') : MuAt CM CS H' m l S ft :=
  ⟨let ⟨dx, q⟩ := M.mu; ⟨dx, e _ _ q⟩, e _ _ M.ls, M.fl, M.no, fun k s h => let ⟨f, h1, h2, h3⟩ := M.st k s h; ⟨f, h1, h2.same e, h3⟩, M.dj⟩
theorem Post.of (M : MuAt CM CS H m l S ft) (e : Same H H') : Post CM CS m l S ft H H' := ⟨ft, M.same e, fun b o q _ => e b o q, fun b h => .inl h⟩
theorem Post.more {H2 : Hp} (p : Post CM CS m l S ft H H') (e : Same H' H2) : Post CM CS m l S ft H H2 := by
  obtain ⟨ft', M, k, n⟩ := p
  exact ⟨ft', M.same e, fun b o q z => e _ _ (k b o q z), n⟩
theorem Post.pre {H0 : Hp} (p : Post CM CS m l S ft H H') (e : Same H0 H) : Post CM CS m l S ft H0 H' := by
  obtain ⟨ft', M, k, n⟩ := p
  exact ⟨ft', M, fun b o q z => k b o (e _ _ q) z, fun b z => (n b z).imp id e.free⟩
theorem MuAt.at1 (M : MuAt CM CS H m l S ft) {k : Nat} {s : Station} {f : Ft} (hf : ft[k]? = some (some f)) (hs : StAt CS H f.a f.p f.h s) (O : Ok s) : At1 CM CS H m l k f.a f.p f.h s :=
  ⟨M.mu, ⟨_, M.ls, by rw [List.getElem?_map, hf]; rfl⟩, hs, O⟩
theorem mu_st_ne {l2 p h dx dx2 : Addr} {s : Station} : HO.ins CM dx (muF l2) ≠ .ins CS dx2 (stF s p h) := fun z => by
  injection z with _ _ z
  have z2 := congrArg List.length z
  cases z2
theorem set_at {α : Type} {xs : List α} {k : Nat} {x y : α} (h : xs[k]? = some x) : (xs.set k y)[k]? = some y := List.getElem?_set_self (List.getElem?_eq_some_iff.mp h).1
theorem set_off {α : Type} {xs : List α} {j k : Nat} {y : α} (h : k ≠ j) : (xs.set k y)[j]? = xs[j]? := List.getElem?_set_ne h
/-- the k-th station, whose lists may be new, has changed -/
theorem mu_upd (M : MuAt CM CS H m l S ft) {k : Nat} {s s' : Station} {f : Ft} {p' h' : Addr} (hk : S[k]? = some (some s)) (hf : ft[k]? = some (some f)) (x : StAt CS H f.a f.p f.h s) (x' : StAt CS H' f.a p' h' s') (O' : Ok s')
    (keep : ∀ b o, H b = some o → b ≠ f.a → b ≠ f.p → H' b = some o) (np : p' = f.p ∨ H p' = none) (nh : h' = f.h ∨ H h' = none) (nph : p' ≠ h') : Post CM CS m l (S.set k (some s')) ft H H' := by
  obtain ⟨f0, hf0, _, _, fph, fpl, fhl⟩ := M.st k s hk
  rw [hf] at hf0
  cases hf0
  obtain ⟨dxm, hm⟩ := M.mu
  obtain ⟨dxa, ha⟩ := x.ob
  have la : l ≠ f.a := ne_of M.ls ha (by intro z; cases z)
  have ma : m ≠ f.a := ne_of hm ha mu_st_ne
  have mp : m ≠ f.p := ne_of hm x.ps (by intro z; cases z)
  have npl : p' ≠ l := by
    rcases np with e | e
    · rw [e]
      exact fpl
    · exact (ne_of_none M.ls e).symm
  have nhl : h' ≠ l := by
    rcases nh with e | e
    · rw [e]
      exact fhl
    · exact (ne_of_none M.ls e).symm
  refine ⟨ft.set k (some ⟨f.a, p', h'⟩), ⟨⟨dxm, keep _ _ hm ma mp⟩, ?_, ?_, fun j hj => ?_, fun j t hj => ?_, fun i j g g' hij hi hj => ?_⟩, fun b o e nf => ?_, fun b hb => ?_⟩
  · have e : (ft.set k (some ⟨f.a, p', h'⟩)).map objV = ft.map objV := by
      rw [List.map_set]
      refine List.ext_getElem? fun i => ?_
      by_cases hi : k = i
      · subst hi
        rw [set_at (x := objV (some f)) (by rw [List.getElem?_map, hf]; rfl), List.getElem?_map, hf]
        rfl
      · rw [set_off hi]
    rw [e]
    exact keep _ _ M.ls la (fun z => fpl z.symm)
  · rw [List.length_set, List.length_set]
    exact M.fl
  · by_cases e : k = j
    · subst e
      rw [set_at hk] at hj
      cases hj
    · rw [set_off e] at hj ⊢
      exact M.no j hj
  · by_cases e : k = j
    · subst e
      rw [set_at hk] at hj
      cases hj
      exact ⟨_, set_at hf, x', O', nph, npl, nhl⟩
    · rw [set_off e] at hj ⊢
      obtain ⟨g, hg, xg, Og, hr⟩ := M.st j t hj
      obtain ⟨d1, d2, d3⟩ := M.dj k j f g e hf hg
      obtain ⟨dxg, hga⟩ := xg.ob
      refine ⟨g, hg, ⟨⟨dxg, keep _ _ hga d1.symm (ne_of hga x.ps (by intro z; cases z))⟩, keep _ _ xg.ps (ne_of xg.ps ha (by intro z; cases z)) d2.symm, keep _ _ xg.hs (ne_of xg.hs ha (by intro z; cases z)) d3.symm⟩, Og, hr⟩
  · -- two stations stand apart
    have one : ∀ (j : Nat) (g : Ft), k ≠ j → ft[j]? = some (some g) → f.a ≠ g.a ∧ (p' ≠ g.p ∧ p' ≠ g.h) ∧ g.p ≠ h' := by
      intro j g e hg
      obtain ⟨d1, d2, d3⟩ := M.dj k j f g e hf hg
      obtain ⟨_, _, d6⟩ := M.dj j k g f (Ne.symm e) hg hf
      have hs : ∃ t, S[j]? = some (some t) := by
        cases hS : S[j]? with
        | none =>
          have h1 := List.getElem?_eq_none_iff.mp hS
          rw [← M.fl] at h1
          rw [List.getElem?_eq_none h1] at hg
          cases hg
        | some o =>
          cases o with
          | none =>
            rw [M.no j hS] at hg
            cases hg
          | some t => exact ⟨t, rfl⟩
      obtain ⟨t, ht⟩ := hs
      obtain ⟨g2, hg2, xg, _⟩ := M.st j t ht
      rw [hg] at hg2
      cases hg2
      refine ⟨d1, ?_, ?_⟩
      · rcases np with e | e
        · rw [e]
          exact ⟨d2, d3⟩
        · exact ⟨(ne_of_none xg.ps e).symm, (ne_of_none xg.hs e).symm⟩
      · rcases nh with e | e
        · rw [e]
          exact d6
        · exact ne_of_none xg.ps e
    by_cases e : k = i
    · subst e
      rw [set_at hf] at hi
      cases hi
      rw [set_off hij] at hj
      obtain ⟨q1, q2, q3⟩ := one j g' hij hj
      exact ⟨q1, q2.1, q2.2⟩
    · rw [set_off e] at hi
      by_cases e2 : k = j
      · subst e2
        rw [set_at hf] at hj
        cases hj
        obtain ⟨q1, q2, q3⟩ := one i g e hi
        exact ⟨q1.symm, q2.1.symm, q3⟩
      · rw [set_off e2] at hj
        exact M.dj i j g g' hij hi hj
  · exact keep b o e (fun z => nf (.inr (.inr ⟨k, f, hf, .inl z⟩))) fun z => nf (.inr (.inr ⟨k, f, hf, .inr (.inl z)⟩))
  · rcases hb with hb | hb | ⟨j, g, hg, hb⟩
    · exact .inl (.inl hb)
    · exact .inl (.inr (.inl hb))
    · by_cases e : k = j
      · subst e
        rw [set_at hf] at hg
        cases hg
        rcases hb with hb | hb | hb
        · exact .inl (.inr (.inr ⟨k, f, hf, .inl hb⟩))
        · rcases np with e | e
          · exact .inl (.inr (.inr ⟨k, f, hf, .inr (.inl (hb.trans e))⟩))
          · exact .inr (by rw [hb]; exact e)
        · rcases nh with e | e
          · exact .inl (.inr (.inr ⟨k, f, hf, .inr (.inr (hb.trans e))⟩))
          · exact .inr (by rw [hb]; exact e)
      · rw [set_off e] at hg
        exact .inl (.inr (.inr ⟨j, g, hg, hb⟩))
/-- a new station in the k-th place -/
theorem mu_new (M : MuAt CM CS H m l S ft) {k : Nat} {s' : Station} {a p h : Addr} (hk : k < S.length) (x' : StAt CS H' a p h s') (O' : Ok s') (na : H a = none) (np : H p = none) (nh : H h = none) (nph : p ≠ h)
    (keep : ∀ b o, H b = some o → b ≠ l → H' b = some o) (hl : H' l = some (.lst ((ft.map objV).set k (.ref a)))) : Post CM CS m l (S.set k (some s')) ft H H' := by
  obtain ⟨dxm, hm⟩ := M.mu
  have kf : k < ft.length := by rw [M.fl]; exact hk
  have hS := List.getElem?_eq_getElem hk
  have hF := List.getElem?_eq_getElem kf
  have ml : m ≠ l := ne_of hm M.ls (by intro z; cases z)
  have other : ∀ (j : Nat) (g : Ft), ft[j]? = some (some g) → ∃ t, StAt CS H g.a g.p g.h t ∧ Ok t ∧ g.p ≠ g.h ∧ g.p ≠ l ∧ g.h ≠ l ∧ S[j]? = some (some t) := by
    intro j g hg
    cases hS : S[j]? with
    | none =>
      have h1 := List.getElem?_eq_none_iff.mp hS
      rw [← M.fl] at h1
      rw [List.getElem?_eq_none h1] at hg
      cases hg
    | some o =>
      cases o with
      | none =>
        rw [M.no j hS] at hg
        cases hg
      | some t =>
        obtain ⟨g2, hg2, xg, Og, r1, r2, r3⟩ := M.st j t hS
        rw [hg] at hg2
        cases hg2
        exact ⟨t, xg, Og, r1, r2, r3, rfl⟩
  refine ⟨ft.set k (some ⟨a, p, h⟩), ⟨⟨dxm, keep _ _ hm ml⟩, ?_, ?_, fun j hj => ?_, fun j t hj => ?_, fun i j g g' hij hi hj => ?_⟩, fun b o e nf => keep b o e fun z => nf (.inr (.inl z)), fun b hb => ?_⟩
  · rw [hl, List.map_set]
    rfl
  · rw [List.length_set, List.length_set]
    exact M.fl
  · by_cases e : k = j
    · subst e
      rw [set_at hS] at hj
      cases hj
    · rw [set_off e] at hj ⊢
      exact M.no j hj
  · by_cases e : k = j
    · subst e
      rw [set_at hS] at hj
      cases hj
      exact ⟨_, set_at hF, x', O', nph, (ne_of_none M.ls np).symm, (ne_of_none M.ls nh).symm⟩
    · rw [set_off e] at hj ⊢
      obtain ⟨g, hg, xg, Og, r1, r2, r3⟩ := M.st j t hj
      obtain ⟨dxg, hga⟩ := xg.ob
      exact ⟨g, hg, ⟨⟨dxg, keep _ _ hga (ne_of hga M.ls (by intro z; cases z))⟩, keep _ _ xg.ps r2, keep _ _ xg.hs r3⟩, Og, r1, r2, r3⟩
  · by_cases e : k = i
    · subst e
      rw [set_at hF] at hi
      cases hi
      rw [set_off hij] at hj
      obtain ⟨t, xg, _⟩ := other j g' hj
      obtain ⟨dxg, hga⟩ := xg.ob
      exact ⟨(ne_of_none hga na).symm, (ne_of_none xg.ps np).symm, (ne_of_none xg.hs np).symm⟩
    · rw [set_off e] at hi
      by_cases e2 : k = j
      · subst e2
        rw [set_at hF] at hj
        cases hj
        obtain ⟨t, xg, _⟩ := other i g hi
        obtain ⟨dxg, hga⟩ := xg.ob
        exact ⟨ne_of_none hga na, ne_of_none xg.ps np, ne_of_none xg.ps nh⟩
      · rw [set_off e2] at hj
        exact M.dj i j g g' hij hi hj
  · rcases hb with hb | hb | ⟨j, g, hg, hb⟩
    · exact .inl (.inl hb)
    · exact .inl (.inr (.inl hb))
    · by_cases e : k = j
      · subst e
        rw [set_at hF] at hg
        cases hg
        rcases hb with hb | hb | hb
        · exact .inr (by rw [hb]; exact na)
        · exact .inr (by rw [hb]; exact np)
        · exact .inr (by rw [hb]; exact nh)
      · rw [set_off e] at hg
        exact .inl (.inr (.inr ⟨j, g, hg, hb⟩))
/-- what is wanted behind a call, by what becomes of the stations and its answer -/
structure AnsP (CM CS CF m l : Addr) (S' : List (Option Station)) (ft : List (Option Ft)) (ans : Km441.Ans) (H : Hp) (Q : VK) (E : XK) : Prop where
  good : 0 ≤ ans.value → ∀ H' D, Post CM CS m l S' ft H H' → H D = none → H' D = some (.lst (.int ans.value :: nI ans.out)) → Q (.ref D) H'
  bad : ans.value < 0 → ∀ H' d, Same H H' → H d = none → H' d = some (.xd [("code", .int ans.value)]) → E (.ref CF) (some d) H'
theorem AnsP.err {S' : List (Option Station)} {ans : Km441.Ans} {Q : VK} {E : XK} {v : Int} (A : AnsP CM CS CF m l S' ft ans H Q E) (e : ans = only v) (hv : v < 0) {H1 : Hp} (s1 : Same H H1) : ∀ H' d, Same H1 H' → H1 d = none → H' d = some (.xd [("code", .int v)]) → E (.ref CF) (some d) H' := by
  subst e
  exact fun H' d s n hd => A.bad hv H' d (s1.trans s) (s1.free n) hd
theorem AnsP.ans {S' S2 : List (Option Station)} {ans : Km441.Ans} {Q : VK} {E : XK} {v : Int} {o : List Nat} (A : AnsP CM CS CF m l S' ft ans H Q E) (eS : S' = S2) (e : ans = ⟨v, o⟩) (hv : 0 ≤ v) : ∀ H' D, Post CM CS m l S2 ft H H' → H D = none → H' D = some (.lst (.int v :: nI o)) → Q (.ref D) H' := by
  subst e eS
  exact A.good hv
theorem set_same {α : Type} {xs : List α} {k : Nat} {x : α} (h : xs[k]? = some x) : xs.set k x = xs := by
  refine List.ext_getElem? fun i => ?_
  by_cases e : k = i
  · subst e
    rw [set_at h, h]
  · rw [set_off e]
end
/-! ### the calls that change something -/
def spP0 (CM CS CF : Addr) (c : Km441.Call) : Sp := fun vs H Q E => ∃ (m l : Addr) (S : List (Option Station)) (ft : List (Option Ft)) (k : Nat) (s : Station), vs = [.ref m, .int (k : Int)] ∧ MuAt CM CS H m l S ft ∧ S[k]? = some (some s) ∧ AnsP CM CS CF m l (S.set k (some (act s c).1)) ft (act s c).2 H Q E
def spP1 (CM CS CF : Addr) (c : Nat → Km441.Call) : Sp := fun vs H Q E => ∃ (m l : Addr) (S : List (Option Station)) (ft : List (Option Ft)) (k : Nat) (s : Station) (n : Nat), vs = [.ref m, .int (k : Int), .int (n : Int)] ∧ MuAt CM CS H m l S ft ∧ S[k]? = some (some s) ∧
  AnsP CM CS CF m l (S.set k (some (act s (c n)).1)) ft (act s (c n)).2 H Q E
def spPM (K : PySem.W.Frag) (CM CS CF : Addr) (c : List Nat → Km441.Call) : Sp := fun vs H Q E => ∃ (m l : Addr) (S : List (Option Station)) (ft : List (Option Ft)) (k : Nat) (s : Station) (b : Addr) (ms : List Nat), vs = [.ref m, .int (k : Int), .ref b] ∧ MuAt CM CS H m l S ft ∧ S[k]? = some (some s) ∧
  SqL K H b (nI ms) ∧ ms.length = 22 ∧ AnsP CM CS CF m l (S.set k (some (act s (c ms)).1)) ft (act s (c ms)).2 H Q E
/-- mu_start: of any station -/
def startOf (S : List (Option Station)) (k me : Nat) : List (Option Station) × Km441.Ans := if 5 ≤ me then (S, only (-22)) else (S.set k (some (station0 me)), only 0)
def spStart (CM CS CF : Addr) : Sp := fun vs H Q E => ∃ (m l : Addr) (S : List (Option Station)) (ft : List (Option Ft)) (k me : Nat), vs = [.ref m, .int (k : Int), .int (me : Int)] ∧ MuAt CM CS H m l S ft ∧ k < S.length ∧
  AnsP CM CS CF m l (startOf S k me).1 ft (startOf S k me).2 H Q E
section
variable {P : Program} {w : World} {K : PySem.W.Frag} {mg : Str → Option Value} {base : Heap} {f CS CM CF : Addr} {fd : FuncData}
abbrev sStart : Stmt := inClass (top 37) 1
abbrev sMinutes : Stmt := inClass (top 37) 2
abbrev sNextDrill : Stmt := inClass (top 37) 3
abbrev sComeIn : Stmt := inClass (top 37) 4
abbrev sHearM : Stmt := inClass (top 37) 6
theorem ok_station0 {me : Nat} (h : me ≤ 4) : Ok (station0 me) :=
  ⟨h, Nat.zero_le _, Nat.zero_le _, rfl, rfl, fun x hx => by rw [List.eq_of_mem_replicate hx]; rfl, fun x hx => by rw [List.eq_of_mem_replicate hx]; exact Nat.zero_le _, Nat.zero_le _⟩
theorem sc_start : FnScope ["self", "at", "me"] ["self", "at", "me"] (defScope sStart) := ⟨rfl, rfl, rfl, by decide +kernel, rfl, by decide +kernel, by decide +kernel⟩
theorem ok_start (F : Fun K "start" "Muster.start" sStart f fd) (T : TMu K CM) (cS : Kon mg "STATIONS" 5) (cR : Kon mg "OUT_OF_RANGE" (-22))
    (Gw : GFn P w K mg base (L2.CX P w) 3 "want" ["good", "code"] (spWant CF)) (Gs : GMk P w K mg base 1 CS "Station" ["self", "me"] (spStInit CS)) : FnOk P w K mg base (L2.CX P w) 4 f fd ["self", "at", "me"] (spStart CM CS CF) := by
  refine F.okX sc_start (fun vs H Q E h => ?_) (fun cdv A outer s H vs Q E hr h => ?_)
  · obtain ⟨_, _, _, _, _, _, rfl, _⟩ := h
    rfl
  · obtain ⟨m, l, S, ft, k, me, rfl, M, hk, AP⟩ := h
    refine ⟨_, pss_cons (ps_expr (pe_gcall Gw hr (pa_cons (pe_cmpR op_lt (pv 2) (pe_k cS) (nomark _)) (pa_cons (pe_k cR) pa_nil)) (passes_call (takes_of rfl rfl rfl rfl) (fun _ _ _ _ h => h))))
      (pss_cons (ps_asg (pe_gmake Gs hr (pa_cons (pv 2) pa_nil)) (pg_sub (pe_fld (pv 0) rfl) (pv 1) set_list))
      (pss_one (ps_ret (pe_lst (pa_cons pe_int pa_nil))))), ?_⟩
    refine ⟨_, rfl, _, _, rfl, rfl, _, _, rfl, fun e => ?_, fun e => ?_⟩
    · have hme : me < 5 := by
        have := of_decide_eq_true e
        omega
      obtain ⟨dxm, hm⟩ := M.mu
      refine ⟨_, rfl, fun x dx nx nd ne => ?_⟩
      refine ⟨x, dx, me, rfl, upd_same, fun H1 p h S1 b1 np nh nph => ⟨rfl, ?_⟩⟩
      have nx0 : H x = none := nx
      have old : ∀ b o, H b = some o → H1 b = some o := fun b o e => b1 b o (by rw [upd_ne (ne_of_none e nx), upd_ne (ne_of_none e nd)]; exact e) (ne_of_none e nx)
      have down : ∀ b, b ≠ x → upd (upd H dx (.own x)) x (.ins CS dx []) b = none → H b = none := fun b hb n => by
        cases e : H b with
        | none => rfl
        | some o =>
          rw [upd_ne hb, upd_ne (ne_of_none e nd), e] at n
          cases n
      have np0 : H p = none := down p (fun z => by rw [z, upd_same] at np; cases np) np
      have nh0 : H h = none := down h (fun z => by rw [z, upd_same] at nh; cases nh) nh
      refine ⟨_, rfl, m, CM, dxm, _, _, rfl, old _ _ hm, T.cl, T.stations, lk_stations l, _, rfl, l, _, (k : Int), k, rfl, rfl, old _ _ M.ls, ?_, ?_⟩
      · unfold ixN
        rw [List.length_map, M.fl, if_pos (by omega), if_pos (by omega), Int.toNat_natCast]
      · refine gen_self _ _ _ fun H2 b2 hl2 => ⟨le_line (by show 1 ≤ 1000; decide), fun D nD => ?_⟩
        obtain ⟨dxa, ha⟩ := S1.ob
        have xl : x ≠ l := (ne_of_none M.ls nx).symm
        have pl : p ≠ l := (ne_of_none M.ls np0).symm
        have hl' : h ≠ l := (ne_of_none M.ls nh0).symm
        have po : Post CM CS m l (S.set k (some (station0 me))) ft H H2 := mu_new M hk ⟨⟨dxa, b2 _ _ ha xl⟩, b2 _ _ S1.ps pl, b2 _ _ S1.hs hl'⟩ (ok_station0 (by omega)) nx np0 nh0 nph (fun b o e n => b2 _ _ (old _ _ e) n) hl2
        have eS : startOf S k me = (S.set k (some (station0 me)), only 0) := if_neg (by omega)
        refine AP.ans (v := 0) (o := []) (congrArg Prod.fst eS) (congrArg Prod.snd eS) (by decide) _ D (po.more (same_new nD)) ?_ upd_same
        cases e0 : H D with
        | none => rfl
        | some o =>
          have z := old _ _ e0
          have z2 := b2.none nD
          by_cases eD : D = l
          · rw [eD, hl2] at nD
            cases nD
          · rw [z2 eD] at z
            cases z
    · have hme : ¬ me < 5 := by
        have := of_decide_eq_false e
        omega
      have eS : startOf S k me = (S, only (-22)) := if_pos (by omega)
      exact AP.err (congrArg Prod.snd eS) (by decide) (Same.refl H)
end
end Sm
namespace Sm
open PySem PySem.Spec PyProof.Rows L2
open Km441 (Station merge act only station0)
/-! ### what is kept of a station -/
theorem ok_fresh {s : Station} (O : Ok s) {d : Nat} (hd : d ≤ 1000) : Ok (s.fresh d) :=
  ⟨O.me, O.mi, hd, rfl, rfl, fun x hx => by rw [List.eq_of_mem_replicate hx]; rfl, fun x hx => by rw [List.eq_of_mem_replicate hx]; exact Nat.zero_le _, O.hd⟩
theorem merge_mem {xs ys : List Nat} {x : Nat} (h : x ∈ merge xs ys) (hl : xs.length = ys.length) : x ∈ xs ∨ x ∈ ys := by
  unfold merge at h
  obtain ⟨i, hi, rfl⟩ := List.mem_map.mp h
  have h1 := List.mem_range.mp hi
  have h2 : i < ys.length := by omega
  rw [List.getD_eq_getElem?_getD, List.getD_eq_getElem?_getD, List.getElem?_eq_getElem h1, List.getElem?_eq_getElem h2]
  show max xs[i] ys[i] ∈ xs ∨ max xs[i] ys[i] ∈ ys
  rcases Nat.le_total xs[i] ys[i] with e | e
  · rw [Nat.max_eq_right e]
    exact .inr (List.getElem_mem _)
  · rw [Nat.max_eq_left e]
    exact .inl (List.getElem_mem _)
theorem good_parts {m : List Nat} (hl : m.length = 22) (h : Km441.good m = true) : 1 ≤ m.getD 0 0 ∧ m.getD 0 0 ≤ 1000 ∧ (∀ x ∈ (m.drop 1).take 16, okK x = true) ∧ ∀ x ∈ m.drop 17, x ≤ 100000 := by
  rw [good_B hl] at h
  unfold goodB at h
  simp only [Bool.and_eq_true, decide_eq_true_eq, List.all_eq_true] at h
  exact ⟨h.1, h.2.1, h.2.2.1, fun x hx => of_decide_eq_true (h.2.2.2 x hx)⟩
theorem ok_heard {s : Station} (O : Ok s) {m : List Nat} (hl : m.length = 22) (h : Km441.good m = true) : Ok (heard s m) := by
  obtain ⟨g1, g2, g3, g4⟩ := good_parts hl h
  have lp : ((m.drop 1).take 16).length = 16 := by
    rw [List.length_take, List.length_drop]
    omega
  have ln : (m.drop 17).length = 5 := by
    rw [List.length_drop]
    omega
  have hh : min 100000 (s.heard + 1) ≤ 100000 := Nat.min_le_left _ _
  unfold heard
  rcases Nat.lt_trichotomy (m.getD 0 0) s.drill with e | e | e
  · rw [join_old e]
    exact ⟨O.me, O.mi, O.dr, O.sl, O.nl, O.sk, O.nk, hh⟩
  · rw [join_same e]
    refine ⟨O.me, O.mi, O.dr, (merge_length _ _).trans O.sl, (merge_length _ _).trans O.nl, fun x hx => ?_, fun x hx => ?_, hh⟩
    · rcases merge_mem hx (O.sl.trans lp.symm) with h | h
      · exact O.sk x h
      · exact g3 x h
    · rcases merge_mem hx (O.nl.trans ln.symm) with h | h
      · exact O.nk x h
      · exact g4 x h
  · rw [join_new e hl]
    refine ⟨O.me, O.mi, g2, lp, merge_length _ _, g3, fun x hx => ?_, hh⟩
    rcases merge_mem hx ln.symm with h | h
    · rw [List.eq_of_mem_replicate h]
      exact Nat.zero_le _
    · exact g4 x h
theorem okK_now {s : Station} (O : Ok s) : okK (8 * s.minute + s.me + 1) = true := by
  have h1 := O.me
  have h2 := O.mi
  unfold okK
  rw [show decide (1 ≤ (8 * s.minute + s.me + 1) % 8) = true from decide_eq_true (by omega), show decide ((8 * s.minute + s.me + 1) % 8 ≤ 5) = true from decide_eq_true (by omega), show decide ((8 * s.minute + s.me + 1) / 8 ≤ 100000) = true from decide_eq_true (by omega)]
  simp
section
variable {P : Program} {w : World} {K : PySem.W.Frag} {mg : Str → Option Value} {base : Heap} {f CS CM CF : Addr} {fd : FuncData}
/-! ### minutes, next_drill, come_in, hear -/
theorem sc_minutes : FnScope ["self", "at", "n", "station"] ["self", "at", "n"] (defScope sMinutes) := ⟨rfl, rfl, rfl, by decide +kernel, rfl, by decide +kernel, by decide +kernel⟩
theorem ok_minutes (F : Fun K "minutes" "Muster.minutes" sMinutes f fd) (T : TMu K CM) (TS : TSt K CS) (cM : Kon mg "MOST_MINUTES" 1440) (cR : Kon mg "OUT_OF_RANGE" (-22)) (cL : Kon mg "LAST_MINUTE" 100000) (cT : Kon mg "TOO_LATE" (-75))
    (Gw : GFn P w K mg base (L2.CX P w) 3 "want" ["good", "code"] (spWant CF)) : FnOk P w K mg base (L2.CX P w) 4 f fd ["self", "at", "n"] (spP1 CM CS CF .minutes) := by
  refine F.okX sc_minutes (fun vs H Q E h => ?_) (fun cdv A outer s H vs Q E hr h => ?_)
  · obtain ⟨_, _, _, _, _, _, _, rfl, _⟩ := h
    rfl
  · obtain ⟨m, l, S, ft, k, st, n, rfl, M, hk, AP⟩ := h
    obtain ⟨f0, hf, xs, O, nph, _⟩ := M.st k st hk
    have x := M.at1 hf xs O
    obtain ⟨dx, ob⟩ := xs.ob
    refine ⟨_, pss_cons (ps_set (i := 3) sc_minutes.nd rfl (.inl rfl) (pe_ix ix_list (pe_fld (pv 0) rfl) (pv 1) (fun _ _ => rfl)))
      (pss_cons (ps_expr (pe_gcall Gw hr (pa_cons (pe_chain op_le op_le pe_int (pv 2) (pe_k cM)) (pa_cons (pe_k cR) pa_nil)) (passes_call (takes_of rfl rfl rfl rfl) (fun _ _ _ _ h => h))))
      (pss_cons (ps_expr (pe_gcall Gw hr (pa_cons (pe_cmpR op_le (pe_op op_add (pe_fld (pv 3) rfl) (pv 2)) (pe_k cL) (nomark _)) (pa_cons (pe_k cT) pa_nil)) (passes_call (takes_of rfl rfl rfl rfl) (fun _ _ _ _ h => h))))
      (pss_cons (ps_fld (pv 3) (pe_op op_add (pe_fld (pv 3) rfl) (pv 2)) rfl)
      (pss_one (ps_ret (pe_lst (pa_cons (pe_fld (pv 3) rfl) pa_nil))))))), ?_⟩
    have eA : act st (.minutes n) = if n = 0 ∨ 1440 < n then (st, only (-22)) else if 100000 < st.minute + n then (st, only (-75)) else ({ st with minute := st.minute + n }, only ((st.minute + n : Nat) : Int)) := rfl
    refine obj_ok x T rfl rfl ?_
    have bad : ¬ (1 ≤ n ∧ n ≤ 1440) → ∀ H' d, Same H H' → H d = none → H' d = some (.xd [("code", .int (-22))]) → E (.ref CF) (some d) H' := fun hn => by
      refine AP.err ?_ (by decide) (Same.refl H)
      rw [eA, if_pos (by omega)]
    refine ⟨_, rfl, _, _, rfl, rfl, _, rfl, ite2 (fun e => ?_) (fun e => ?_)⟩
    · have e1 : (1 : Int) ≤ (n : Int) := of_decide_eq_true e
      refine ⟨_, _, rfl, rfl, _, _, rfl, fun e => ?_, fun e => ?_⟩
      · have e2 : (n : Int) ≤ 1440 := of_decide_eq_true e
        refine ⟨_, rfl, f0.a, CS, dx, _, _, rfl, ob, TS.cl, TS.minute, lk_minute _ _ _, _, rfl, _, _, rfl, rfl, _, _, rfl, rfl, _, _, rfl, fun e => ?_, fun e => ?_⟩
        · have e3 : (st.minute : Int) + (n : Int) ≤ 100000 := of_decide_eq_true e
          refine ⟨_, rfl, f0.a, CS, dx, _, _, rfl, ob, TS.cl, TS.minute, lk_minute _ _ _, _, rfl, _, _, rfl, rfl, _, rfl, f0.a, CS, dx, _, rfl, ob, TS.cl, TS.minute, lt_k 6 rfl (by decide), ?_⟩
          have eP : putF "minute" (V.int (((st.minute : Nat) : Int) + (n : Int))) (stF st f0.p f0.h) = stF { st with minute := st.minute + n } f0.p f0.h := by
            rw [show ((st.minute : Nat) : Int) + (n : Int) = ((st.minute + n : Nat) : Int) by omega, put_minute]
          dsimp only
          rw [eP]
          refine gen_self _ _ _ fun H1 b1 a1 => ?_
          refine ⟨_, rfl, f0.a, CS, dx, _, _, rfl, a1, TS.cl, TS.minute, lk_minute _ _ _, le_line (by show 1 ≤ 1000; decide), fun D nD => ?_⟩
          have npa := ne_of xs.ps ob (by intro z; cases z)
          have nha := ne_of xs.hs ob (by intro z; cases z)
          have e5 : act st (.minutes n) = ({ st with minute := st.minute + n }, only ((st.minute + n : Nat) : Int)) := by
            rw [eA, if_neg (by omega), if_neg (by omega)]
          have po := mu_upd M hk hf xs (p' := f0.p) (h' := f0.h) (s' := { st with minute := st.minute + n }) ⟨⟨dx, a1⟩, b1 _ _ xs.ps npa, b1 _ _ xs.hs nha⟩ ⟨O.me, (by show st.minute + n ≤ 100000; omega), O.dr, O.sl, O.nl, O.sk, O.nk, O.hd⟩ (fun b o e n _ => b1 b o e n) (.inl rfl) (.inl rfl) nph
          refine AP.ans (S2 := S.set k (some { st with minute := st.minute + n })) (v := ((st.minute + n : Nat) : Int)) (o := []) (by rw [e5]) (by rw [e5]; rfl) (by omega) _ D (po.more (same_new nD)) ?_ upd_same
          exact b1.none nD (fun z => by rw [z, a1] at nD; cases nD)
        · have e3 := of_decide_eq_false e
          refine AP.err ?_ (by decide) (Same.refl H)
          rw [eA, if_neg (by omega), if_pos (by omega)]
      · have e2 := of_decide_eq_false e
        exact bad (by omega)
    · have e1 : ¬ (1 : Int) ≤ (n : Int) := fun z => e (decide_eq_true z)
      exact ⟨false, _, rfl, fun z => Bool.noConfusion z, fun _ => bad (by omega)⟩
theorem sc_next_drill : FnScope ["self", "at", "station"] ["self", "at"] (defScope sNextDrill) := ⟨rfl, rfl, rfl, by decide +kernel, rfl, by decide +kernel, by decide +kernel⟩
theorem ok_next_drill (F : Fun K "next_drill" "Muster.next_drill" sNextDrill f fd) (T : TMu K CM) (TS : TSt K CS) (cD : Kon mg "LAST_DRILL" 1000) (cO : Kon mg "LAST_ONE" (-28))
    (Gw : GFn P w K mg base (L2.CX P w) 3 "want" ["good", "code"] (spWant CF)) (Gf : GMe P w K mg base CX0 1 CS "forget" ["self", "drill"] (spForget CS)) : FnOk P w K mg base (L2.CX P w) 4 f fd ["self", "at"] (spP0 CM CS CF .drill) := by
  refine F.okX sc_next_drill (fun vs H Q E h => ?_) (fun cdv A outer s H vs Q E hr h => ?_)
  · obtain ⟨_, _, _, _, _, _, rfl, _⟩ := h
    rfl
  · obtain ⟨m, l, S, ft, k, st, rfl, M, hk, AP⟩ := h
    obtain ⟨f0, hf, xs, O, _⟩ := M.st k st hk
    have x := M.at1 hf xs O
    obtain ⟨dx, ob⟩ := xs.ob
    refine ⟨_, pss_cons (ps_set (i := 2) sc_next_drill.nd rfl (.inl rfl) (pe_ix ix_list (pe_fld (pv 0) rfl) (pv 1) (fun _ _ => rfl)))
      (pss_cons (ps_expr (pe_gcall Gw hr (pa_cons (pe_cmpR op_lt (pe_fld (pv 2) rfl) (pe_k cD) (nomark _)) (pa_cons (pe_k cO) pa_nil)) (passes_call (takes_of rfl rfl rfl rfl) (fun _ _ _ _ h => h))))
      (pss_cons (ps_expr (pe_gmeth TS.cl Gf hr (pv 2) (pa_cons (pe_op op_add (pe_fld (pv 2) rfl) pe_int) pa_nil) pass0))
      (pss_one (ps_ret (pe_lst (pa_cons (pe_fld (pv 2) rfl) pa_nil)))))), ?_⟩
    have eA : act st .drill = if 1000 ≤ st.drill then (st, only (-28)) else (st.fresh (st.drill + 1), only ((st.drill + 1 : Nat) : Int)) := rfl
    refine obj_ok x T rfl rfl ?_
    refine ⟨_, rfl, f0.a, CS, dx, _, _, rfl, ob, TS.cl, TS.drill, lk_drill _ _ _, _, _, rfl, rfl, _, _, rfl, fun e => ?_, fun e => ?_⟩
    · have hd : st.drill < 1000 := by
        have := of_decide_eq_true e
        omega
      have e5 : act st .drill = (st.fresh (st.drill + 1), only ((st.drill + 1 : Nat) : Int)) := by
        rw [eA, if_neg (by omega)]
      refine ⟨_, rfl, f0.a, dx, _, rfl, ob, st_nofld _ _ _ (by decide +kernel), _, rfl, f0.a, CS, dx, _, _, rfl, ob, TS.cl, TS.drill, lk_drill _ _ _, _, _, rfl, rfl, f0.a, f0.p, f0.h, st, st.drill + 1, rfl, xs, fun H1 p' h' S1 b1 np nh nph => ?_⟩
      obtain ⟨dx1, ob1⟩ := S1.ob
      refine ⟨_, rfl, f0.a, CS, dx1, _, _, rfl, ob1, TS.cl, TS.drill, lk_drill _ _ _, le_line (by show 1 ≤ 1000; decide), fun D nD => ?_⟩
      have po := mu_upd M hk hf xs S1 (ok_fresh O (by omega)) (fun b o e n _ => b1 b o e n) (.inr np) (.inr nh) nph
      refine AP.ans (S2 := S.set k (some (st.fresh (st.drill + 1)))) (v := ((st.drill + 1 : Nat) : Int)) (o := []) (by rw [e5]) (by rw [e5]; rfl) (by omega) _ D (po.more (same_new nD)) ?_ upd_same
      exact b1.none nD (fun z => by rw [z, ob1] at nD; cases nD)
    · have hd := of_decide_eq_false e
      refine AP.err ?_ (by decide) (Same.refl H)
      rw [eA, if_pos (by omega)]
theorem sc_come_in : FnScope ["self", "at", "p", "station", "before"] ["self", "at", "p"] (defScope sComeIn) := ⟨rfl, rfl, rfl, by decide +kernel, rfl, by decide +kernel, by decide +kernel⟩
theorem ok_come_in (F : Fun K "come_in" "Muster.come_in" sComeIn f fd) (T : TMu K CM) (TS : TSt K CS) (cP : Kon mg "PERSONS" 16) (cN : Kon mg "NONE_SUCH" (-2)) (cG : Kon mg "NOTHING" (-6)) (cO : Kon mg "NO_LESS" (-17))
    (Gw : GFn P w K mg base (L2.CX P w) 3 "want" ["good", "code"] (spWant CF)) (Gd : GMe P w K mg base CX0 1 CS "in_drill" ["self"] (spInDrill CS)) (Gn : GMe P w K mg base CX0 2 CS "here_and_now" ["self"] (spNow CS)) :
    FnOk P w K mg base (L2.CX P w) 4 f fd ["self", "at", "p"] (spP1 CM CS CF .in_) := by
  refine F.okX sc_come_in (fun vs H Q E h => ?_) (fun cdv A outer s H vs Q E hr h => ?_)
  · obtain ⟨_, _, _, _, _, _, _, rfl, _⟩ := h
    rfl
  · obtain ⟨m, l, S, ft, k, st, n, rfl, M, hk, AP⟩ := h
    obtain ⟨f0, hf, xs, O, nph, _⟩ := M.st k st hk
    have x := M.at1 hf xs O
    obtain ⟨dx, ob⟩ := xs.ob
    refine ⟨_, pss_cons (ps_set (i := 3) sc_come_in.nd rfl (.inl rfl) (pe_ix ix_list (pe_fld (pv 0) rfl) (pv 1) (fun _ _ => rfl)))
      (pss_cons (ps_expr (pe_gcall Gw hr (pa_cons (pe_cmpR op_lt (pv 2) (pe_k cP) (nomark _)) (pa_cons (pe_k cN) pa_nil)) (passes_call (takes_of rfl rfl rfl rfl) (fun _ _ _ _ h => h))))
      (pss_cons (ps_expr (pe_gcall Gw hr (pa_cons (pe_gmeth0 TS.cl Gd hr (pv 3) pass0) (pa_cons (pe_k cG) pa_nil)) (passes_call (takes_of rfl rfl rfl rfl) (fun _ _ _ _ h => h))))
      (pss_cons (ps_set (i := 4) sc_come_in.nd rfl (.inl rfl) (pe_ix ix_list (pe_fld (pv 3) rfl) (pv 2) (fun _ _ => rfl)))
      (pss_cons (ps_expr (pe_gcall Gw hr (pa_cons (pe_cmpR op_lt (pv 4) (pe_gmeth0 TS.cl Gn hr (pv 3) pass0) (nomark _)) (pa_cons (pe_k cO) pa_nil)) (passes_call (takes_of rfl rfl rfl rfl) (fun _ _ _ _ h => h))))
      (pss_cons (ps_asg (pe_gmeth0 TS.cl Gn hr (pv 3) pass0) (pg_sub (pe_fld (pv 3) rfl) (pv 2) set_list))
      (pss_one (ps_ret (pe_lst (pa_cons (pv 4) pa_nil))))))))), ?_⟩
    have eA : act st (.in_ n) = if 16 ≤ n then (st, only (-2)) else if st.drill = 0 then (st, only (-6)) else if 8 * st.minute + st.me + 1 ≤ st.know n then (st, only (-17)) else ({ st with seen := st.seen.set n (8 * st.minute + st.me + 1) }, only ((st.know n : Nat) : Int)) := rfl
    refine obj_ok x T rfl rfl ?_
    refine ⟨_, rfl, _, _, rfl, rfl, _, _, rfl, fun e => ?_, fun e => ?_⟩
    · have hn : n < 16 := by
        have := of_decide_eq_true e
        omega
      refine ⟨_, rfl, f0.a, dx, _, rfl, ob, st_nofld _ _ _ (by decide +kernel), f0.a, f0.p, f0.h, st, rfl, xs, _, _, rfl, fun e => ?_, fun e => ?_⟩
      · have hd : st.drill ≠ 0 := of_decide_eq_true e
        have ek : st.seen.getD n 0 = st.know n := rfl
        refine ⟨_, rfl, f0.a, CS, dx, _, _, rfl, ob, TS.cl, TS.persons, lk_persons _ _ _, _, rfl, f0.p, _, (n : Int), _, rfl, rfl, SqL.of xs.ps, atI_nat (nI_at (getD_some (by rw [O.sl]; exact hn))), ?_⟩
        rw [ek]
        refine ⟨_, rfl, _, rfl, f0.a, dx, _, rfl, ob, st_nofld _ _ _ (by decide +kernel), f0.a, f0.p, f0.h, st, rfl, xs, _, _, rfl, rfl, _, _, rfl, fun e => ?_, fun e => ?_⟩
        · have hl : st.know n < 8 * st.minute + st.me + 1 := by
            have := of_decide_eq_true e
            omega
          have e5 : act st (.in_ n) = ({ st with seen := st.seen.set n (8 * st.minute + st.me + 1) }, only ((st.know n : Nat) : Int)) := by
            rw [eA, if_neg (by omega), if_neg hd, if_neg (by omega)]
          refine ⟨_, rfl, f0.a, dx, _, rfl, ob, st_nofld _ _ _ (by decide +kernel), f0.a, f0.p, f0.h, st, rfl, xs, ?_⟩
          refine ⟨_, rfl, f0.a, CS, dx, _, _, rfl, ob, TS.cl, TS.persons, lk_persons _ _ _, _, rfl, f0.p, _, (n : Int), n, rfl, rfl, xs.ps, ?_, ?_⟩
          · unfold ixN
            rw [nI_length, O.sl, if_pos (by omega), if_pos (by omega), Int.toNat_natCast]
          rw [nI_set]
          refine gen_self _ _ _ fun H1 b1 p1 => ⟨_, rfl, le_line (by show 1 ≤ 1000; decide), fun D nD => ?_⟩
          have nap : f0.a ≠ f0.p := ne_of ob xs.ps (by intro z; cases z)
          have po := mu_upd M hk hf xs (p' := f0.p) (h' := f0.h) (s' := { st with seen := st.seen.set n (8 * st.minute + st.me + 1) }) ⟨⟨dx, b1 _ _ ob nap⟩, p1, b1 _ _ xs.hs nph.symm⟩
            ⟨O.me, O.mi, O.dr, by rw [List.length_set]; exact O.sl, O.nl, fun y hy => by
              rcases List.mem_or_eq_of_mem_set hy with h | h
              · exact O.sk y h
              · rw [h]
                exact okK_now O, O.nk, O.hd⟩ (fun b o e _ n => b1 b o e n) (.inl rfl) (.inl rfl) nph
          refine AP.ans (S2 := S.set k (some { st with seen := st.seen.set n (8 * st.minute + st.me + 1) })) (v := ((st.know n : Nat) : Int)) (o := []) (by rw [e5]) (by rw [e5]; rfl) (by omega) _ D (po.more (same_new nD)) ?_ upd_same
          exact b1.none nD (fun z => by rw [z, p1] at nD; cases nD)
        · have hl := of_decide_eq_false e
          refine AP.err ?_ (by decide) (Same.refl H)
          rw [eA, if_neg (by omega), if_neg hd, if_pos (by omega)]
      · have hd : st.drill = 0 := Decidable.byContradiction (of_decide_eq_false e)
        refine AP.err ?_ (by decide) (Same.refl H)
        rw [eA, if_neg (by omega), if_pos hd]
    · have hn := of_decide_eq_false e
      refine AP.err ?_ (by decide) (Same.refl H)
      rw [eA, if_pos (by omega)]
theorem sc_hearM : FnScope ["self", "at", "message", "station", "many"] ["self", "at", "message"] (defScope sHearM) := ⟨rfl, rfl, rfl, by decide +kernel, rfl, by decide +kernel, by decide +kernel⟩
theorem ok_hearM (F : Fun K "hear" "Muster.hear" sHearM f fd) (T : TMu K CM) (TS : TSt K CS) (cB : Kon mg "NOT_GOOD" (-71))
    (Gw : GFn P w K mg base (L2.CX P w) 3 "want" ["good", "code"] (spWant CF)) (Gg : GFn P w K mg base CX0 3 "is_good" ["message"] (spIsGood K)) (Gn : GMe P w K mg base CX0 3 CS "many_new" ["self", "message"] (spManyNew K CS))
    (Gh : GMe P w K mg base CX0 3 CS "hear" ["self", "message"] (spHear K CS)) : FnOk P w K mg base (L2.CX P w) 4 f fd ["self", "at", "message"] (spPM K CM CS CF .hear) := by
  refine F.okX sc_hearM (fun vs H Q E h => ?_) (fun cdv A outer s H vs Q E hr h => ?_)
  · obtain ⟨_, _, _, _, _, _, _, _, rfl, _⟩ := h
    rfl
  · obtain ⟨m, l, S, ft, k, st, b, ms, rfl, M, hk, hB, hl, AP⟩ := h
    obtain ⟨f0, hf, xs, O, nph, _⟩ := M.st k st hk
    have x := M.at1 hf xs O
    obtain ⟨dx, ob⟩ := xs.ob
    refine ⟨_, pss_cons (ps_set (i := 3) sc_hearM.nd rfl (.inl rfl) (pe_ix ix_list (pe_fld (pv 0) rfl) (pv 1) (fun _ _ => rfl)))
      (pss_cons (ps_expr (pe_gcall Gw hr (pa_cons (pe_gcall Gg hr (pa_cons (pv 2) pa_nil) pass0) (pa_cons (pe_k cB) pa_nil)) (passes_call (takes_of rfl rfl rfl rfl) (fun _ _ _ _ h => h))))
      (pss_cons (ps_set (i := 4) sc_hearM.nd rfl (.inl rfl) (pe_gmeth TS.cl Gn hr (pv 3) (pa_cons (pv 2) pa_nil) pass0))
      (pss_cons (ps_expr (pe_gmeth TS.cl Gh hr (pv 3) (pa_cons (pv 2) pa_nil) pass0))
      (pss_one (ps_ret (pe_lst (pa_cons (pv 4) (pa_cons (pe_fld (pv 3) rfl) pa_nil)))))))), ?_⟩
    have eA : act st (.hear ms) = if Km441.good ms = false then (st, only (-71)) else (heard st ms, ⟨((newOf st ms : Nat) : Int), [(st.join ms).drill]⟩) := rfl
    refine obj_ok x T rfl rfl ?_
    refine ⟨_, rfl, b, ms, rfl, hB, hl, fun H1 s1 => ⟨_, _, rfl, fun e => ?_, fun e => ?_⟩⟩
    · obtain ⟨g1, _⟩ := good_parts hl e
      have e5 : act st (.hear ms) = (heard st ms, ⟨((newOf st ms : Nat) : Int), [(st.join ms).drill]⟩) := by
        rw [eA, if_neg (by rw [e]; exact Bool.noConfusion)]
      refine ⟨_, rfl, f0.a, dx, _, rfl, s1 _ _ ob, st_nofld _ _ _ (by decide +kernel), _, rfl, f0.a, f0.p, f0.h, b, st, ms, rfl, xs.same s1, O, s1.seq hB, hl, fun H2 s2 => ?_⟩
      have s12 := s1.trans s2
      refine ⟨_, rfl, f0.a, dx, _, rfl, s12 _ _ ob, st_nofld _ _ _ (by decide +kernel), _, rfl, f0.a, f0.p, f0.h, b, st, ms, rfl, xs.same s12, O, s12.seq hB, hl, g1, nph, fun H3 p' h' S3 b3 np nh nph' => ?_⟩
      obtain ⟨dx3, ob3⟩ := S3.ob
      refine ⟨_, rfl, _, rfl, f0.a, CS, dx3, _, _, rfl, ob3, TS.cl, TS.drill, lk_drill _ _ _, le_line (by show 2 ≤ 1000; decide), fun D nD => ?_⟩
      have po := (mu_upd (M.same s12) hk hf (xs.same s12) S3 (ok_heard O hl e) (fun b o e n _ => b3 b o e n) (.inr np) nh nph').pre s12
      refine AP.ans (S2 := S.set k (some (heard st ms))) (v := ((newOf st ms : Nat) : Int)) (o := [(st.join ms).drill]) (by rw [e5]) (by rw [e5]) (by omega) _ D (po.more (same_new nD)) ?_ upd_same
      exact s12.free (b3.none nD (fun z => by rw [z, ob3] at nD; cases nD))
    · refine AP.err ?_ (by decide) s1
      rw [eA, if_pos e]
end
end Sm
namespace Sm
open PySem PySem.Spec PyProof.Rows L2
open Km441 (Station merge act only station0)
/-! ### a call that is handed in: its number, its whole numbers, its message; which station; what it is -/
inductive Req : Nat → List Nat → List Nat → Nat → Km441.Call → Prop
  | start (k b : Nat) : Req 0 [k, b] [] k (.start b)
  | minutes (k b : Nat) : Req 1 [k, b] [] k (.minutes b)
  | drill (k : Nat) : Req 2 [k] [] k .drill
  | in_ (k b : Nat) : Req 3 [k, b] [] k (.in_ b)
  | tell (k : Nat) : Req 4 [k] [] k .tell
  | hear (k : Nat) (m : List Nat) : m.length = 22 → Req 5 [k] m k (.hear m)
  | where_ (k b : Nat) : Req 6 [k, b] [] k (.where_ b)
  | count (k : Nat) : Req 7 [k] [] k .count
  | missing (k : Nat) : Req 8 [k] [] k .missing
  | at_ (k b : Nat) : Req 9 [k, b] [] k (.at_ b)
  | sure (k b t : Nat) : Req 10 [k, b, t] [] k (.sure b t)
  | news (k b : Nat) : Req 11 [k, b] [] k (.news b)
  | soonest (k b : Nat) : Req 12 [k, b] [] k (.soonest b)
  | new_ (k : Nat) (m : List Nat) : m.length = 22 → Req 13 [k] m k (.new_ m)
  | last (k : Nat) : Req 14 [k] [] k .last
  | drillNow (k : Nat) : Req 15 [k] [] k .drillNow
  | state (k : Nat) : Req 16 [k] [] k .state
/-- what the program makes of a station: telling leaves it as it is -/
def pact (s : Station) : Km441.Call → Station × Km441.Ans
  | .tell => (s, (act s .tell).2)
  | c => act s c
/-- what a call makes of the stations, and its answer -/
def res (S : List (Option Station)) (k : Nat) : Km441.Call → Option (List (Option Station) × Km441.Ans)
  | .start me => some (startOf S k me)
  | c => match S[k]? with
    | some (some s) => some (S.set k (some (pact s c).1), (pact s c).2)
    | _ => none
theorem res_some {S S' : List (Option Station)} {k : Nat} {c : Km441.Call} {ans : Km441.Ans} (h : res S k c = some (S', ans)) (hc : Km441.isStart c = false) : ∃ s, S[k]? = some (some s) ∧ S' = S.set k (some (pact s c).1) ∧ ans = (pact s c).2 := by
  have e : res S k c = match S[k]? with
    | some (some s) => some (S.set k (some (pact s c).1), (pact s c).2)
    | _ => none := by
    cases c <;> first | rfl | cases hc
  rw [e] at h
  cases q : S[k]? with
  | none =>
    rw [q] at h
    cases h
  | some o =>
    cases o with
    | none =>
      rw [q] at h
      cases h
    | some s =>
      rw [q] at h
      have h2 := Option.some.inj h
      exact ⟨s, rfl, (congrArg Prod.fst h2).symm, (congrArg Prod.snd h2).symm⟩
/-- a refusal leaves all as it was, and tells nothing else -/
theorem pact_bad (s : Station) (c : Km441.Call) (h : (pact s c).2.value < 0) : (pact s c).1 = s ∧ (pact s c).2.out = [] := by
  cases c with
  | start me =>
    have e : pact s (.start me) = if 5 ≤ me then (s, only (-22)) else (station0 me, only 0) := rfl
    rw [e] at h ⊢
    split at h
    · rw [if_pos (by assumption)]
      exact ⟨rfl, rfl⟩
    · exact absurd (show (0 : Int) < 0 from h) (by decide)
  | minutes n =>
    have e : pact s (.minutes n) = if n = 0 ∨ 1440 < n then (s, only (-22)) else if 100000 < s.minute + n then (s, only (-75)) else ({ s with minute := s.minute + n }, only ((s.minute + n : Nat) : Int)) := rfl
    rw [e] at h ⊢
    split at h
    · rw [if_pos (by assumption)]
      exact ⟨rfl, rfl⟩
    · rw [if_neg (by assumption)]
      split at h
      · rw [if_pos (by assumption)]
        exact ⟨rfl, rfl⟩
      · exact absurd (show ((s.minute + n : Nat) : Int) < 0 from h) (by omega)
  | drill =>
    have e : pact s .drill = if 1000 ≤ s.drill then (s, only (-28)) else (s.fresh (s.drill + 1), only ((s.drill + 1 : Nat) : Int)) := rfl
    rw [e] at h ⊢
    split at h
    · rw [if_pos (by assumption)]
      exact ⟨rfl, rfl⟩
    · exact absurd (show ((s.drill + 1 : Nat) : Int) < 0 from h) (by omega)
  | in_ n =>
    have e : pact s (.in_ n) = if 16 ≤ n then (s, only (-2)) else if s.drill = 0 then (s, only (-6)) else if 8 * s.minute + s.me + 1 ≤ s.know n then (s, only (-17)) else ({ s with seen := s.seen.set n (8 * s.minute + s.me + 1) }, only ((s.know n : Nat) : Int)) := rfl
    rw [e] at h ⊢
    split at h
    · rw [if_pos (by assumption)]
      exact ⟨rfl, rfl⟩
    · rw [if_neg (by assumption)]
      split at h
      · rw [if_pos (by assumption)]
        exact ⟨rfl, rfl⟩
      · rw [if_neg (by assumption)]
        split at h
        · rw [if_pos (by assumption)]
          exact ⟨rfl, rfl⟩
        · exact absurd (show ((s.know n : Nat) : Int) < 0 from h) (by omega)
  | tell =>
    have e : pact s .tell = (s, if s.drill = 0 then only (-6) else ⟨((s.in_.length : Nat) : Int), s.message⟩) := by
      show (s, (if s.drill = 0 then (s, only (-6)) else (s.now, (⟨((s.in_.length : Nat) : Int), s.message⟩ : Km441.Ans))).2) = _
      split <;> rfl
    rw [e] at h ⊢
    refine ⟨rfl, ?_⟩
    simp only at h ⊢
    split at h
    · rw [if_pos (by assumption)]
      rfl
    · exact absurd (show ((s.in_.length : Nat) : Int) < 0 from h) (by omega)
  | hear m =>
    have e : pact s (.hear m) = if Km441.good m = false then (s, only (-71)) else (heard s m, ⟨((newOf s m : Nat) : Int), [(s.join m).drill]⟩) := rfl
    rw [e] at h ⊢
    split at h
    · rw [if_pos (by assumption)]
      exact ⟨rfl, rfl⟩
    · exact absurd (show ((newOf s m : Nat) : Int) < 0 from h) (by omega)
  | where_ n =>
    have e : pact s (.where_ n) = (s, if 16 ≤ n then only (-2) else if s.know n = 0 then only (-6) else ⟨((s.know n % 8 - 1 : Nat) : Int), [s.know n / 8]⟩) := rfl
    rw [e] at h ⊢
    refine ⟨rfl, ?_⟩
    simp only at h ⊢
    split at h
    · rw [if_pos (by assumption)]
      rfl
    · rw [if_neg (by assumption)]
      split at h
      · rw [if_pos (by assumption)]
        rfl
      · exact absurd (show ((s.know n % 8 - 1 : Nat) : Int) < 0 from h) (by omega)
  | count => exact absurd (show ((s.in_.length : Nat) : Int) < 0 from h) (by omega)
  | missing =>
    have e : pact s .missing = (s, if s.drill = 0 then only (-6) else ⟨((s.missing.length : Nat) : Int), [Km441.bits s.missing]⟩) := rfl
    rw [e] at h ⊢
    refine ⟨rfl, ?_⟩
    simp only at h ⊢
    split at h
    · rw [if_pos (by assumption)]
      rfl
    · exact absurd (show ((s.missing.length : Nat) : Int) < 0 from h) (by omega)
  | at_ k =>
    have e : pact s (.at_ k) = (s, if 5 ≤ k then only (-2) else ⟨(((s.at_ k).length : Nat) : Int), [Km441.bits (s.at_ k)]⟩) := rfl
    rw [e] at h ⊢
    refine ⟨rfl, ?_⟩
    simp only at h ⊢
    split at h
    · rw [if_pos (by assumption)]
      rfl
    · exact absurd (show (((s.at_ k).length : Nat) : Int) < 0 from h) (by omega)
  | sure n t =>
    have e : pact s (.sure n t) = (s, if n = 0 ∨ 5 < n ∨ 100000 < t then only (-22) else if s.drill = 0 then only (-6) else if s.late n t ≠ [] then only (-13) else ⟨((s.missing.length : Nat) : Int), [Km441.bits s.missing]⟩) := rfl
    rw [e] at h ⊢
    refine ⟨rfl, ?_⟩
    simp only at h ⊢
    split at h
    · rw [if_pos (by assumption)]
      rfl
    · rw [if_neg (by assumption)]
      split at h
      · rw [if_pos (by assumption)]
        rfl
      · rw [if_neg (by assumption)]
        split at h
        · rw [if_pos (by assumption)]
          rfl
        · exact absurd (show ((s.missing.length : Nat) : Int) < 0 from h) (by omega)
  | news k =>
    have e : pact s (.news k) = (s, if 5 ≤ k then only (-2) else only ((s.now.news.getD k 0 : Nat) : Int)) := rfl
    rw [e] at h ⊢
    refine ⟨rfl, ?_⟩
    simp only at h ⊢
    split at h
    · rw [if_pos (by assumption)]
      rfl
    · rw [if_neg (by assumption)]
      rfl
  | soonest n =>
    have e : pact s (.soonest n) = (s, if n = 0 ∨ 5 < n then only (-22) else ⟨((s.least n : Nat) : Int), [soonBits s n]⟩) := rfl
    rw [e] at h ⊢
    refine ⟨rfl, ?_⟩
    simp only at h ⊢
    split at h
    · rw [if_pos (by assumption)]
      rfl
    · exact absurd (show ((s.least n : Nat) : Int) < 0 from h) (by omega)
  | new_ m =>
    have e : pact s (.new_ m) = (s, if Km441.good m = false then only (-71) else only ((newOf s m : Nat) : Int)) := rfl
    rw [e] at h ⊢
    refine ⟨rfl, ?_⟩
    simp only
    split <;> rfl
  | last =>
    have e : pact s .last = (s, match s.last with
      | none => only (-6)
      | some p => ⟨((p : Nat) : Int), [s.know p / 8, s.know p % 8 - 1]⟩) := rfl
    rw [e] at h ⊢
    refine ⟨rfl, ?_⟩
    cases q : s.last with
    | none => rfl
    | some p =>
      rw [q] at h
      exact absurd (show ((p : Nat) : Int) < 0 from h) (by omega)
  | drillNow =>
    have e : pact s .drillNow = (s, if s.drill = 0 then only (-6) else only ((s.drill : Nat) : Int)) := rfl
    rw [e] at h ⊢
    refine ⟨rfl, ?_⟩
    simp only
    split <;> rfl
  | state => exact absurd (show ((s.minute : Nat) : Int) < 0 from h) (by omega)
theorem res_bad {S S' : List (Option Station)} {k : Nat} {c : Km441.Call} {ans : Km441.Ans} (h : res S k c = some (S', ans)) (hv : ans.value < 0) : S' = S ∧ ans.out = [] := by
  cases hc : Km441.isStart c with
  | false =>
    obtain ⟨s, hs, rfl, rfl⟩ := res_some h hc
    obtain ⟨e1, e2⟩ := pact_bad s c hv
    rw [e1]
    exact ⟨set_same hs, e2⟩
  | true =>
    cases c with
    | start me =>
      have h2 : startOf S k me = (S', ans) := Option.some.inj h
      unfold startOf at h2
      split at h2
      · cases h2
        exact ⟨rfl, rfl⟩
      · cases h2
        exact absurd hv (by decide)
    | _ => cases hc
theorem eqT {i j : Int} {A B : Prop} (e : i = j) (h : A) : if decide (V.int i = V.int j) = true then A else B := by
  rw [if_pos (decide_eq_true (congrArg V.int e))]
  exact h
theorem eqF {i j : Int} {A B : Prop} (e : i ≠ j) (h : B) : if decide (V.int i = V.int j) = true then A else B := by
  rw [if_neg (fun z => e (V.int.inj (of_decide_eq_true z)))]
  exact h
section
variable {P : Program} {w : World} {K : PySem.W.Frag} {mg : Str → Option Value} {base : Heap} {f CS CM CF : Addr} {fd : FuncData}
/-! ### Muster.__init__, done, asked -/
theorem nones {α β : Type} {k : Nat} (h : ([none, none, none] : List (Option α))[k]? = some none) : ([none, none, none] : List (Option β))[k]? = some none := by
  match k, h with
  | 0, _ => rfl
  | 1, _ => rfl
  | 2, _ => rfl
  | k + 3, h => exact absurd h (by simp)
theorem nones_no {α : Type} {k : Nat} {x : α} (h : ([none, none, none] : List (Option α))[k]? = some (some x)) : False := by
  match k, h with
  | 0, h => cases h
  | 1, h => cases h
  | 2, h => cases h
  | k + 3, h => exact absurd h (by simp)
abbrev sDone : Stmt := inClass (top 37) 17
abbrev sAsked : Stmt := inClass (top 37) 18
abbrev sAnswer : Stmt := inClass (top 37) 19
theorem sc_mu_init : FnScope ["self"] ["self"] (defScope sMuInit) := ⟨rfl, rfl, rfl, by decide +kernel, rfl, by decide +kernel, by decide +kernel⟩
def spMuInit (CM CS : Addr) : Sp := fun vs H Q _ => ∃ (m dx : Addr), vs = [.ref m] ∧ H m = some (.ins CM dx []) ∧
  ∀ H' l, MuAt CM CS H' m l [none, none, none] [none, none, none] → But m H H' → H l = none → Q .non H'
theorem ok_mu_init (F : Fun K "__init__" "Muster.__init__" sMuInit f fd) (T : TMu K CM) (cO : Kon mg "OBJECTS" 3) : FnOk P w K mg base CX0 1 f fd ["self"] (spMuInit CM CS) := by
  refine F.ok sc_mu_init (fun vs H Q E h => ?_) (fun cdv A outer s H vs Q E hr h => ?_)
  · obtain ⟨_, _, rfl, _⟩ := h
    rfl
  · obtain ⟨m, dx, rfl, hm, q⟩ := h
    refine ⟨_, pss_one (ps_fld (pv 0) (pe_op op_rep (pe_lst (pa_cons pe_non pa_nil)) (pe_k cO)) rfl), ?_⟩
    refine ⟨(by decide), fun l1 n1 => ⟨l1, 3, _, rfl, rfl, upd_same, (by decide), (by decide), (by decide), fun l n2 => ?_⟩⟩
    have s12 := snew (o := .lst (List.replicate (Int.toNat 3) [V.non]).flatten) (same_new (o := .lst [V.non]) n1) n2
    have nl : H l = none := (same_new n1).free n2
    have hl : (upd (upd H l1 (.lst [V.non])) l (.lst (List.replicate (Int.toNat 3) [V.non]).flatten)) l = some (.lst [.non, .non, .non]) := upd_same
    generalize upd (upd H l1 (.lst [V.non])) l (.lst (List.replicate (Int.toNat 3) [V.non]).flatten) = H2 at s12 hl ⊢
    refine ⟨_, rfl, m, CM, dx, _, rfl, s12 _ _ hm, T.cl, T.stations, (by decide), ?_⟩
    refine gen_self _ _ _ fun H3 b3 m3 => ?_
    have lm : l ≠ m := (ne_of_none hm nl).symm
    exact q H3 l ⟨⟨dx, m3⟩, b3 _ _ hl lm, rfl, fun k hk => nones hk, fun k s hk => (nones_no hk).elim, fun j k f g _ hj => (nones_no hj).elim⟩ ((But.of s12).trans b3) nl
end
end Sm
namespace Sm
open PySem PySem.Spec PyProof.Rows L2
open Km441 (Station merge act only station0)
section
variable {P : Program} {w : World} {K : PySem.W.Frag} {mg : Str → Option Value} {base : Heap} {f CS CM CF : Addr} {fd : FuncData}
theorem ansQ_of {m l : Addr} {H : Hp} {S : List (Option Station)} {ft : List (Option Ft)} {k : Nat} {s : Station} {c : Km441.Call} {Q : VK} {E : XK} (M : MuAt CM CS H m l S ft) (hk : S[k]? = some (some s)) (e : (pact s c).1 = s) (e2 : (pact s c).2 = (act s c).2)
    (AP : AnsP CM CS CF m l (S.set k (some (pact s c).1)) ft (pact s c).2 H Q E) : AnsQ CF (act s c).2 H Q E := by
  rw [e, e2, set_same hk] at AP
  exact ⟨fun hv H' D s' nD hD => AP.good hv H' D (Post.of M s') nD hD, AP.bad⟩
def spReq (K : PySem.W.Frag) (CM CS CF : Addr) (lo hi : Nat) : Sp := fun vs H Q E => ∃ (m l nb mb : Addr) (S S' : List (Option Station)) (ft : List (Option Ft)) (cc k : Nat) (ns ms : List Nat) (c : Km441.Call) (ans : Km441.Ans), vs = [.ref m, .int (cc : Int), .ref nb, .ref mb] ∧ MuAt CM CS H m l S ft ∧
  SqL K H nb (nI ns) ∧ SqL K H mb (nI ms) ∧ Req cc ns ms k c ∧ lo ≤ cc ∧ cc < hi ∧ k < S.length ∧ res S k c = some (S', ans) ∧ AnsP CM CS CF m l S' ft ans H Q E
theorem sc_done : FnScope ["self", "call", "n", "message"] ["self", "call", "n", "message"] (defScope sDone) := ⟨rfl, rfl, rfl, by decide +kernel, rfl, by decide +kernel, by decide +kernel⟩
theorem ok_done (F : Fun K "done" "Muster.done" sDone f fd) (T : TMu K CM)
    (Gs : GMe P w K mg base (L2.CX P w) 4 CM "start" ["self", "at", "me"] (spStart CM CS CF)) (Gmi : GMe P w K mg base (L2.CX P w) 4 CM "minutes" ["self", "at", "n"] (spP1 CM CS CF .minutes))
    (Gnd : GMe P w K mg base (L2.CX P w) 4 CM "next_drill" ["self", "at"] (spP0 CM CS CF .drill)) (Gci : GMe P w K mg base (L2.CX P w) 4 CM "come_in" ["self", "at", "p"] (spP1 CM CS CF .in_))
    (Gt : GMe P w K mg base (L2.CX P w) 4 CM "tell" ["self", "at"] (spR0 CM CS CF .tell)) (Gh : GMe P w K mg base (L2.CX P w) 4 CM "hear" ["self", "at", "message"] (spPM K CM CS CF .hear)) :
    FnOk P w K mg base (L2.CX P w) 5 f fd ["self", "call", "n", "message"] (spReq K CM CS CF 0 6) := by
  refine F.okX sc_done (fun vs H Q E h => ?_) (fun cdv A outer s H vs Q E hr h => ?_)
  · obtain ⟨_, _, _, _, _, _, _, _, _, _, _, _, _, rfl, _⟩ := h
    rfl
  · obtain ⟨m, l, nb, mb, S, S', ft, cc, k, ns, ms, c, ans, rfl, M, hN, hM, R, _, hlt, hkl, hr2, AP⟩ := h
    obtain ⟨dx, hm⟩ := M.mu
    refine ⟨_, (pss_cons (ps_if (pt_cmpR op_eq (pv 1) pe_int (nomark _)) (pss_one (ps_ret (pe_gmeth T.cl Gs hr (pv 0) (by exact (pa_cons (pe_ix ix_list (pv 2) pe_int (fun _ _ => rfl)) (pa_cons (pe_ix ix_list (pv 2) pe_int (fun _ _ => rfl)) pa_nil))) (passes_call (takes_of rfl rfl rfl rfl) (fun _ _ _ _ h => h))))) pss_nil)
      (pss_cons (ps_if (pt_cmpR op_eq (pv 1) pe_int (nomark _)) (pss_one (ps_ret (pe_gmeth T.cl Gmi hr (pv 0) (by exact (pa_cons (pe_ix ix_list (pv 2) pe_int (fun _ _ => rfl)) (pa_cons (pe_ix ix_list (pv 2) pe_int (fun _ _ => rfl)) pa_nil))) (passes_call (takes_of rfl rfl rfl rfl) (fun _ _ _ _ h => h))))) pss_nil)
      (pss_cons (ps_if (pt_cmpR op_eq (pv 1) pe_int (nomark _)) (pss_one (ps_ret (pe_gmeth T.cl Gnd hr (pv 0) (by exact (pa_cons (pe_ix ix_list (pv 2) pe_int (fun _ _ => rfl)) pa_nil)) (passes_call (takes_of rfl rfl rfl rfl) (fun _ _ _ _ h => h))))) pss_nil)
      (pss_cons (ps_if (pt_cmpR op_eq (pv 1) pe_int (nomark _)) (pss_one (ps_ret (pe_gmeth T.cl Gci hr (pv 0) (by exact (pa_cons (pe_ix ix_list (pv 2) pe_int (fun _ _ => rfl)) (pa_cons (pe_ix ix_list (pv 2) pe_int (fun _ _ => rfl)) pa_nil))) (passes_call (takes_of rfl rfl rfl rfl) (fun _ _ _ _ h => h))))) pss_nil)
      (pss_cons (ps_if (pt_cmpR op_eq (pv 1) pe_int (nomark _)) (pss_one (ps_ret (pe_gmeth T.cl Gt hr (pv 0) (by exact (pa_cons (pe_ix ix_list (pv 2) pe_int (fun _ _ => rfl)) pa_nil)) (passes_call (takes_of rfl rfl rfl rfl) (fun _ _ _ _ h => h))))) pss_nil)
      (pss_one (ps_ret (pe_gmeth T.cl Gh hr (pv 0) (by exact (pa_cons (pe_ix ix_list (pv 2) pe_int (fun _ _ => rfl)) (pa_cons (pv 3) pa_nil))) (passes_call (takes_of rfl rfl rfl rfl) (fun _ _ _ _ h => h)))))))))), ?_⟩
    cases R with
    | start _ b =>
      refine ⟨_, rfl, rfl, _, rfl, eqT rfl ?_⟩
      have e := Option.some.inj hr2
      rw [show S' = (startOf S k b).1 from (congrArg Prod.fst e).symm, show ans = (startOf S k b).2 from (congrArg Prod.snd e).symm] at AP
      exact ⟨_, rfl, m, dx, _, rfl, hm, mu_nofld _ (by decide +kernel), _, rfl, nb, _, 0, _, rfl, rfl, hN, atI_nat (j := 0) rfl, _, rfl, nb, _, 1, _, rfl, rfl, hN, atI_nat (j := 1) rfl, m, l, S, ft, k, b, rfl, M, hkl, AP⟩
    | minutes _ b =>
      refine ⟨_, rfl, rfl, _, rfl, eqF (by decide) ?_⟩
      refine ⟨_, rfl, rfl, _, rfl, eqT rfl ?_⟩
      obtain ⟨st, hs, rfl, rfl⟩ := res_some hr2 rfl
      exact ⟨_, rfl, m, dx, _, rfl, hm, mu_nofld _ (by decide +kernel), _, rfl, nb, _, 0, _, rfl, rfl, hN, atI_nat (j := 0) rfl, _, rfl, nb, _, 1, _, rfl, rfl, hN, atI_nat (j := 1) rfl, m, l, S, ft, k, st, b, rfl, M, hs, AP⟩
    | drill _ =>
      refine ⟨_, rfl, rfl, _, rfl, eqF (by decide) ?_⟩
      refine ⟨_, rfl, rfl, _, rfl, eqF (by decide) ?_⟩
      refine ⟨_, rfl, rfl, _, rfl, eqT rfl ?_⟩
      obtain ⟨st, hs, rfl, rfl⟩ := res_some hr2 rfl
      exact ⟨_, rfl, m, dx, _, rfl, hm, mu_nofld _ (by decide +kernel), _, rfl, nb, _, 0, _, rfl, rfl, hN, atI_nat (j := 0) rfl, m, l, S, ft, k, st, rfl, M, hs, AP⟩
    | in_ _ b =>
      refine ⟨_, rfl, rfl, _, rfl, eqF (by decide) ?_⟩
      refine ⟨_, rfl, rfl, _, rfl, eqF (by decide) ?_⟩
      refine ⟨_, rfl, rfl, _, rfl, eqF (by decide) ?_⟩
      refine ⟨_, rfl, rfl, _, rfl, eqT rfl ?_⟩
      obtain ⟨st, hs, rfl, rfl⟩ := res_some hr2 rfl
      exact ⟨_, rfl, m, dx, _, rfl, hm, mu_nofld _ (by decide +kernel), _, rfl, nb, _, 0, _, rfl, rfl, hN, atI_nat (j := 0) rfl, _, rfl, nb, _, 1, _, rfl, rfl, hN, atI_nat (j := 1) rfl, m, l, S, ft, k, st, b, rfl, M, hs, AP⟩
    | tell _ =>
      refine ⟨_, rfl, rfl, _, rfl, eqF (by decide) ?_⟩
      refine ⟨_, rfl, rfl, _, rfl, eqF (by decide) ?_⟩
      refine ⟨_, rfl, rfl, _, rfl, eqF (by decide) ?_⟩
      refine ⟨_, rfl, rfl, _, rfl, eqF (by decide) ?_⟩
      refine ⟨_, rfl, rfl, _, rfl, eqT rfl ?_⟩
      obtain ⟨st, hs, rfl, rfl⟩ := res_some hr2 rfl
      obtain ⟨f0, hf, xs, O, _⟩ := M.st k st hs
      have x := M.at1 hf xs O
      exact ⟨_, rfl, m, dx, _, rfl, hm, mu_nofld _ (by decide +kernel), _, rfl, nb, _, 0, _, rfl, rfl, hN, atI_nat (j := 0) rfl, m, l, k, f0.a, f0.p, f0.h, st, rfl, x, ansQ_of M hs rfl rfl AP⟩
    | hear _ _ hl =>
      refine ⟨_, rfl, rfl, _, rfl, eqF (by decide) ?_⟩
      refine ⟨_, rfl, rfl, _, rfl, eqF (by decide) ?_⟩
      refine ⟨_, rfl, rfl, _, rfl, eqF (by decide) ?_⟩
      refine ⟨_, rfl, rfl, _, rfl, eqF (by decide) ?_⟩
      refine ⟨_, rfl, rfl, _, rfl, eqF (by decide) ?_⟩
      obtain ⟨st, hs, rfl, rfl⟩ := res_some hr2 rfl
      exact ⟨_, rfl, m, dx, _, rfl, hm, mu_nofld _ (by decide +kernel), _, rfl, nb, _, 0, _, rfl, rfl, hN, atI_nat (j := 0) rfl, _, rfl, m, l, S, ft, k, st, mb, ms, rfl, M, hs, hM, hl, AP⟩
    | where_ _ _ => exact absurd hlt (by decide)
    | count _ => exact absurd hlt (by decide)
    | missing _ => exact absurd hlt (by decide)
    | at_ _ _ => exact absurd hlt (by decide)
    | sure _ _ _ => exact absurd hlt (by decide)
    | news _ _ => exact absurd hlt (by decide)
    | soonest _ _ => exact absurd hlt (by decide)
    | new_ _ _ _ => exact absurd hlt (by decide)
    | last _ => exact absurd hlt (by decide)
    | drillNow _ => exact absurd hlt (by decide)
    | state _ => exact absurd hlt (by decide)
theorem sc_asked : FnScope ["self", "call", "n", "message"] ["self", "call", "n", "message"] (defScope sAsked) := ⟨rfl, rfl, rfl, by decide +kernel, rfl, by decide +kernel, by decide +kernel⟩
theorem ok_asked (F : Fun K "asked" "Muster.asked" sAsked f fd) (T : TMu K CM) (TS : TSt K CS)
    (Gc : GFn P w K mg base CX0 2 "counted" ["numbers"] (spCounted K)) (Gi : GMe P w K mg base CX0 1 CS "who_is_in" ["self"] (spWho CS Station.in_))
    (Gwh : GMe P w K mg base (L2.CX P w) 4 CM "where" ["self", "at", "p"] (spR1 CM CS CF .where_)) (Gms : GMe P w K mg base (L2.CX P w) 4 CM "missing" ["self", "at"] (spR0 CM CS CF .missing))
    (Gwa : GMe P w K mg base (L2.CX P w) 4 CM "who_at" ["self", "at", "k"] (spR1 CM CS CF .at_)) (Gsu : GMe P w K mg base (L2.CX P w) 4 CM "sure" ["self", "at", "n", "t"] (spR2 CM CS CF .sure))
    (Gno : GMe P w K mg base (L2.CX P w) 4 CM "news_of" ["self", "at", "k"] (spR1 CM CS CF .news)) (Gso : GMe P w K mg base (L2.CX P w) 4 CM "soonest" ["self", "at", "n"] (spR1 CM CS CF .soonest))
    (Gwo : GMe P w K mg base (L2.CX P w) 4 CM "would_hear" ["self", "at", "message"] (spRM K CM CS CF .new_)) (Gla : GMe P w K mg base (L2.CX P w) 4 CM "last" ["self", "at"] (spR0 CM CS CF .last))
    (Gwc : GMe P w K mg base (L2.CX P w) 4 CM "which" ["self", "at"] (spR0 CM CS CF .drillNow)) (Gst : GMe P w K mg base (L2.CX P w) 4 CM "state" ["self", "at"] (spR0 CM CS CF .state)) :
    FnOk P w K mg base (L2.CX P w) 5 f fd ["self", "call", "n", "message"] (spReq K CM CS CF 6 17) := by
  refine F.okX sc_asked (fun vs H Q E h => ?_) (fun cdv A outer s H vs Q E hr h => ?_)
  · obtain ⟨_, _, _, _, _, _, _, _, _, _, _, _, _, rfl, _⟩ := h
    rfl
  · obtain ⟨m, l, nb, mb, S, S', ft, cc, k, ns, ms, c, ans, rfl, M, hN, hM, R, hge, _, hkl, hr2, AP⟩ := h
    obtain ⟨dx, hm⟩ := M.mu
    refine ⟨_, (pss_cons (ps_if (pt_cmpR op_eq (pv 1) pe_int (nomark _)) (pss_one (ps_ret (pe_gmeth T.cl Gwh hr (pv 0) (by exact (pa_cons (pe_ix ix_list (pv 2) pe_int (fun _ _ => rfl)) (pa_cons (pe_ix ix_list (pv 2) pe_int (fun _ _ => rfl)) pa_nil))) (passes_call (takes_of rfl rfl rfl rfl) (fun _ _ _ _ h => h))))) pss_nil)
      (pss_cons (ps_if (pt_cmpR op_eq (pv 1) pe_int (nomark _)) (pss_one (ps_ret (pe_gcall Gc hr (by exact (pa_cons (pe_gmeth0 TS.cl Gi hr (pe_ix ix_list (pe_fld (pv 0) rfl) (pe_ix ix_list (pv 2) pe_int (fun _ _ => rfl)) (fun _ _ => rfl)) pass0) pa_nil)) pass0))) pss_nil)
      (pss_cons (ps_if (pt_cmpR op_eq (pv 1) pe_int (nomark _)) (pss_one (ps_ret (pe_gmeth T.cl Gms hr (pv 0) (by exact (pa_cons (pe_ix ix_list (pv 2) pe_int (fun _ _ => rfl)) pa_nil)) (passes_call (takes_of rfl rfl rfl rfl) (fun _ _ _ _ h => h))))) pss_nil)
      (pss_cons (ps_if (pt_cmpR op_eq (pv 1) pe_int (nomark _)) (pss_one (ps_ret (pe_gmeth T.cl Gwa hr (pv 0) (by exact (pa_cons (pe_ix ix_list (pv 2) pe_int (fun _ _ => rfl)) (pa_cons (pe_ix ix_list (pv 2) pe_int (fun _ _ => rfl)) pa_nil))) (passes_call (takes_of rfl rfl rfl rfl) (fun _ _ _ _ h => h))))) pss_nil)
      (pss_cons (ps_if (pt_cmpR op_eq (pv 1) pe_int (nomark _)) (pss_one (ps_ret (pe_gmeth T.cl Gsu hr (pv 0) (by exact (pa_cons (pe_ix ix_list (pv 2) pe_int (fun _ _ => rfl)) (pa_cons (pe_ix ix_list (pv 2) pe_int (fun _ _ => rfl)) (pa_cons (pe_ix ix_list (pv 2) pe_int (fun _ _ => rfl)) pa_nil)))) (passes_call (takes_of rfl rfl rfl rfl) (fun _ _ _ _ h => h))))) pss_nil)
      (pss_cons (ps_if (pt_cmpR op_eq (pv 1) pe_int (nomark _)) (pss_one (ps_ret (pe_gmeth T.cl Gno hr (pv 0) (by exact (pa_cons (pe_ix ix_list (pv 2) pe_int (fun _ _ => rfl)) (pa_cons (pe_ix ix_list (pv 2) pe_int (fun _ _ => rfl)) pa_nil))) (passes_call (takes_of rfl rfl rfl rfl) (fun _ _ _ _ h => h))))) pss_nil)
      (pss_cons (ps_if (pt_cmpR op_eq (pv 1) pe_int (nomark _)) (pss_one (ps_ret (pe_gmeth T.cl Gso hr (pv 0) (by exact (pa_cons (pe_ix ix_list (pv 2) pe_int (fun _ _ => rfl)) (pa_cons (pe_ix ix_list (pv 2) pe_int (fun _ _ => rfl)) pa_nil))) (passes_call (takes_of rfl rfl rfl rfl) (fun _ _ _ _ h => h))))) pss_nil)
      (pss_cons (ps_if (pt_cmpR op_eq (pv 1) pe_int (nomark _)) (pss_one (ps_ret (pe_gmeth T.cl Gwo hr (pv 0) (by exact (pa_cons (pe_ix ix_list (pv 2) pe_int (fun _ _ => rfl)) (pa_cons (pv 3) pa_nil))) (passes_call (takes_of rfl rfl rfl rfl) (fun _ _ _ _ h => h))))) pss_nil)
      (pss_cons (ps_if (pt_cmpR op_eq (pv 1) pe_int (nomark _)) (pss_one (ps_ret (pe_gmeth T.cl Gla hr (pv 0) (by exact (pa_cons (pe_ix ix_list (pv 2) pe_int (fun _ _ => rfl)) pa_nil)) (passes_call (takes_of rfl rfl rfl rfl) (fun _ _ _ _ h => h))))) pss_nil)
      (pss_one (ps_ret (pe_ifExp (pt_cmpR op_eq (pv 1) pe_int (nomark _)) (pe_gmeth T.cl Gwc hr (pv 0) (by exact (pa_cons (pe_ix ix_list (pv 2) pe_int (fun _ _ => rfl)) pa_nil)) (passes_call (takes_of rfl rfl rfl rfl) (fun _ _ _ _ h => h))) (pe_gmeth T.cl Gst hr (pv 0) (by exact (pa_cons (pe_ix ix_list (pv 2) pe_int (fun _ _ => rfl)) pa_nil)) (passes_call (takes_of rfl rfl rfl rfl) (fun _ _ _ _ h => h))))))))))))))), ?_⟩
    cases R with
    | start _ _ => exact absurd hge (by decide)
    | minutes _ _ => exact absurd hge (by decide)
    | drill _ => exact absurd hge (by decide)
    | in_ _ _ => exact absurd hge (by decide)
    | tell _ => exact absurd hge (by decide)
    | hear _ _ _ => exact absurd hge (by decide)
    | where_ _ b =>
      refine ⟨_, rfl, rfl, _, rfl, eqT rfl ?_⟩
      obtain ⟨st, hs, rfl, rfl⟩ := res_some hr2 rfl
      obtain ⟨f0, hf, xs, O, _⟩ := M.st k st hs
      have x := M.at1 hf xs O
      exact ⟨_, rfl, m, dx, _, rfl, hm, mu_nofld _ (by decide +kernel), _, rfl, nb, _, 0, _, rfl, rfl, hN, atI_nat (j := 0) rfl, _, rfl, nb, _, 1, _, rfl, rfl, hN, atI_nat (j := 1) rfl, m, l, k, f0.a, f0.p, f0.h, st, b, rfl, x, ansQ_of M hs rfl rfl AP⟩
    | count _ =>
      refine ⟨_, rfl, rfl, _, rfl, eqF (by decide) ?_⟩
      refine ⟨_, rfl, rfl, _, rfl, eqT rfl ?_⟩
      obtain ⟨st, hs, rfl, rfl⟩ := res_some hr2 rfl
      obtain ⟨f0, hf, xs, O, _⟩ := M.st k st hs
      have x := M.at1 hf xs O
      obtain ⟨dxa, ob⟩ := xs.ob
      have AQ := ansQ_of M hs rfl rfl AP
      refine ⟨_, rfl, m, CM, dx, _, _, rfl, hm, T.cl, T.stations, lk_stations l, _, rfl, nb, _, 0, _, rfl, rfl, hN, atI_nat (j := 0) rfl, l, _, (k : Int), _, rfl, rfl, SqL.of M.ls, atI_nat (show (ft.map objV)[k]? = some (.ref f0.a) by rw [List.getElem?_map, hf]; rfl), ?_⟩
      refine ⟨f0.a, dxa, _, rfl, ob, st_nofld _ _ _ (by decide +kernel), f0.a, f0.p, f0.h, st, rfl, xs, O, fun H1 D s1 nD hD => ?_⟩
      refine ⟨D, _, rfl, SqL.of hD, Nat.le_trans (in_len st) (by decide), fun n hn => Nat.le_trans (Nat.le_of_lt (in_lt hn)) (by decide), ?_⟩
      exact AQ.ans (v := ((st.in_.length : Nat) : Int)) (o := [Km441.bits st.in_]) rfl (by omega) s1
    | missing _ =>
      refine ⟨_, rfl, rfl, _, rfl, eqF (by decide) ?_⟩
      refine ⟨_, rfl, rfl, _, rfl, eqF (by decide) ?_⟩
      refine ⟨_, rfl, rfl, _, rfl, eqT rfl ?_⟩
      obtain ⟨st, hs, rfl, rfl⟩ := res_some hr2 rfl
      obtain ⟨f0, hf, xs, O, _⟩ := M.st k st hs
      have x := M.at1 hf xs O
      exact ⟨_, rfl, m, dx, _, rfl, hm, mu_nofld _ (by decide +kernel), _, rfl, nb, _, 0, _, rfl, rfl, hN, atI_nat (j := 0) rfl, m, l, k, f0.a, f0.p, f0.h, st, rfl, x, ansQ_of M hs rfl rfl AP⟩
    | at_ _ b =>
      refine ⟨_, rfl, rfl, _, rfl, eqF (by decide) ?_⟩
      refine ⟨_, rfl, rfl, _, rfl, eqF (by decide) ?_⟩
      refine ⟨_, rfl, rfl, _, rfl, eqF (by decide) ?_⟩
      refine ⟨_, rfl, rfl, _, rfl, eqT rfl ?_⟩
      obtain ⟨st, hs, rfl, rfl⟩ := res_some hr2 rfl
      obtain ⟨f0, hf, xs, O, _⟩ := M.st k st hs
      have x := M.at1 hf xs O
      exact ⟨_, rfl, m, dx, _, rfl, hm, mu_nofld _ (by decide +kernel), _, rfl, nb, _, 0, _, rfl, rfl, hN, atI_nat (j := 0) rfl, _, rfl, nb, _, 1, _, rfl, rfl, hN, atI_nat (j := 1) rfl, m, l, k, f0.a, f0.p, f0.h, st, b, rfl, x, ansQ_of M hs rfl rfl AP⟩
    | sure _ b t =>
      refine ⟨_, rfl, rfl, _, rfl, eqF (by decide) ?_⟩
      refine ⟨_, rfl, rfl, _, rfl, eqF (by decide) ?_⟩
      refine ⟨_, rfl, rfl, _, rfl, eqF (by decide) ?_⟩
      refine ⟨_, rfl, rfl, _, rfl, eqF (by decide) ?_⟩
      refine ⟨_, rfl, rfl, _, rfl, eqT rfl ?_⟩
      obtain ⟨st, hs, rfl, rfl⟩ := res_some hr2 rfl
      obtain ⟨f0, hf, xs, O, _⟩ := M.st k st hs
      have x := M.at1 hf xs O
      exact ⟨_, rfl, m, dx, _, rfl, hm, mu_nofld _ (by decide +kernel), _, rfl, nb, _, 0, _, rfl, rfl, hN, atI_nat (j := 0) rfl, _, rfl, nb, _, 1, _, rfl, rfl, hN, atI_nat (j := 1) rfl, _, rfl, nb, _, 2, _, rfl, rfl, hN, atI_nat (j := 2) rfl, m, l, k, f0.a, f0.p, f0.h, st, b, t, rfl, x, ansQ_of M hs rfl rfl AP⟩
    | news _ b =>
      refine ⟨_, rfl, rfl, _, rfl, eqF (by decide) ?_⟩
      refine ⟨_, rfl, rfl, _, rfl, eqF (by decide) ?_⟩
      refine ⟨_, rfl, rfl, _, rfl, eqF (by decide) ?_⟩
      refine ⟨_, rfl, rfl, _, rfl, eqF (by decide) ?_⟩
      refine ⟨_, rfl, rfl, _, rfl, eqF (by decide) ?_⟩
      refine ⟨_, rfl, rfl, _, rfl, eqT rfl ?_⟩
      obtain ⟨st, hs, rfl, rfl⟩ := res_some hr2 rfl
      obtain ⟨f0, hf, xs, O, _⟩ := M.st k st hs
      have x := M.at1 hf xs O
      exact ⟨_, rfl, m, dx, _, rfl, hm, mu_nofld _ (by decide +kernel), _, rfl, nb, _, 0, _, rfl, rfl, hN, atI_nat (j := 0) rfl, _, rfl, nb, _, 1, _, rfl, rfl, hN, atI_nat (j := 1) rfl, m, l, k, f0.a, f0.p, f0.h, st, b, rfl, x, ansQ_of M hs rfl rfl AP⟩
    | soonest _ b =>
      refine ⟨_, rfl, rfl, _, rfl, eqF (by decide) ?_⟩
      refine ⟨_, rfl, rfl, _, rfl, eqF (by decide) ?_⟩
      refine ⟨_, rfl, rfl, _, rfl, eqF (by decide) ?_⟩
      refine ⟨_, rfl, rfl, _, rfl, eqF (by decide) ?_⟩
      refine ⟨_, rfl, rfl, _, rfl, eqF (by decide) ?_⟩
      refine ⟨_, rfl, rfl, _, rfl, eqF (by decide) ?_⟩
      refine ⟨_, rfl, rfl, _, rfl, eqT rfl ?_⟩
      obtain ⟨st, hs, rfl, rfl⟩ := res_some hr2 rfl
      obtain ⟨f0, hf, xs, O, _⟩ := M.st k st hs
      have x := M.at1 hf xs O
      exact ⟨_, rfl, m, dx, _, rfl, hm, mu_nofld _ (by decide +kernel), _, rfl, nb, _, 0, _, rfl, rfl, hN, atI_nat (j := 0) rfl, _, rfl, nb, _, 1, _, rfl, rfl, hN, atI_nat (j := 1) rfl, m, l, k, f0.a, f0.p, f0.h, st, b, rfl, x, ansQ_of M hs rfl rfl AP⟩
    | new_ _ _ hl =>
      refine ⟨_, rfl, rfl, _, rfl, eqF (by decide) ?_⟩
      refine ⟨_, rfl, rfl, _, rfl, eqF (by decide) ?_⟩
      refine ⟨_, rfl, rfl, _, rfl, eqF (by decide) ?_⟩
      refine ⟨_, rfl, rfl, _, rfl, eqF (by decide) ?_⟩
      refine ⟨_, rfl, rfl, _, rfl, eqF (by decide) ?_⟩
      refine ⟨_, rfl, rfl, _, rfl, eqF (by decide) ?_⟩
      refine ⟨_, rfl, rfl, _, rfl, eqF (by decide) ?_⟩
      refine ⟨_, rfl, rfl, _, rfl, eqT rfl ?_⟩
      obtain ⟨st, hs, rfl, rfl⟩ := res_some hr2 rfl
      obtain ⟨f0, hf, xs, O, _⟩ := M.st k st hs
      have x := M.at1 hf xs O
      exact ⟨_, rfl, m, dx, _, rfl, hm, mu_nofld _ (by decide +kernel), _, rfl, nb, _, 0, _, rfl, rfl, hN, atI_nat (j := 0) rfl, _, rfl, m, l, k, f0.a, f0.p, f0.h, mb, st, ms, rfl, x, hM, hl, ansQ_of M hs rfl rfl AP⟩
    | last _ =>
      refine ⟨_, rfl, rfl, _, rfl, eqF (by decide) ?_⟩
      refine ⟨_, rfl, rfl, _, rfl, eqF (by decide) ?_⟩
      refine ⟨_, rfl, rfl, _, rfl, eqF (by decide) ?_⟩
      refine ⟨_, rfl, rfl, _, rfl, eqF (by decide) ?_⟩
      refine ⟨_, rfl, rfl, _, rfl, eqF (by decide) ?_⟩
      refine ⟨_, rfl, rfl, _, rfl, eqF (by decide) ?_⟩
      refine ⟨_, rfl, rfl, _, rfl, eqF (by decide) ?_⟩
      refine ⟨_, rfl, rfl, _, rfl, eqF (by decide) ?_⟩
      refine ⟨_, rfl, rfl, _, rfl, eqT rfl ?_⟩
      obtain ⟨st, hs, rfl, rfl⟩ := res_some hr2 rfl
      obtain ⟨f0, hf, xs, O, _⟩ := M.st k st hs
      have x := M.at1 hf xs O
      exact ⟨_, rfl, m, dx, _, rfl, hm, mu_nofld _ (by decide +kernel), _, rfl, nb, _, 0, _, rfl, rfl, hN, atI_nat (j := 0) rfl, m, l, k, f0.a, f0.p, f0.h, st, rfl, x, ansQ_of M hs rfl rfl AP⟩
    | drillNow _ =>
      refine ⟨_, rfl, rfl, _, rfl, eqF (by decide) ?_⟩
      refine ⟨_, rfl, rfl, _, rfl, eqF (by decide) ?_⟩
      refine ⟨_, rfl, rfl, _, rfl, eqF (by decide) ?_⟩
      refine ⟨_, rfl, rfl, _, rfl, eqF (by decide) ?_⟩
      refine ⟨_, rfl, rfl, _, rfl, eqF (by decide) ?_⟩
      refine ⟨_, rfl, rfl, _, rfl, eqF (by decide) ?_⟩
      refine ⟨_, rfl, rfl, _, rfl, eqF (by decide) ?_⟩
      refine ⟨_, rfl, rfl, _, rfl, eqF (by decide) ?_⟩
      refine ⟨_, rfl, rfl, _, rfl, eqF (by decide) ?_⟩
      refine ⟨_, rfl, rfl, _, rfl, eqT rfl ?_⟩
      obtain ⟨st, hs, rfl, rfl⟩ := res_some hr2 rfl
      obtain ⟨f0, hf, xs, O, _⟩ := M.st k st hs
      have x := M.at1 hf xs O
      exact ⟨_, rfl, m, dx, _, rfl, hm, mu_nofld _ (by decide +kernel), _, rfl, nb, _, 0, _, rfl, rfl, hN, atI_nat (j := 0) rfl, m, l, k, f0.a, f0.p, f0.h, st, rfl, x, ansQ_of M hs rfl rfl AP⟩
    | state _ =>
      refine ⟨_, rfl, rfl, _, rfl, eqF (by decide) ?_⟩
      refine ⟨_, rfl, rfl, _, rfl, eqF (by decide) ?_⟩
      refine ⟨_, rfl, rfl, _, rfl, eqF (by decide) ?_⟩
      refine ⟨_, rfl, rfl, _, rfl, eqF (by decide) ?_⟩
      refine ⟨_, rfl, rfl, _, rfl, eqF (by decide) ?_⟩
      refine ⟨_, rfl, rfl, _, rfl, eqF (by decide) ?_⟩
      refine ⟨_, rfl, rfl, _, rfl, eqF (by decide) ?_⟩
      refine ⟨_, rfl, rfl, _, rfl, eqF (by decide) ?_⟩
      refine ⟨_, rfl, rfl, _, rfl, eqF (by decide) ?_⟩
      refine ⟨_, rfl, rfl, _, rfl, eqF (by decide) ?_⟩
      obtain ⟨st, hs, rfl, rfl⟩ := res_some hr2 rfl
      obtain ⟨f0, hf, xs, O, _⟩ := M.st k st hs
      have x := M.at1 hf xs O
      exact ⟨_, rfl, m, dx, _, rfl, hm, mu_nofld _ (by decide +kernel), _, rfl, nb, _, 0, _, rfl, rfl, hN, atI_nat (j := 0) rfl, m, l, k, f0.a, f0.p, f0.h, st, rfl, x, ansQ_of M hs rfl rfl AP⟩
end
end Sm
namespace Sm
open PySem PySem.Spec PyProof.Rows L2
open Km441 (Station merge act only station0)
/-! ### a method's call within a try (as the skeleton 30_by_hand has it) -/
def tMethS (C : Addr) (m : Str) (sp : Sp) (E : L2.St → XK) (ta : TE) (t : TA) : TE := fun σ H Q => ta σ H fun x H1 => ∃ a dx fs, x = .ref a ∧ H1 a = some (.ins C dx fs) ∧ fs.lookup m = none ∧ t σ H1 fun vs H2 => sp (x :: vs) H2 Q (E σ)
theorem pe_methS {X : Cx} {CX : CXT} {k : Nat} {f C : Addr} {fd : FuncData} {ps : List Str} {sp : Sp} {E : L2.St → XK} {m : Str} {pos apos : Pos} {e o : Expr} {es : List Expr} {ta : TE} {t : TA} {pl : Sem Bool} (he : PE X o ta) (c : Cls X.K C) (hm : Meth X.K C m f)
    (F : FnOk X.prog X.w X.K X.mg X.base CX k f fd ps sp) (hr : Room k X.A) (hb : Binds X.K fd ps []) (hx : ∀ σ, PassesAt CX X σ (E σ)) (ha : PA X (e :: es) t)
    (hst : starEach (e :: es) X.env = (false, eval e X.env) :: starEach es X.env := by rfl) (hpl : (backTo pos (starEach es X.env)).any (·.1) = false := by rfl)
    (ht : eval (.Call (.Attribute o m apos) (e :: es) [] pos) X.env = (do
      let ov ← eval o X.env
      standAt apos.atName
      let (f, first) ← holding [ov] (getMethod ov m pl)
      callWith pos f first (backTo pos (starEach (e :: es) X.env)) (backToKw pos (keywordEach [] X.env))) := by rfl) :
    PE X (.Call (.Attribute o m apos) (e :: es) [] pos) (tMethS C m sp E ta t) := by
  refine ⟨fun pins s σ H Q I h => ?_⟩
  refine PySem.W.methodCall_KW (pl := pl) (thn (he.run pins s σ H _ I h) fun u s1 ⟨x, H1, I1, rx, a, dx, fs, ex, ea, l, q⟩ => ?_) ht
  subst ex
  obtain rfl : u = Value.ref a := rx
  refine getmeth_ok I1 ea c hm l ?_
  refine PySem.W.callWith_K (first := [.ref a]) (h₀ := X.base) I.ok.mod.kin hm.kp (thn (ha.run pos pins s1 σ H1 _ I1 q) fun us s2 ⟨vs, H2, I2, r, q2⟩ => ⟨I2.kIn, ?_⟩) hst hpl
  exact run_fnS (us := .ref a :: us) (vs := .ref a :: vs) F hr hb (hx σ) I2 (.cons rfl r) q2
section
variable {P : Program} {w : World} {K : PySem.W.Frag} {mg : Str → Option Value} {base : Heap} {f CS CM CF : Addr} {fd : FuncData}
theorem sc_answer : FnScope ["self", "call", "n", "message", "told", "e"] ["self", "call", "n", "message"] (defScope sAnswer) := ⟨rfl, rfl, rfl, by decide +kernel, rfl, by decide +kernel, by decide +kernel⟩
def spAnswer (K : PySem.W.Frag) (CM CS : Addr) : Sp := fun vs H Q _ => ∃ (m l nb mb : Addr) (S S' : List (Option Station)) (ft : List (Option Ft)) (cc k : Nat) (ns ms : List Nat) (c : Km441.Call) (ans : Km441.Ans), vs = [.ref m, .int (cc : Int), .ref nb, .ref mb] ∧ MuAt CM CS H m l S ft ∧
  SqL K H nb (nI ns) ∧ SqL K H mb (nI ms) ∧ Req cc ns ms k c ∧ k < S.length ∧ res S k c = some (S', ans) ∧
  ∀ H' D, Post CM CS m l S' ft H H' → H D = none → H' D = some (.lst (.int ans.value :: nI ans.out)) → Q (.ref D) H'
theorem spReq_mono {lo hi : Nat} {vs : List V} {H : Hp} {Q Q' : VK} {E E' : XK} (hQ : ∀ x H1, Q x H1 → Q' x H1) (hE : ∀ c d H1, E c d H1 → E' c d H1) (h : spReq K CM CS CF lo hi vs H Q E) : spReq K CM CS CF lo hi vs H Q' E' := by
  obtain ⟨m, l, nb, mb, S, S', ft, cc, k, ns, ms, c, ans, e, M, hN, hM, R, h1, h2, hkl, hr2, AP⟩ := h
  exact ⟨m, l, nb, mb, S, S', ft, cc, k, ns, ms, c, ans, e, M, hN, hM, R, h1, h2, hkl, hr2, fun hv H' D po nD hD => hQ _ _ (AP.good hv H' D po nD hD), fun hv H' d s nd hd => hE _ _ _ (AP.bad hv H' d s nd hd)⟩
theorem Req.lt {cc k : Nat} {ns ms : List Nat} {c : Km441.Call} (R : Req cc ns ms k c) : cc < 17 := by
  cases R <;> decide
theorem ok_answer (F : Fun K "answer" "Muster.answer" sAnswer f fd) (T : TMu K CM) (TR : TRef K mg CF)
    (Gd : GMe P w K mg base (L2.CX P w) 5 CM "done" ["self", "call", "n", "message"] (spReq K CM CS CF 0 6)) (Ga : GMe P w K mg base (L2.CX P w) 5 CM "asked" ["self", "call", "n", "message"] (spReq K CM CS CF 6 17)) :
    FnOk P w K mg base CX0 6 f fd ["self", "call", "n", "message"] (spAnswer K CM CS) := by
  refine F.ok sc_answer (fun vs H Q E h => ?_) (fun cdv A outer s H vs Q E hr h => ?_)
  · obtain ⟨_, _, _, _, _, _, _, _, _, _, _, _, _, rfl, _⟩ := h
    rfl
  · obtain ⟨m, l, nb, mb, S, S', ft, cc, k, ns, ms, c, ans, rfl, M, hN, hM, R, hkl, hr2, q⟩ := h
    obtain ⟨fD, fdD, FD, mD, bD⟩ := Gd
    obtain ⟨fA, fdA, FA, mA, bA⟩ := Ga
    refine ⟨_, pss_cons (ps_set (i := 4) sc_answer.nd rfl (.inl rfl) (pe_lst pa_nil))
      (pss_cons (ps_try_as (i := 5) (tb := fun W => tAsg (tIf (tTest (tOp (rI0 fun i j => .bl (decide (i < j))) (tVar 1) (tC (.int 6)))) (tMethS CM "done" (spReq K CM CS CF 0 6) (WE W) (tVar 0) (tCons (tVar 1) (tCons (tVar 2) (tCons (tVar 3) tNil))))
            (tMethS CM "asked" (spReq K CM CS CF 6 17) (WE W) (tVar 0) (tCons (tVar 1) (tCons (tVar 2) (tCons (tVar 3) tNil))))) (gName 4))
          (ts := fun a cls d => tAsg (tLst (tCons (tXf a cls d CF "code" (tVar 5)) tNil)) (gName 4)) (Wout := fun _ _ _ _ => False) rfl rfl sc_answer.nd rfl rfl ⟨rfl, by decide, Or.inl TR.gF⟩ takes0
          (fun W pn xe tk _ => pss_one (ps_set (i := 4) sc_answer.nd rfl (.inl rfl) (by exact (pe_ifExp (pt_cmpR op_lt (pv 1) pe_int (nomark _)) (pe_methS (pv 0) T.cl mD FD hr bD (fun σ => passAt tk σ) (by exact (pa_cons (pv 1) (pa_cons (pv 2) (pa_cons (pv 3) pa_nil)))))
            (pe_methS (pv 0) T.cl mA FA hr bA (fun σ => passAt tk σ) (by exact (pa_cons (pv 1) (pa_cons (pv 2) (pa_cons (pv 3) pa_nil)))))))))
          (fun a oe cls d pn hz hf => pss_one (ps_set (i := 4) sc_answer.nd rfl (.inl rfl) (by exact (pe_lst (pa_cons (pe_xf TR.xf TR.code hz hf (pv 5)) pa_nil))))))
      (pss_one (ps_ret (pv 4)))), ?_⟩
    refine ⟨(by decide), fun t0 nt => ?_⟩
    refine gen_new _ _ _ nt fun H0 s0 _ => ?_
    have M0 := M.same s0
    obtain ⟨dx, hm⟩ := M0.mu
    -- behind either call, in the try
    have fin : ∀ (lo hi : Nat), lo ≤ cc → cc < hi → spReq K CM CS CF lo hi [.ref m, .int (cc : Int), .ref nb, .ref mb] H0
        (fun x H1 => Q x H1) (fun cls d H1 => ∃ b, PySem.W.exmOne K cls (.ref CF) = some b ∧ (b = true → ∀ a, H1 a = none → cls = .ref CF ∧ ∃ (dd : Addr) (fs : List (Str × V)) (v : V), d = some dd ∧ H1 dd = some (.xd fs) ∧ fs.lookup ("code" : Str) = some v ∧
          ∀ p, H1 p = none → Q (.ref p) (upd H1 p (.lst [v]))) ∧ (b = false → False)) := by
      intro lo hi h1 h2
      refine ⟨m, l, nb, mb, S, S', ft, cc, k, ns, ms, c, ans, rfl, M0, s0.seq hN, s0.seq hM, R, h1, h2, hkl, hr2, fun hv H' D po nD hD => ?_, fun hv H' d s' nd hd => ?_⟩
      · exact q H' D (po.pre s0) (s0.free nD) hD
      · obtain ⟨e1, e2⟩ := res_bad hr2 hv
        refine ⟨true, TR.te, fun _ a _ => ⟨rfl, d, _, .int ans.value, rfl, hd, (by kernel_rfl), fun p np => ?_⟩, fun z => Bool.noConfusion z⟩
        have s1 := s0.trans s'
        refine q _ p ?_ (s1.free np) (upd_same.trans (by rw [e2]; rfl))
        rw [e1]
        exact Post.of M (snew s1 np)
    refine ⟨_, rfl, _, _, rfl, rfl, _, rfl, ite2 (fun e => ?_) (fun e => ?_)⟩
    · have hlt : cc < 6 := by
        have := of_decide_eq_true e
        omega
      refine ⟨_, rfl, m, dx, _, rfl, hm, mu_nofld _ (by decide +kernel), _, rfl, _, rfl, _, rfl, ?_⟩
      refine spReq_mono (fun x H1 qx => ?_) (fun cls d H1 h => ?_) (fin 0 6 (Nat.zero_le _) hlt)
      · exact ⟨_, rfl, qx⟩
      · obtain ⟨b, hb, h1, h2⟩ := h
        refine ⟨b, hb, fun eb a na => ?_, h2⟩
        obtain ⟨rfl, dd, fs, v, rfl, hd, hv, k2⟩ := h1 eb a na
        exact ⟨_, rfl, rfl, rfl, dd, fs, v, rfl, hd, hv, le_line (by show 1 ≤ 1000; decide), fun p np => ⟨_, rfl, k2 p np⟩⟩
    · have hlt : ¬ cc < 6 := fun z => e (decide_eq_true (by omega))
      refine ⟨_, rfl, m, dx, _, rfl, hm, mu_nofld _ (by decide +kernel), _, rfl, _, rfl, _, rfl, ?_⟩
      refine spReq_mono (fun x H1 qx => ?_) (fun cls d H1 h => ?_) (fin 6 17 (by omega) R.lt)
      · exact ⟨_, rfl, qx⟩
      · obtain ⟨b, hb, h1, h2⟩ := h
        refine ⟨b, hb, fun eb a na => ?_, h2⟩
        obtain ⟨rfl, dd, fs, v, rfl, hd, hv, k2⟩ := h1 eb a na
        exact ⟨_, rfl, rfl, rfl, dd, fs, v, rfl, hd, hv, le_line (by show 1 ≤ 1000; decide), fun p np => ⟨_, rfl, k2 p np⟩⟩
end
end Sm
namespace Sm
open PySem PySem.Spec PyProof.Rows L2
open Km441 (Station merge act only station0)
/-! ### the calls as one list -/
def cI (l : List Nat) : List Int := l.map fun (n : Nat) => (n : Int)
theorem cI_len (l : List Nat) : (cI l).length = l.length := List.length_map ..
theorem nI_cI (l : List Nat) : nI l = (cI l).map V.int := nI_ints l
def encR (cc : Nat) (ns ms : List Nat) : List Int := (cc : Int) :: (cI ns ++ if cc = 5 ∨ cc = 13 then 22 :: cI ms else [])
/-- from the stations S the calls l are answered by out -/
inductive Run : List (Option Station) → List Int → List Int → Prop
  | nil (S : List (Option Station)) : Run S [] []
  | cons {S S' : List (Option Station)} {cc k : Nat} {ns ms : List Nat} {c : Km441.Call} {ans : Km441.Ans} {t out : List Int} : Req cc ns ms k c → k < S.length → res S k c = some (S', ans) → Run S' t out →
      Run S (encR cc ns ms ++ t) (((1 + ans.out.length : Nat) : Int) :: ans.value :: (cI ans.out ++ out))
theorem run_inv {S : List (Option Station)} {l out : List Int} (h : Run S l out) (hl : l ≠ []) : ∃ (S' : List (Option Station)) (cc k : Nat) (ns ms : List Nat) (c : Km441.Call) (ans : Km441.Ans) (t o : List Int), Req cc ns ms k c ∧ k < S.length ∧ res S k c = some (S', ans) ∧ Run S' t o ∧
    l = encR cc ns ms ++ t ∧ out = ((1 + ans.out.length : Nat) : Int) :: ans.value :: (cI ans.out ++ o) := by
  cases h with
  | nil => exact absurd rfl hl
  | cons R hk hr h2 => exact ⟨_, _, _, _, _, _, _, _, _, R, hk, hr, h2, rfl, rfl⟩
theorem run_nil {S : List (Option Station)} {out : List Int} (h : Run S [] out) : out = [] := by
  generalize e : ([] : List Int) = l at h
  cases h with
  | nil => rfl
  | cons R hk hr h2 => cases e
def NUMS : List Nat := [2, 2, 1, 2, 1, 1, 2, 1, 1, 2, 3, 2, 2, 1, 1, 1, 1]
theorem Req.nums {cc k : Nat} {ns ms : List Nat} {c : Km441.Call} (R : Req cc ns ms k c) : NUMS[cc]? = some ns.length := by
  cases R <;> rfl
theorem Req.msg {cc k : Nat} {ns ms : List Nat} {c : Km441.Call} (R : Req cc ns ms k c) : (cc = 5 ∨ cc = 13) ∧ ms.length = 22 ∨ ¬ (cc = 5 ∨ cc = 13) ∧ ms = [] := by
  cases R with
  | hear k m h => exact .inl ⟨.inl rfl, h⟩
  | new_ k m h => exact .inl ⟨.inr rfl, h⟩
  | _ => exact .inr ⟨by decide, rfl⟩
theorem drop_more {α : Type} {L a b : List α} {n : Nat} (h : L.drop n = a ++ b) : L.drop (n + a.length) = b := by
  rw [← List.drop_drop, h, List.drop_left]
theorem drop_take {α : Type} {L a b : List α} {n : Nat} (h : L.drop n = a ++ b) : (L.drop n).take a.length = a := by
  rw [h, List.take_left]
theorem drop_len {α : Type} {L a b : List α} {n : Nat} (hn : n ≤ L.length) (h : L.drop n = a ++ b) : n + a.length ≤ L.length := by
  have := congrArg List.length h
  rw [List.length_drop, List.length_append] at this
  omega
theorem drop_at {α : Type} {L b : List α} {x : α} {n : Nat} (h : L.drop n = x :: b) : L[n]? = some x := by
  have := congrArg (fun l => l[0]?) h
  simp only [List.getElem?_drop] at this
  simpa using this
/-- one call read off the list -/
structure Parse (L : List Int) (i cc : Nat) (ns ms : List Nat) (t : List Int) : Prop where
  at0 : L[i]? = some (cc : Int)
  num : (L.drop (i + 1)).take ns.length = cI ns
  len : i + 1 + ns.length ≤ L.length
  yes : (cc = 5 ∨ cc = 13) → ms.length = 22 → L[i + 1 + ns.length]? = some 22 ∧ (L.drop (i + 1 + ns.length + 1)).take 22 = cI ms ∧ i + 1 + ns.length + 1 + 22 ≤ L.length ∧ L.drop (i + 1 + ns.length + 1 + 22) = t
  no : ¬ (cc = 5 ∨ cc = 13) → L.drop (i + 1 + ns.length) = t
theorem parse {L t : List Int} {i cc : Nat} {ns ms : List Nat} (hi : i ≤ L.length) (h : L.drop i = encR cc ns ms ++ t) : Parse L i cc ns ms t := by
  unfold encR at h
  have h1 : L.drop i = [(cc : Int)] ++ (cI ns ++ ((if cc = 5 ∨ cc = 13 then 22 :: cI ms else []) ++ t)) := by
    rw [h]
    simp
  have l1 := drop_len hi h1
  have h2 := drop_more h1
  have l2 := drop_len l1 h2
  have h3 := drop_more h2
  rw [List.length_singleton] at h2 l1 l2 h3
  rw [cI_len] at l2 h3
  refine ⟨drop_at h1, by rw [← cI_len]; exact drop_take h2, l2, fun hc hm => ?_, fun hc => ?_⟩
  · rw [if_pos hc] at h3
    have h4 : L.drop (i + 1 + ns.length) = [22] ++ (cI ms ++ t) := by
      rw [h3]
      simp
    have l3 := drop_len l2 h4
    have h5 := drop_more h4
    have l4 := drop_len l3 h5
    have h6 := drop_more h5
    rw [List.length_singleton] at h5 l3 l4 h6
    rw [cI_len, hm] at l4 h6
    exact ⟨drop_at h4, by have := drop_take h5; rw [cI_len, hm] at this; exact this, l4, h6⟩
  · rw [if_neg hc] at h3
    exact h3
theorem startOf_len (S : List (Option Station)) (k me : Nat) : (startOf S k me).1.length = S.length := by
  unfold startOf
  split
  · rfl
  · exact List.length_set ..
section
variable {P : Program} {w : World} {K : PySem.W.Frag} {mg : Str → Option Value} {base : Heap} {f CS CM CF : Addr} {fd : FuncData}
theorem MuAt.keep {H H' : Hp} {m l : Addr} {S : List (Option Station)} {ft : List (Option Ft)} (M : MuAt CM CS H m l S ft) (e : ∀ b o, Foot m l ft b → H b = some o → H' b = some o) : MuAt CM CS H' m l S ft := by
  refine ⟨let ⟨dx, q⟩ := M.mu; ⟨dx, e _ _ (.inl rfl) q⟩, e _ _ (.inr (.inl rfl)) M.ls, M.fl, M.no, fun k s h => ?_, M.dj⟩
  obtain ⟨g, h1, h2, h3⟩ := M.st k s h
  obtain ⟨dx, q⟩ := h2.ob
  exact ⟨g, h1, ⟨⟨dx, e _ _ (.inr (.inr ⟨k, g, h1, .inl rfl⟩)) q⟩, e _ _ (.inr (.inr ⟨k, g, h1, .inr (.inl rfl)⟩)) h2.ps, e _ _ (.inr (.inr ⟨k, g, h1, .inr (.inr rfl)⟩)) h2.hs⟩, h3⟩
/-- the two written rows of numbers -/
structure TTup (K : PySem.W.Frag) (mg : Str → Option Value) (tN tW : Addr) : Prop where
  gN : mg "NUMBERS" = some (.ref tN)
  sN : ∀ H, SqT K H tN (nI NUMS)
  gW : mg "WITH_MESSAGE" = some (.ref tW)
  sW : ∀ H, SqT K H tW (nI [5, 13])
abbrev sAnswers : Stmt := top 38
theorem sc_answers : FnScope ["calls", "muster", "found", "at", "call", "begin", "n", "message", "told"] ["calls"] (defScope sAnswers) := ⟨rfl, rfl, rfl, by decide +kernel, rfl, by decide +kernel, by decide +kernel⟩
def spAnswers (K : PySem.W.Frag) : Sp := fun vs H Q _ => ∃ (a : Addr) (L out : List Int), vs = [.ref a] ∧ SqL K H a (L.map V.int) ∧ Run [none, none, none] L out ∧ out.length ≤ 10000000 ∧ L.length ≤ 25000 ∧ ∀ H' p, H' p = some (.lst (out.map V.int)) → Q (.ref p) H'
/-- what holds between two turns -/
def LoopW (CM CS m l a fn : Addr) (H0 : Hp) (L out : List Int) (mm : Nat) (σ : L2.St) (H : Hp) : Prop :=
  ∃ (i : Nat) (S : List (Option Station)) (ft : List (Option Ft)) (rest dn : List Int) (v4 v5 v6 v7 v8 : Option V), σ = [some (.ref a), some (.ref m), some (.ref fn), some (.int (i : Int)), v4, v5, v6, v7, v8] ∧ mm = L.length - i ∧ i ≤ L.length ∧ MuAt CM CS H m l S ft ∧ Run S (L.drop i) rest ∧ dn ++ rest = out ∧
    H fn = some (.lst (dn.map V.int)) ∧ ¬ Foot m l ft fn ∧ ∀ o, H0 a = some o → H a = some o ∧ ¬ Foot m l ft a ∧ a ≠ fn
theorem seq_keep {H H' : Hp} {a : Addr} {xs : List V} (e : ∀ o, H a = some o → H' a = some o) (h : SqL K H a xs) : SqL K H' a xs := by
  rcases h with (h | ⟨o, h⟩) | h
  · exact .inl (.inl (e _ h))
  · exact .inl (.inr ⟨o, e _ h⟩)
  · exact .inr h
theorem ok_answers {tN tW : Addr} (F : Fun K "answers" "answers" sAnswers f fd) (T : TMu K CM) (TT : TTup K mg tN tW) (ml : mg "len" = none)
    (Gm : GMk P w K mg base 1 CM "Muster" ["self"] (spMuInit CM CS)) (Ga : GMe P w K mg base CX0 6 CM "answer" ["self", "call", "n", "message"] (spAnswer K CM CS)) : FnOk P w K mg base CX0 7 f fd ["calls"] (spAnswers K) := by
  refine F.ok sc_answers (fun vs H Q E h => ?_) (fun cdv A outer s H vs Q E hr h => ?_)
  · obtain ⟨_, _, _, rfl, _⟩ := h
    rfl
  · obtain ⟨a, L, out, rfl, hA, hR, hO, hL, q⟩ := h
    refine ⟨_, (pss_cons (ps_set (i := 1) sc_answers.nd rfl (.inl rfl) (pe_gmake0 Gm hr))
        (pss_cons (ps_set (i := 2) sc_answers.nd rfl (.inl rfl) (pe_lst pa_nil))
        (pss_cons (ps_set (i := 3) sc_answers.nd rfl (.inl rfl) pe_int)
        (pss_cons (ps_while PassesOwn.never (pt_cmpR op_lt (pv 3) (pe_callB call_len_seq (by rfl) ml PySem.boot_len (pa_cons (pv 0) pa_nil)) (nomark _))
        (pss_cons (ps_set (i := 4) sc_answers.nd rfl (.inl rfl) (pe_ix ix_list (pv 0) (pv 3) (fun _ _ => rfl)))
        (pss_cons (ps_set (i := 5) sc_answers.nd rfl (.inl rfl) (pe_op op_add (pv 3) pe_int))
        (pss_cons (ps_set (i := 3) sc_answers.nd rfl (.inl rfl) (pe_op op_add (pv 5) (pe_ix ix_tup (pe_glob (v := .ref tN) (by rfl) TT.gN rfl) (pv 4) (fun _ _ => rfl))))
        (pss_cons (ps_set (i := 6) sc_answers.nd rfl (.inl rfl) (pe_slice sl_list (pv 0) (po_some (pv 5)) (po_some (pv 3))))
        (pss_cons (ps_set (i := 7) sc_answers.nd rfl (.inl rfl) (pe_lst pa_nil))
        (pss_cons (ps_if (pt_cmpR op_in_seq (pv 4) (pe_glob (v := .ref tW) (by rfl) TT.gW rfl) (by rfl))
          (pss_cons (ps_set (i := 7) sc_answers.nd rfl (.inl rfl) (pe_slice sl_list (pv 0) (po_some (pe_op op_add (pv 3) pe_int)) (po_some (pe_op op_add (pe_op op_add (pv 3) pe_int) (pe_ix ix_list (pv 0) (pv 3) (fun _ _ => rfl))))))
        (pss_one (ps_set (i := 3) sc_answers.nd rfl (.inl rfl) (pe_op op_add (pe_op op_add (pv 3) pe_int) (pe_callB call_len_seq (by rfl) ml PySem.boot_len (pa_cons (pv 7) pa_nil)))))) pss_nil)
        (pss_cons (ps_set (i := 8) sc_answers.nd rfl (.inl rfl) (pe_gmeth T.cl Ga hr (pv 1) (pa_cons (pv 4) (pa_cons (pv 6) (pa_cons (pv 7) pa_nil))) pass0))
        (pss_cons (ps_expr (pe_bm PySem.F.plainAttrs_list PySem.F.slot_list_append PySem.F.type_list_append mt_append (pv 2) (pa_cons (pe_callB call_len_seq (by rfl) ml PySem.boot_len (pa_cons (pv 8) pa_nil)) pa_nil)))
        (pss_one (ps_expr (pe_bm PySem.F.plainAttrs_list PySem.F.slot_list_extend PySem.F.type_list_extend mt_extend (pv 2) (pa_cons (pv 8) pa_nil)))))))))))))
        (pss_one (ps_ret (pv 2))))))), ?_⟩
    -- muster = Muster(); found = []; at = 0
    intro m dx nm nd ne
    refine ⟨m, dx, rfl, upd_same, fun H1 l M b1 nl => ⟨rfl, ?_⟩⟩
    refine ⟨(by decide), fun fn nf => ?_⟩
    refine gen_new _ _ _ nf fun H2 s2 hf => ?_
    have fm : fn ≠ m := by
      obtain ⟨dxm, hm⟩ := M.mu
      exact (ne_of_none hm nf).symm
    have fl : fn ≠ l := (ne_of_none M.ls nf).symm
    have kA0 : ∀ o, H a = some o → H2 a = some o ∧ ¬ Foot m l [none, none, none] a ∧ a ≠ fn := fun o e => by
      have am : a ≠ m := ne_of_none e nm
      have ad : a ≠ dx := ne_of_none e nd
      have e1 : (upd (upd H dx (.own m)) m (.ins CM dx [])) a = some o := by
        rw [upd_ne am, upd_ne ad]
        exact e
      have e2 := b1 _ _ e1 am
      refine ⟨s2 _ _ e2, fun z => ?_, ne_of_none e2 nf⟩
      rcases z with z | z | ⟨j, g, hg, _⟩
      · exact am z
      · rw [z, nl] at e1
        cases e1
      · exact nones_no hg
    refine ⟨LoopW CM CS m l a fn H L out, ⟨_, 0, [none, none, none], [none, none, none], out, [], none, none, none, none, none, rfl, rfl, Nat.zero_le _, M.same s2, hR, rfl, hf, fun z => ?_, kA0⟩, fun mm σ Hc hW => ?_⟩
    · rcases z with z | z | ⟨j, g, hg, _⟩
      · exact fm z
      · exact fl z
      · exact nones_no hg
    obtain ⟨i, S, ft, rest, dn, v4, v5, v6, v7, v8, rfl, rfl, hi, M2, R, hO2, hf2, nff, kA⟩ := hW
    have hA2 : SqL K Hc a (L.map V.int) := seq_keep (fun o e => (kA o e).1) hA
    refine ⟨_, rfl, _, rfl, a, _, rfl, .inl hA2, _, _, rfl, rfl, _, rfl, ?_⟩
    rw [List.length_map]
    by_cases hlt : i < L.length
    · rw [decide_eq_true (show (i : Int) < ((L.length : Nat) : Int) by omega)]
      refine iteT ⟨fun σ' H' => ∃ m', m' < L.length - i ∧ LoopW CM CS m l a fn H L out m' σ' H', fun σ' H' h => h, ?_⟩
      have ned : L.drop i ≠ [] := fun z => by
        have := congrArg List.length z
        rw [List.length_drop] at this
        simp at this
        omega
      obtain ⟨S', cc, k, ns, ms, c, ans, t, o, Rq, hk, hr2, R2, eL, eO⟩ := run_inv R ned
      have Pz := parse hi eL
      -- call = calls[at]; begin = at + 1; at = begin + NUMBERS[call]
      refine ⟨_, rfl, _, rfl, a, _, (i : Int), _, rfl, rfl, hA2, atI_nat (show (L.map V.int)[i]? = some (.int (cc : Int)) by rw [List.getElem?_map, Pz.at0]; rfl), ?_⟩
      refine ⟨_, rfl, _, _, rfl, rfl, ?_⟩
      refine ⟨_, rfl, _, rfl, tN, _, (cc : Int), _, rfl, rfl, TT.sN _, atI_nat (nI_at Rq.nums), _, _, rfl, rfl, ?_⟩
      -- n = calls[begin:at]
      refine ⟨_, rfl, _, rfl, _, rfl, _, rfl, _, rfl, a, _, rfl, hA2, fun nb nnb => ?_⟩
      have eN : cutV (L.map V.int) (some ((i : Int) + 1)) (some ((i : Int) + 1 + ((ns.length : Nat) : Int))) = nI ns := by
        rw [show (i : Int) + 1 + ((ns.length : Nat) : Int) = ((i + 1 + ns.length : Nat) : Int) by omega, show (i : Int) + 1 = ((i + 1 : Nat) : Int) by omega,
          cut_mid _ _ _ (by rw [List.length_map]; omega) (by rw [List.length_map]; exact Pz.len), show i + 1 + ns.length - (i + 1) = ns.length by omega, ← List.map_drop, ← List.map_take, Pz.num, nI_cI]
      rw [eN]
      refine gen_new _ _ _ nnb fun H3 s3 hn => ?_
      -- message = []
      refine ⟨(by decide), fun mb0 nmb => ?_⟩
      refine gen_new _ _ _ nmb fun H4 s4 hmb => ?_
      have s24 := s3.trans s4
      -- what follows the if
      have fin : ∀ (D : Ends) (H5 : Hp) (mb : Addr) (i' : Nat), (∀ σ' H', (∃ m', m' < L.length - i ∧ LoopW CM CS m l a fn H L out m' σ' H') → D.nx σ' H') → Same Hc H5 → H5 nb = some (.lst (nI ns)) → H5 mb = some (.lst (nI ms)) → i < i' → i' ≤ L.length → L.drop i' = t →
          tSeq (tAsg (tMeth CM "answer" (spAnswer K CM CS) [] E0 (tVar 1) (tCons (tVar 4) (tCons (tVar 6) (tCons (tVar 7) tNil)))) (gName 8))
            (tSeq (tDrop (tBM K "list" rAppend (tVar 2) (tCons (tCB (fun xs H Q => ∃ p ys, xs = [V.ref p] ∧ (SqL K H p ys ∨ SqT K H p ys) ∧ Q (.int ys.length) H) (tCons (tVar 8) tNil)) tNil)))
            (tDrop (tBM K "list" rExtend (tVar 2) (tCons (tVar 8) tNil)))) D [some (.ref a), some (.ref m), some (.ref fn), some (.int (i' : Int)), some (.int (cc : Int)), some (.int ((i : Int) + 1)), some (.ref nb), some (.ref mb), v8] H5 := by
        intro D H5 mb i' hD s5 hn5 hm5 hi1 hi2 hi3
        have M5 := M2.same s5
        obtain ⟨dxm, hmm⟩ := M5.mu
        have hf5 := s5 _ _ hf2
        refine ⟨_, rfl, m, dxm, _, rfl, hmm, mu_nofld _ (by decide +kernel), _, rfl, _, rfl, _, rfl, m, l, nb, mb, S, S', ft, cc, k, ns, ms, c, ans, rfl, M5, SqL.of hn5, SqL.of hm5, Rq, hk, hr2, fun H6 D6 po nD6 hD6 => ?_⟩
        obtain ⟨ft', M6, keep6, new6⟩ := po
        have hf6 := keep6 _ _ hf5 nff
        have nff6 : ¬ Foot m l ft' fn := fun z => by
          rcases new6 fn z with z | z
          · exact nff z
          · rw [hf5] at z
            cases z
        have fD : fn ≠ D6 := ne_of_none hf5 nD6
        have len := congrArg List.length hO2
        rw [eO] at len
        simp only [List.length_append, List.length_cons, cI_len] at len
        -- found.append(len(told))
        refine ⟨_, rfl, .inl ⟨rfl, _, SqL.of hf6⟩, _, rfl, D6, _, rfl, .inl (SqL.of hD6), fn, _, _, rfl, rfl, hf6, by rw [List.length_map, sizeLine_eq]; omega, ?_⟩
        refine gen_self _ _ _ fun H7 b7 hf7 => ?_
        -- found.extend(told)
        refine ⟨_, rfl, .inl ⟨rfl, _, SqL.of hf7⟩, _, rfl, fn, D6, _, _, rfl, rfl, hf7, b7 _ _ hD6 fD.symm, ?_, ?_⟩
        · rw [List.length_append, List.length_map, List.length_singleton, List.length_cons, nI_length, sizeLine_eq]
          omega
        refine gen_self _ _ _ fun H8 b8 hf8 => ?_
        have b68 : But fn H6 H8 := b7.trans b8
        refine hD _ _ ⟨L.length - i', by omega, i', S', ft', o, dn ++ (((1 + ans.out.length : Nat) : Int) :: ans.value :: cI ans.out), _, _, _, _, _, rfl, rfl, hi2, M6.keep fun b u hb e => b68 b u e (fun z => nff6 (z ▸ hb)), by rw [hi3]; exact R2, ?_, hf8.trans ?_, nff6, fun u e => ?_⟩
        · rw [← hO2, eO, List.append_assoc]
          rfl
        · rw [List.length_cons, nI_length, List.map_append, List.map_cons, List.map_cons, ← nI_cI, List.append_assoc, Nat.add_comm]
          rfl
        · obtain ⟨e1, e2, e3⟩ := kA u e
          have e5 := s5 _ _ e1
          refine ⟨b68 _ _ (keep6 _ _ e5 e2) e3, fun z => ?_, e3⟩
          rcases new6 a z with z | z
          · exact e2 z
          · rw [e5] at z
            cases z
      -- if call in WITH_MESSAGE
      refine ⟨_, rfl, tW, _, rfl, .inr (TT.sW _), rfl, (by decide +kernel), _, rfl, ?_⟩
      have eI : inV (V.int (cc : Int)) (nI [5, 13]) = decide (cc = 5 ∨ cc = 13) := by
        show (((5 : Nat) : Int) == (cc : Int) || (((13 : Nat) : Int) == (cc : Int) || false)) = _
        by_cases h5 : cc = 5
        · subst h5
          decide
        · by_cases h13 : cc = 13
          · subst h13
            decide
          · rw [show (((5 : Nat) : Int) == (cc : Int)) = false by simp; omega, show (((13 : Nat) : Int) == (cc : Int)) = false by simp; omega, decide_eq_false (by omega)]
            rfl
      show if (inV (V.int (cc : Int)) (nI [5, 13])) = true then _ else _
      rw [eI]
      rcases Rq.msg with ⟨hc, hl22⟩ | ⟨hc, hms⟩
      · rw [decide_eq_true hc]
        refine iteT ?_
        obtain ⟨y1, y2, y3, y4⟩ := Pz.yes hc hl22
        have hA4 := s24.seq hA2
        have at22 : (L.map V.int)[i + 1 + ns.length]? = some (.int 22) := by
          rw [List.getElem?_map, y1]
          rfl
        have ei : (i : Int) + 1 + ((ns.length : Nat) : Int) = ((i + 1 + ns.length : Nat) : Int) := by omega
        refine ⟨_, rfl, _, rfl, _, _, rfl, rfl, _, rfl, _, rfl, _, _, rfl, rfl, _, rfl, _, rfl, a, _, _, _, rfl, rfl, hA4, at_of ei at22, _, _, rfl, rfl, _, rfl, a, _, rfl, hA4, fun mb nmb2 => ?_⟩
        have eM : cutV (L.map V.int) (some ((i : Int) + 1 + ((ns.length : Nat) : Int) + 1)) (some ((i : Int) + 1 + ((ns.length : Nat) : Int) + 1 + 22)) = nI ms := by
          rw [show (i : Int) + 1 + ((ns.length : Nat) : Int) + 1 + 22 = ((i + 1 + ns.length + 1 + 22 : Nat) : Int) by omega, show (i : Int) + 1 + ((ns.length : Nat) : Int) + 1 = ((i + 1 + ns.length + 1 : Nat) : Int) by omega,
            cut_mid _ _ _ (by rw [List.length_map]; omega) (by rw [List.length_map]; exact y3), show i + 1 + ns.length + 1 + 22 - (i + 1 + ns.length + 1) = 22 by omega, ← List.map_drop, ← List.map_take, y2, nI_cI]
        rw [eM]
        refine gen_new _ _ _ nmb2 fun H5 s5 hm5 => ?_
        refine ⟨_, rfl, _, _, rfl, rfl, _, rfl, mb, _, rfl, .inl (SqL.of hm5), _, _, rfl, rfl, ?_⟩
        have s25 := s24.trans s5
        have e3 : (i : Int) + 1 + ((ns.length : Nat) : Int) + 1 + (((nI ms).length : Nat) : Int) = ((i + 1 + ns.length + 1 + 22 : Nat) : Int) := by
          rw [nI_length, hl22]
          omega
        have g := fin { nx := fun σ' H' => ∃ m', m' < L.length - i ∧ LoopW CM CS m l a fn H L out m' σ' H', rt := Q, bk := fun σ H => tRet (tVar 2) { nx := fun _ H' => Q .non H', rt := Q } σ H, ct := fun σ' H' => ∃ m', m' < L.length - i ∧ LoopW CM CS m l a fn H L out m' σ' H' } H5 mb (i + 1 + ns.length + 1 + 22) (fun _ _ h => h) s25 (s5 _ _ (s4 _ _ hn)) hm5 (by omega) y3 y4
        rw [← e3] at g
        exact g
      · rw [decide_eq_false hc]
        refine iteF ?_
        have hm4 : H4 mb0 = some (.lst (nI ms)) := by
          rw [hms]
          exact hmb
        have e3 : (i : Int) + 1 + ((ns.length : Nat) : Int) = ((i + 1 + ns.length : Nat) : Int) := by omega
        have g := fin { nx := fun σ' H' => ∃ m', m' < L.length - i ∧ LoopW CM CS m l a fn H L out m' σ' H', rt := Q, bk := fun σ H => tRet (tVar 2) { nx := fun _ H' => Q .non H', rt := Q } σ H, ct := fun σ' H' => ∃ m', m' < L.length - i ∧ LoopW CM CS m l a fn H L out m' σ' H' } H4 mb0 (i + 1 + ns.length) (fun _ _ h => h) s24 (s4 _ _ hn) hm4 (by omega) Pz.len (Pz.no hc)
        rw [← e3] at g
        exact g
    · rw [decide_eq_false (show ¬ (i : Int) < ((L.length : Nat) : Int) by omega)]
      refine iteF ?_
      have ee : L.drop i = [] := List.drop_eq_nil_of_le (by omega)
      rw [ee] at R
      have er := run_nil R
      rw [er, List.append_nil] at hO2
      subst hO2
      exact ⟨_, rfl, q Hc fn hf2⟩
end
end Sm
namespace Sm
open Km441 (Station merge act only station0 Call)
/-! ### the specification's station and the program's: alike but for what stands at its own place among the news -/
theorem now_eq {a b : Station} (h : a.now = b.now) : b = { a with news := b.news } ∧ a.news.set a.me a.minute = b.news.set a.me a.minute := by
  obtain ⟨m1, n1, d1, s1, w1, h1⟩ := a
  obtain ⟨m2, n2, d2, s2, w2, h2⟩ := b
  unfold Station.now at h
  simp only [Station.mk.injEq] at h
  obtain ⟨rfl, rfl, rfl, rfl, e, rfl⟩ := h
  exact ⟨rfl, e⟩
theorem merge_set (x n : List Nat) (i v : Nat) : (merge x n).set i v = (merge (x.set i v) n).set i v := by
  refine List.ext_getElem? fun j => ?_
  by_cases e : i = j
  · subst e
    by_cases hi : i < x.length
    · rw [List.getElem?_set_self (by rw [merge_length]; exact hi), List.getElem?_set_self (by rw [merge_length, List.length_set]; exact hi)]
    · rw [List.getElem?_eq_none (by rw [List.length_set, merge_length]; omega), List.getElem?_eq_none (by rw [List.length_set, merge_length, List.length_set]; omega)]
  · rw [List.getElem?_set_ne e, List.getElem?_set_ne e]
    unfold merge
    rw [List.getElem?_map, List.getElem?_map, List.length_set]
    cases q : (List.range x.length)[j]? with
    | none => rfl
    | some k =>
      have ek : k = j := by
        have h1 := (List.getElem?_eq_some_iff.mp q)
        obtain ⟨h2, h3⟩ := h1
        rw [List.getElem_range] at h3
        exact h3.symm
      subst ek
      show some (max (x.getD k 0) (n.getD k 0)) = some (max ((x.set i v).getD k 0) (n.getD k 0))
      rw [List.getD_eq_getElem?_getD, List.getD_eq_getElem?_getD, List.getD_eq_getElem?_getD, List.getElem?_set_ne e]
theorem merge_alike {a b n : List Nat} {i v : Nat} (h : a.set i v = b.set i v) : (merge a n).set i v = (merge b n).set i v := by
  rw [merge_set a, merge_set b, h]
theorem set_alike {a b : List Nat} {i u v : Nat} (h : a.set i u = b.set i u) : a.set i v = b.set i v := by
  have := congrArg (fun l => List.set l i v) h
  simpa [List.set_set] using this
theorem join_now {a : Station} {nb m : List Nat} (h : a.news.set a.me a.minute = nb.set a.me a.minute) : (a.join m).now = (({ a with news := nb } : Station).join m).now ∧ (a.join m).seen = (({ a with news := nb } : Station).join m).seen ∧ (a.join m).drill = (({ a with news := nb } : Station).join m).drill := by
  rcases Nat.lt_trichotomy (m.getD 0 0) a.drill with e | e | e
  · rw [join_old e, join_old (s := { a with news := nb }) e]
    exact ⟨by unfold Station.now; simp only [h], rfl, rfl⟩
  · rw [join_same e, join_same (s := { a with news := nb }) e]
    exact ⟨by unfold Station.now; simp only [merge_alike h], rfl, rfl⟩
  · unfold Station.join
    rw [if_neg (by omega), if_neg (show ¬ m.getD 0 0 < a.drill by omega)]
    simp only [if_pos e]
    exact ⟨rfl, rfl, rfl⟩
theorem act_now {a b : Station} (h : a.now = b.now) (c : Call) : (act a c).2 = (pact b c).2 ∧ (act a c).1.now = (pact b c).1.now := by
  obtain ⟨eb, hn⟩ := now_eq h
  have en : b.now.news = a.now.news := by rw [h]
  generalize b.news = nb at eb hn
  subst eb
  cases c with
  | start me =>
    show (if 5 ≤ me then (a, only (-22)) else (station0 me, only 0)).2 = (if 5 ≤ me then (({ a with news := nb } : Station), only (-22)) else (station0 me, only 0)).2 ∧ (if 5 ≤ me then (a, only (-22)) else (station0 me, only 0)).1.now = (if 5 ≤ me then (({ a with news := nb } : Station), only (-22)) else (station0 me, only 0)).1.now
    split
    · exact ⟨rfl, h⟩
    · exact ⟨rfl, rfl⟩
  | minutes n =>
    show (if n = 0 ∨ 1440 < n then (a, only (-22)) else if 100000 < a.minute + n then (a, only (-75)) else ({ a with minute := a.minute + n }, only ((a.minute + n : Nat) : Int))).2 =
        (if n = 0 ∨ 1440 < n then (({ a with news := nb } : Station), only (-22)) else if 100000 < a.minute + n then (({ a with news := nb } : Station), only (-75)) else (({ a with news := nb, minute := a.minute + n } : Station), only ((a.minute + n : Nat) : Int))).2 ∧
      (if n = 0 ∨ 1440 < n then (a, only (-22)) else if 100000 < a.minute + n then (a, only (-75)) else ({ a with minute := a.minute + n }, only ((a.minute + n : Nat) : Int))).1.now =
        (if n = 0 ∨ 1440 < n then (({ a with news := nb } : Station), only (-22)) else if 100000 < a.minute + n then (({ a with news := nb } : Station), only (-75)) else (({ a with news := nb, minute := a.minute + n } : Station), only ((a.minute + n : Nat) : Int))).1.now
    split
    · exact ⟨rfl, h⟩
    · split
      · exact ⟨rfl, h⟩
      · refine ⟨rfl, ?_⟩
        unfold Station.now
        simp only [set_alike hn]
  | drill =>
    show (if 1000 ≤ a.drill then (a, only (-28)) else (a.fresh (a.drill + 1), only ((a.drill + 1 : Nat) : Int))).2 = (if 1000 ≤ a.drill then (({ a with news := nb } : Station), only (-28)) else (a.fresh (a.drill + 1), only ((a.drill + 1 : Nat) : Int))).2 ∧
      (if 1000 ≤ a.drill then (a, only (-28)) else (a.fresh (a.drill + 1), only ((a.drill + 1 : Nat) : Int))).1.now = (if 1000 ≤ a.drill then (({ a with news := nb } : Station), only (-28)) else (a.fresh (a.drill + 1), only ((a.drill + 1 : Nat) : Int))).1.now
    split
    · exact ⟨rfl, h⟩
    · exact ⟨rfl, rfl⟩
  | in_ n =>
    show (if 16 ≤ n then (a, only (-2)) else if a.drill = 0 then (a, only (-6)) else if 8 * a.minute + a.me + 1 ≤ a.know n then (a, only (-17)) else ({ a with seen := a.seen.set n (8 * a.minute + a.me + 1) }, only ((a.know n : Nat) : Int))).2 =
        (if 16 ≤ n then (({ a with news := nb } : Station), only (-2)) else if a.drill = 0 then (({ a with news := nb } : Station), only (-6)) else if 8 * a.minute + a.me + 1 ≤ a.know n then (({ a with news := nb } : Station), only (-17)) else (({ a with news := nb, seen := a.seen.set n (8 * a.minute + a.me + 1) } : Station), only ((a.know n : Nat) : Int))).2 ∧
      (if 16 ≤ n then (a, only (-2)) else if a.drill = 0 then (a, only (-6)) else if 8 * a.minute + a.me + 1 ≤ a.know n then (a, only (-17)) else ({ a with seen := a.seen.set n (8 * a.minute + a.me + 1) }, only ((a.know n : Nat) : Int))).1.now =
        (if 16 ≤ n then (({ a with news := nb } : Station), only (-2)) else if a.drill = 0 then (({ a with news := nb } : Station), only (-6)) else if 8 * a.minute + a.me + 1 ≤ a.know n then (({ a with news := nb } : Station), only (-17)) else (({ a with news := nb, seen := a.seen.set n (8 * a.minute + a.me + 1) } : Station), only ((a.know n : Nat) : Int))).1.now
    split
    · exact ⟨rfl, h⟩
    · split
      · exact ⟨rfl, h⟩
      · split
        · exact ⟨rfl, h⟩
        · refine ⟨rfl, ?_⟩
          unfold Station.now
          simp only [hn]
  | tell =>
    show (if a.drill = 0 then (a, only (-6)) else (a.now, (⟨((a.in_.length : Nat) : Int), a.message⟩ : Km441.Ans))).2 = (if a.drill = 0 then (({ a with news := nb } : Station), only (-6)) else (({ a with news := nb } : Station).now, (⟨((a.in_.length : Nat) : Int), ({ a with news := nb } : Station).message⟩ : Km441.Ans))).2 ∧
      (if a.drill = 0 then (a, only (-6)) else (a.now, (⟨((a.in_.length : Nat) : Int), a.message⟩ : Km441.Ans))).1.now = ({ a with news := nb } : Station).now
    split
    · exact ⟨rfl, h⟩
    · refine ⟨?_, ?_⟩
      · show (⟨((a.in_.length : Nat) : Int), a.drill :: (a.seen ++ a.now.news)⟩ : Km441.Ans) = ⟨((a.in_.length : Nat) : Int), a.drill :: (a.seen ++ ({ a with news := nb } : Station).now.news)⟩
        rw [en]
      · rw [← h]
        unfold Station.now
        simp only [List.set_set]
  | hear m =>
    obtain ⟨j1, j2, j3⟩ := join_now (m := m) hn
    have e1 : newOf a m = newOf ({ a with news := nb } : Station) m := by
      unfold newOf Station.changes Station.know
      rw [j2]
    show (if Km441.good m = false then (a, only (-71)) else (heard a m, (⟨((newOf a m : Nat) : Int), [(a.join m).drill]⟩ : Km441.Ans))).2 = (if Km441.good m = false then (({ a with news := nb } : Station), only (-71)) else (heard ({ a with news := nb } : Station) m, (⟨((newOf ({ a with news := nb } : Station) m : Nat) : Int), [(({ a with news := nb } : Station).join m).drill]⟩ : Km441.Ans))).2 ∧
      (if Km441.good m = false then (a, only (-71)) else (heard a m, (⟨((newOf a m : Nat) : Int), [(a.join m).drill]⟩ : Km441.Ans))).1.now = (if Km441.good m = false then (({ a with news := nb } : Station), only (-71)) else (heard ({ a with news := nb } : Station) m, (⟨((newOf ({ a with news := nb } : Station) m : Nat) : Int), [(({ a with news := nb } : Station).join m).drill]⟩ : Km441.Ans))).1.now
    split
    · exact ⟨rfl, h⟩
    · refine ⟨?_, ?_⟩
      · show (⟨((newOf a m : Nat) : Int), [(a.join m).drill]⟩ : Km441.Ans) = ⟨((newOf ({ a with news := nb } : Station) m : Nat) : Int), [(({ a with news := nb } : Station).join m).drill]⟩
        rw [e1, j3]
      · show ({ a.join m with heard := min 100000 (a.heard + 1) } : Station).now = ({ ({ a with news := nb } : Station).join m with heard := min 100000 (a.heard + 1) } : Station).now
        generalize a.join m = x at j1
        generalize ({ a with news := nb } : Station).join m = y at j1
        obtain ⟨m1, n1, d1, s1, w1, h1⟩ := x
        obtain ⟨m2, n2, d2, s2, w2, h2⟩ := y
        unfold Station.now at j1 ⊢
        simp only [Station.mk.injEq] at j1 ⊢
        exact ⟨j1.1, j1.2.1, j1.2.2.1, j1.2.2.2.1, j1.2.2.2.2.1, trivial⟩
  | new_ m =>
    obtain ⟨j1, j2, j3⟩ := join_now (m := m) hn
    have e1 : newOf a m = newOf ({ a with news := nb } : Station) m := by
      unfold newOf Station.changes Station.know
      rw [j2]
    refine ⟨?_, h⟩
    show (if Km441.good m = false then only (-71) else only ((newOf a m : Nat) : Int)) = (if Km441.good m = false then only (-71) else only ((newOf ({ a with news := nb } : Station) m : Nat) : Int))
    rw [e1]
  | where_ p => exact ⟨rfl, h⟩
  | count => exact ⟨rfl, h⟩
  | missing => exact ⟨rfl, h⟩
  | at_ k => exact ⟨rfl, h⟩
  | sure n t =>
    refine ⟨?_, h⟩
    show (if n = 0 ∨ 5 < n ∨ 100000 < t then only (-22) else if a.drill = 0 then only (-6) else if ((List.range n).filter fun k => decide (a.now.news.getD k 0 ≤ t)) ≠ [] then only (-13) else (⟨((a.missing.length : Nat) : Int), [Km441.bits a.missing]⟩ : Km441.Ans)) =
      (if n = 0 ∨ 5 < n ∨ 100000 < t then only (-22) else if a.drill = 0 then only (-6) else if ((List.range n).filter fun k => decide (({ a with news := nb } : Station).now.news.getD k 0 ≤ t)) ≠ [] then only (-13) else (⟨((a.missing.length : Nat) : Int), [Km441.bits a.missing]⟩ : Km441.Ans))
    rw [en]
  | news k =>
    refine ⟨?_, h⟩
    show (if 5 ≤ k then only (-2) else only ((a.now.news.getD k 0 : Nat) : Int)) = (if 5 ≤ k then only (-2) else only ((({ a with news := nb } : Station).now.news.getD k 0 : Nat) : Int))
    rw [en]
  | soonest n =>
    refine ⟨?_, h⟩
    have el : a.least n = ({ a with news := nb } : Station).least n := by
      unfold Station.least
      rw [en]
    show (if n = 0 ∨ 5 < n then only (-22) else (⟨((a.least n : Nat) : Int), [Km441.bits ((List.range n).filter fun k => a.now.news.getD k 0 == a.least n)]⟩ : Km441.Ans)) =
      (if n = 0 ∨ 5 < n then only (-22) else (⟨((({ a with news := nb } : Station).least n : Nat) : Int), [Km441.bits ((List.range n).filter fun k => ({ a with news := nb } : Station).now.news.getD k 0 == ({ a with news := nb } : Station).least n)]⟩ : Km441.Ans))
    rw [el, en]
  | last => exact ⟨rfl, h⟩
  | drillNow => exact ⟨rfl, h⟩
  | state => exact ⟨rfl, h⟩
end Sm
namespace Sm
open Km441 (Station merge act only station0 Call)
open Km441Neutral (step step0 told asked1 callOf may)
/-! ### one call of the specification is one call of the program -/
theorem whole_id (c : List (List Int)) : PyKm441.whole c = c := by
  unfold PyKm441.whole
  split <;> rfl
/-- a call that is asked, read as the program reads it -/
structure Read (c : List (List Int)) : Prop where
  ex : ∃ (cc k : Nat) (ns ms : List Nat) (x : Call), Req cc ns ms k x ∧ callOf c = some x ∧ PyFlat.put1 c = encR cc ns ms ∧ k ≤ 2 ∧ ∀ s, step s c = step0 s k x
theorem cI_nat {l : List Int} (h : l.all (fun (z : Int) => Km441Neutral.natural z 32) = true) : cI (Km441Neutral.nats l) = l := by
  unfold cI Km441Neutral.nats
  rw [List.map_map]
  rw [List.all_eq_true] at h
  calc l.map _ = l.map id := List.map_congr_left fun z hz => by
        have := h z hz
        unfold Km441Neutral.natural at this
        simp only [Bool.and_eq_true, decide_eq_true_eq] at this
        show ((z.toNat : Nat) : Int) = z
        omega
    _ = l := List.map_id l
theorem nat_of {z : Int} {b : Nat} (h : Km441Neutral.natural z b = true) : 0 ≤ z := by
  unfold Km441Neutral.natural at h
  simp only [Bool.and_eq_true, decide_eq_true_eq] at h
  exact h.1
theorem in2 {k : Int} (h : PyInside.within 0 2 k = true) : k.toNat ≤ 2 := by
  unfold PyInside.within at h
  simp only [Bool.and_eq_true, decide_eq_true_eq] at h
  omega
theorem and_left2 {a b c : Bool} (h : ((a && b) && c) = true) : a = true := by
  simp only [Bool.and_eq_true] at h
  exact h.1.1
theorem enc_is {cc : Nat} {ns ms : List Nat} {l : List Int} (h : l = (cc : Int) :: (cI ns ++ if cc = 5 ∨ cc = 13 then 22 :: cI ms else [])) : l = encR cc ns ms := h
theorem read_of (c : List (List Int)) (ha : asked1 c = true) (hi : PyInside.call PyKm441.bound c = true) : Read c := by
  unfold asked1 at ha
  split at ha
  case h_1 k b =>
    simp only [Bool.and_eq_true] at ha
    have hk := nat_of ha.1
    have hb := nat_of ha.2
    refine ⟨⟨0, k.toNat, [k.toNat, b.toNat], [], .start b.toNat, .start _ _, rfl, ?_, in2 (and_left2 hi), fun s => rfl⟩⟩
    show (0 : Int) :: k :: b :: [] = (0 : Int) :: (((k.toNat : Nat) : Int) :: ((b.toNat : Nat) : Int) :: [])
    rw [Int.toNat_of_nonneg hk, Int.toNat_of_nonneg hb]
  case h_2 k b =>
    simp only [Bool.and_eq_true] at ha
    have hk := nat_of ha.1
    have hb := nat_of ha.2
    refine ⟨⟨1, k.toNat, [k.toNat, b.toNat], [], .minutes b.toNat, .minutes _ _, rfl, ?_, in2 (and_left2 hi), fun s => rfl⟩⟩
    show (1 : Int) :: k :: b :: [] = (1 : Int) :: (((k.toNat : Nat) : Int) :: ((b.toNat : Nat) : Int) :: [])
    rw [Int.toNat_of_nonneg hk, Int.toNat_of_nonneg hb]
  case h_3 k =>
    have hk := nat_of ha
    refine ⟨⟨2, k.toNat, [k.toNat], [], .drill , .drill _, rfl, ?_, in2 (and_left2 hi), fun s => rfl⟩⟩
    show (2 : Int) :: k :: [] = (2 : Int) :: (((k.toNat : Nat) : Int) :: [])
    rw [Int.toNat_of_nonneg hk]
  case h_4 k b =>
    simp only [Bool.and_eq_true] at ha
    have hk := nat_of ha.1
    have hb := nat_of ha.2
    refine ⟨⟨3, k.toNat, [k.toNat, b.toNat], [], .in_ b.toNat, .in_ _ _, rfl, ?_, in2 (and_left2 hi), fun s => rfl⟩⟩
    show (3 : Int) :: k :: b :: [] = (3 : Int) :: (((k.toNat : Nat) : Int) :: ((b.toNat : Nat) : Int) :: [])
    rw [Int.toNat_of_nonneg hk, Int.toNat_of_nonneg hb]
  case h_5 k =>
    have hk := nat_of ha
    refine ⟨⟨4, k.toNat, [k.toNat], [], .tell , .tell _, rfl, ?_, in2 (and_left2 hi), fun s => rfl⟩⟩
    show (4 : Int) :: k :: [] = (4 : Int) :: (((k.toNat : Nat) : Int) :: [])
    rw [Int.toNat_of_nonneg hk]
  case h_6 k r =>
    simp only [Bool.and_eq_true, decide_eq_true_eq] at ha
    obtain ⟨hk0, hl, hr⟩ := ha
    have hk := nat_of hk0
    refine ⟨⟨5, k.toNat, [k.toNat], Km441Neutral.nats r, .hear (Km441Neutral.nats r), .hear _ _ ((List.length_map ..).trans hl), rfl, ?_, in2 (and_left2 hi), fun s => rfl⟩⟩
    show (5 : Int) :: k :: (((r.length : Nat) : Int) :: r ++ []) = (5 : Int) :: (((k.toNat : Nat) : Int) :: (22 :: cI (Km441Neutral.nats r)))
    rw [Int.toNat_of_nonneg hk, cI_nat hr, hl, List.append_nil]
    rfl
  case h_7 k b =>
    simp only [Bool.and_eq_true] at ha
    have hk := nat_of ha.1
    have hb := nat_of ha.2
    refine ⟨⟨6, k.toNat, [k.toNat, b.toNat], [], .where_ b.toNat, .where_ _ _, rfl, ?_, in2 (and_left2 hi), fun s => rfl⟩⟩
    show (6 : Int) :: k :: b :: [] = (6 : Int) :: (((k.toNat : Nat) : Int) :: ((b.toNat : Nat) : Int) :: [])
    rw [Int.toNat_of_nonneg hk, Int.toNat_of_nonneg hb]
  case h_8 k =>
    have hk := nat_of ha
    refine ⟨⟨7, k.toNat, [k.toNat], [], .count , .count _, rfl, ?_, in2 (and_left2 hi), fun s => rfl⟩⟩
    show (7 : Int) :: k :: [] = (7 : Int) :: (((k.toNat : Nat) : Int) :: [])
    rw [Int.toNat_of_nonneg hk]
  case h_9 k =>
    have hk := nat_of ha
    refine ⟨⟨8, k.toNat, [k.toNat], [], .missing , .missing _, rfl, ?_, in2 (and_left2 hi), fun s => rfl⟩⟩
    show (8 : Int) :: k :: [] = (8 : Int) :: (((k.toNat : Nat) : Int) :: [])
    rw [Int.toNat_of_nonneg hk]
  case h_10 k b =>
    simp only [Bool.and_eq_true] at ha
    have hk := nat_of ha.1
    have hb := nat_of ha.2
    refine ⟨⟨9, k.toNat, [k.toNat, b.toNat], [], .at_ b.toNat, .at_ _ _, rfl, ?_, in2 (and_left2 hi), fun s => rfl⟩⟩
    show (9 : Int) :: k :: b :: [] = (9 : Int) :: (((k.toNat : Nat) : Int) :: ((b.toNat : Nat) : Int) :: [])
    rw [Int.toNat_of_nonneg hk, Int.toNat_of_nonneg hb]
  case h_11 k b t =>
    simp only [Bool.and_eq_true] at ha
    have hk := nat_of ha.1.1
    have hb := nat_of ha.1.2
    have ht := nat_of ha.2
    refine ⟨⟨10, k.toNat, [k.toNat, b.toNat, t.toNat], [], .sure b.toNat t.toNat, .sure _ _ _, rfl, ?_, in2 (and_left2 hi), fun s => rfl⟩⟩
    show (10 : Int) :: k :: b :: t :: [] = (10 : Int) :: (((k.toNat : Nat) : Int) :: ((b.toNat : Nat) : Int) :: ((t.toNat : Nat) : Int) :: [])
    rw [Int.toNat_of_nonneg hk, Int.toNat_of_nonneg hb, Int.toNat_of_nonneg ht]
  case h_12 k b =>
    simp only [Bool.and_eq_true] at ha
    have hk := nat_of ha.1
    have hb := nat_of ha.2
    refine ⟨⟨11, k.toNat, [k.toNat, b.toNat], [], .news b.toNat, .news _ _, rfl, ?_, in2 (and_left2 hi), fun s => rfl⟩⟩
    show (11 : Int) :: k :: b :: [] = (11 : Int) :: (((k.toNat : Nat) : Int) :: ((b.toNat : Nat) : Int) :: [])
    rw [Int.toNat_of_nonneg hk, Int.toNat_of_nonneg hb]
  case h_13 k b =>
    simp only [Bool.and_eq_true] at ha
    have hk := nat_of ha.1
    have hb := nat_of ha.2
    refine ⟨⟨12, k.toNat, [k.toNat, b.toNat], [], .soonest b.toNat, .soonest _ _, rfl, ?_, in2 (and_left2 hi), fun s => rfl⟩⟩
    show (12 : Int) :: k :: b :: [] = (12 : Int) :: (((k.toNat : Nat) : Int) :: ((b.toNat : Nat) : Int) :: [])
    rw [Int.toNat_of_nonneg hk, Int.toNat_of_nonneg hb]
  case h_14 k r =>
    simp only [Bool.and_eq_true, decide_eq_true_eq] at ha
    obtain ⟨hk0, hl, hr⟩ := ha
    have hk := nat_of hk0
    refine ⟨⟨13, k.toNat, [k.toNat], Km441Neutral.nats r, .new_ (Km441Neutral.nats r), .new_ _ _ ((List.length_map ..).trans hl), rfl, ?_, in2 (and_left2 hi), fun s => rfl⟩⟩
    show (13 : Int) :: k :: (((r.length : Nat) : Int) :: r ++ []) = (13 : Int) :: (((k.toNat : Nat) : Int) :: (22 :: cI (Km441Neutral.nats r)))
    rw [Int.toNat_of_nonneg hk, cI_nat hr, hl, List.append_nil]
    rfl
  case h_15 k =>
    have hk := nat_of ha
    refine ⟨⟨14, k.toNat, [k.toNat], [], .last , .last _, rfl, ?_, in2 (and_left2 hi), fun s => rfl⟩⟩
    show (14 : Int) :: k :: [] = (14 : Int) :: (((k.toNat : Nat) : Int) :: [])
    rw [Int.toNat_of_nonneg hk]
  case h_16 k =>
    have hk := nat_of ha
    refine ⟨⟨15, k.toNat, [k.toNat], [], .drillNow , .drillNow _, rfl, ?_, in2 (and_left2 hi), fun s => rfl⟩⟩
    show (15 : Int) :: k :: [] = (15 : Int) :: (((k.toNat : Nat) : Int) :: [])
    rw [Int.toNat_of_nonneg hk]
  case h_17 k =>
    have hk := nat_of ha
    refine ⟨⟨16, k.toNat, [k.toNat], [], .state , .state _, rfl, ?_, in2 (and_left2 hi), fun s => rfl⟩⟩
    show (16 : Int) :: k :: [] = (16 : Int) :: (((k.toNat : Nat) : Int) :: [])
    rw [Int.toNat_of_nonneg hk]
  case h_18 => cases ha
end Sm
namespace Sm
open Km441 (Station merge act only station0 Call)
open Km441Neutral (step step0 told asked1 callOf may)
/-- the specification's stations and the program's -/
structure Rel (s S : List (Option Station)) : Prop where
  l1 : s.length = 3
  l2 : S.length = 3
  at_ : ∀ k : Nat, k < 3 → (s[k]? = some none ∧ S[k]? = some none) ∨ ∃ a b, s[k]? = some (some a) ∧ S[k]? = some (some b) ∧ a.now = b.now
theorem Rel.set {s S : List (Option Station)} (r : Rel s S) {k : Nat} {a b : Station} (hk : k < 3) (h : a.now = b.now) : Rel (s.set k (some a)) (S.set k (some b)) := by
  refine ⟨by rw [List.length_set]; exact r.l1, by rw [List.length_set]; exact r.l2, fun j hj => ?_⟩
  by_cases e : k = j
  · subst e
    exact .inr ⟨a, b, List.getElem?_set_self (by rw [r.l1]; exact hk), List.getElem?_set_self (by rw [r.l2]; exact hk), h⟩
  · rw [List.getElem?_set_ne e, List.getElem?_set_ne e]
    exact r.at_ j hj
theorem told_is (a : Km441.Ans) : told a = a.value :: cI a.out := rfl
theorem res_at {S : List (Option Station)} {k : Nat} {b : Station} {c : Call} (h : S[k]? = some (some b)) (hc : Km441.isStart c = false) : res S k c = some (S.set k (some (pact b c).1), (pact b c).2) := by
  have e : res S k c = match S[k]? with
    | some (some s) => some (S.set k (some (pact s c).1), (pact s c).2)
    | _ => none := by
    cases c <;> first | rfl | cases hc
  rw [e, h]
theorem step_sim {s S : List (Option Station)} (r : Rel s S) {k : Nat} (hk : k ≤ 2) (c : Call) (ne : (step0 s k c).2 ≠ []) :
    ∃ S' ans, res S k c = some (S', ans) ∧ Rel (step0 s k c).1 S' ∧ (step0 s k c).2 = ans.value :: cI ans.out := by
  have e0 : step0 s k c = match s.getD k none with
    | some a => (s.set k (some (act a c).1), told (act a c).2)
    | none => if Km441.isStart c then (if (told (act (station0 0) c).2).headD 0 < 0 then s else s.set k (some (act (station0 0) c).1), told (act (station0 0) c).2) else (s, []) := by
    unfold step0
    rw [if_neg (by omega)]
    rfl
  rw [e0] at ne ⊢
  rcases r.at_ k (by omega) with ⟨h1, h2⟩ | ⟨a, b, h1, h2, hn⟩
  · have eg : s.getD k none = none := by
      rw [List.getD_eq_getElem?_getD, h1]
      rfl
    rw [eg] at ne ⊢
    cases c with
    | start me =>
      by_cases hm : 5 ≤ me
      · have e1 : startOf S k me = (S, only (-22)) := if_pos hm
        have e2 : act (station0 0) (.start me) = (station0 0, only (-22)) := if_pos hm
        refine ⟨S, only (-22), congrArg some e1, ?_, ?_⟩
        · show Rel (if (told (act (station0 0) (.start me)).2).headD 0 < 0 then s else s.set k (some (act (station0 0) (.start me)).1)) S
          rw [e2, if_pos (by decide)]
          exact r
        · show told (act (station0 0) (.start me)).2 = _
          rw [e2]
          rfl
      · have e1 : startOf S k me = (S.set k (some (station0 me)), only 0) := if_neg hm
        have e2 : act (station0 0) (.start me) = (station0 me, only 0) := if_neg hm
        refine ⟨S.set k (some (station0 me)), only 0, congrArg some e1, ?_, ?_⟩
        · show Rel (if (told (act (station0 0) (.start me)).2).headD 0 < 0 then s else s.set k (some (act (station0 0) (.start me)).1)) _
          rw [e2, if_neg (show ¬ (told (station0 me, only 0).2).headD 0 < 0 from (by decide : ¬ (0 : Int) < 0))]
          exact r.set (by omega) rfl
        · show told (act (station0 0) (.start me)).2 = _
          rw [e2]
          rfl
    | _ => exact absurd rfl ne
  · have eg : s.getD k none = some a := by
      rw [List.getD_eq_getElem?_getD, h1]
      rfl
    rw [eg] at ne ⊢
    obtain ⟨g1, g2⟩ := act_now hn c
    cases hc : Km441.isStart c with
    | false =>
      refine ⟨_, _, res_at h2 hc, ?_, ?_⟩
      · exact r.set (by omega) g2
      · show told (act a c).2 = _
        rw [g1]
        rfl
    | true =>
      cases c with
      | start me =>
        by_cases hm : 5 ≤ me
        · have e1 : startOf S k me = (S, only (-22)) := if_pos hm
          have e2 : act a (.start me) = (a, only (-22)) := if_pos hm
          refine ⟨S, only (-22), congrArg some e1, ?_, ?_⟩
          · show Rel (s.set k (some (act a (.start me)).1)) S
            rw [e2, set_same h1]
            exact r
          · show told (act a (.start me)).2 = _
            rw [e2]
            rfl
        · have e1 : startOf S k me = (S.set k (some (station0 me)), only 0) := if_neg hm
          have e2 : act a (.start me) = (station0 me, only 0) := if_neg hm
          refine ⟨S.set k (some (station0 me)), only 0, congrArg some e1, ?_, ?_⟩
          · show Rel (s.set k (some (act a (.start me)).1)) _
            rw [e2]
            exact r.set (by omega) rfl
          · show told (act a (.start me)).2 = _
            rw [e2]
            rfl
      | _ => cases hc
theorem run_of : ∀ (raw : List (List (List Int))) (s S : List (Option Station)), Rel s S → (∀ c ∈ raw, Read c) → may s raw = true → Run S (PyFlat.put raw) (PyFlat.told (PyFlat.played step s raw))
  | [], s, S, _, _, _ => .nil S
  | c :: raw, s, S, r, hr, hm => by
    obtain ⟨cc, k, ns, ms, x, R, _, e1, hk, e2⟩ := (hr c List.mem_cons_self).ex
    have hm2 : (!((step s c).2.isEmpty) && may (step s c).1 raw) = true := hm
    simp only [Bool.and_eq_true] at hm2
    have ne : (step0 s k x).2 ≠ [] := fun z => by
      have h1 := hm2.1
      rw [e2 s, z] at h1
      cases h1
    obtain ⟨S', ans, h1, h2, h3⟩ := step_sim r hk x ne
    have h4 := hm2.2
    rw [e2 s] at h4
    have ih := run_of raw (step0 s k x).1 S' h2 (fun d hd => hr d (List.mem_cons_of_mem _ hd)) h4
    have ep : PyFlat.told (PyFlat.played step s (c :: raw)) = ((1 + ans.out.length : Nat) : Int) :: ans.value :: (cI ans.out ++ PyFlat.told (PyFlat.played step (step0 s k x).1 raw)) := by
      show PyFlat.told ((step s c).2 :: PyFlat.played step (step s c).1 raw) = _
      rw [e2 s, h3]
      unfold PyFlat.told
      rw [List.flatMap_cons, List.length_cons, cI_len, Nat.add_comm]
      rfl
    rw [ep]
    show Run S (PyFlat.put1 c ++ PyFlat.put raw) _
    rw [e1]
    exact .cons R (by rw [r.l2]; omega) h1 ih
theorem rel0 : Rel [none, none, none] [none, none, none] := ⟨rfl, rfl, fun k hk => .inl (by
  match k, hk with
  | 0, _ => exact ⟨rfl, rfl⟩
  | 1, _ => exact ⟨rfl, rfl⟩
  | 2, _ => exact ⟨rfl, rfl⟩)⟩
/-- THE PLAIN LAW -/
theorem law {l : List Int} (h : PyKm441.answers_asked l = true) : Run [none, none, none] l (PyKm441.answers l) ∧ (PyKm441.answers l).length ≤ 10000000 := by
  unfold PyKm441.answers_asked at h
  cases q : PyFlat.calls PyKm441.shape l.length l with
  | none =>
    rw [q] at h
    cases h
  | some raw =>
    rw [q] at h
    simp only [Bool.and_eq_true] at h
    obtain ⟨⟨⟨⟨h1, h2⟩, h3⟩, h4⟩, h5⟩ := h
    have ew : raw.map PyKm441.whole = raw := by
      calc raw.map PyKm441.whole = raw.map id := List.map_congr_left fun c _ => whole_id c
        _ = raw := List.map_id raw
    rw [ew] at h4
    have ea : PyKm441.answers l = PyFlat.told (PyFlat.played step Km441Neutral.start raw) := by
      unfold PyKm441.answers PyKm441.calls
      rw [q]
      show PyFlat.told (PyFlat.played step Km441Neutral.start (raw.map PyKm441.whole)) = _
      rw [ew]
    obtain ⟨el, _⟩ := PyFlat.put_calls _ _ _ q
    unfold Km441Neutral.asked at h4
    simp only [Bool.and_eq_true] at h4
    obtain ⟨_, _, h6, h7⟩ := h4
    rw [List.all_eq_true] at h6
    unfold PyInside.calls at h3
    rw [List.all_eq_true] at h3
    refine ⟨?_, of_decide_eq_true h5⟩
    rw [ea]
    have g := run_of raw Km441Neutral.start [none, none, none] rel0 (fun c hc => read_of c (h6 c hc) (h3 c hc)) h7
    rw [← el] at g
    exact g
end Sm
namespace Sm
open PySem PySem.Spec PyProof.Rows L2
/-- an error of the class at S is what «except S» names -/
theorem exm_self {K : PySem.W.Frag} {S : Addr} (h1 : PySem.W.subIn K (.ref S) (.type "BaseException") = some true) (h2 : PySem.W.isClsIn K S = true) (h3 : PySem.W.typeIn K (.ref S) = some (.type "type")) (h4 : PySem.W.subIn K (.ref S) (.ref S) = some true) :
    PySem.W.exmOne K (.ref S) (.ref S) = some true := by
  have e1 : (PySem.W.subIn K (.ref S) (.type "BaseException") == some true) = true := by rw [h1] <;> rfl
  have e2 : ((PySem.W.clsIn K S).isSome && PySem.W.typeIn K (.ref S) == some (.type "type")) = true := by
    have h2' : (PySem.W.clsIn K S).isSome = true := h2
    rw [h2', h3] <;> rfl
  show (if (PySem.W.subIn K (.ref S) (.type "BaseException") == some true) = true then (if ((PySem.W.clsIn K S).isSome && PySem.W.typeIn K (.ref S) == some (.type "type")) = true then PySem.W.subIn K (.ref S) (.ref S) else none) else none) = some true
  rw [if_pos e1, if_pos e2]
  exact h4
theorem all_mk {P : Program} {w : World} {K : PySem.W.Frag} {h : Heap} {mg : Str → Option Value} {fa CS CM CF tN tW : Addr} (X : K.In h) (G : h.Ns mainGlobals mg) (hfa : mg "answers" = some (.ref fa))
    {f_known_of f_minute_of f_place_of f_is_known f_drill_in f_persons_in f_news_in f_is_good f_greater_ones f_many_unlike f_bits_of f_want f_counted s_init s_in_drill s_forget s_here_and_now s_news s_message s_persons_behind s_many_new s_hear s_who_is_in s_who_is_out s_who_is_at s_soonest s_last_in r_init m_init m_start m_minutes m_next_drill m_come_in m_tell m_hear m_where m_missing m_who_at m_sure m_news_of m_soonest m_would_hear m_last m_which m_state m_done m_asked m_answer f_answers : Addr} {od_f_known_of an_f_known_of od_f_minute_of an_f_minute_of od_f_place_of an_f_place_of od_f_is_known an_f_is_known od_f_drill_in an_f_drill_in od_f_persons_in an_f_persons_in od_f_news_in an_f_news_in od_f_is_good an_f_is_good od_f_greater_ones an_f_greater_ones od_f_many_unlike an_f_many_unlike od_f_bits_of an_f_bits_of od_f_want an_f_want od_f_counted an_f_counted od_s_init an_s_init od_s_in_drill an_s_in_drill od_s_forget an_s_forget od_s_here_and_now an_s_here_and_now od_s_news an_s_news od_s_message an_s_message od_s_persons_behind an_s_persons_behind od_s_many_new an_s_many_new od_s_hear an_s_hear od_s_who_is_in an_s_who_is_in od_s_who_is_out an_s_who_is_out od_s_who_is_at an_s_who_is_at od_s_soonest an_s_soonest od_s_last_in an_s_last_in od_r_init an_r_init od_m_init an_m_init od_m_start an_m_start od_m_minutes an_m_minutes od_m_next_drill an_m_next_drill od_m_come_in an_m_come_in od_m_tell an_m_tell od_m_hear an_m_hear od_m_where an_m_where od_m_missing an_m_missing od_m_who_at an_m_who_at od_m_sure an_m_sure od_m_news_of an_m_news_of od_m_soonest an_m_soonest od_m_would_hear an_m_would_hear od_m_last an_m_last od_m_which an_m_which od_m_state an_m_state od_m_done an_m_done od_m_asked an_m_asked od_m_answer an_m_answer od_f_answers an_f_answers : Option Addr} {sl_f_known_of sl_f_minute_of sl_f_place_of sl_f_is_known sl_f_drill_in sl_f_persons_in sl_f_news_in sl_f_is_good sl_f_greater_ones sl_f_many_unlike sl_f_bits_of sl_f_want sl_f_counted sl_s_init sl_s_in_drill sl_s_forget sl_s_here_and_now sl_s_news sl_s_message sl_s_persons_behind sl_s_many_new sl_s_hear sl_s_who_is_in sl_s_who_is_out sl_s_who_is_at sl_s_soonest sl_s_last_in sl_r_init sl_m_init sl_m_start sl_m_minutes sl_m_next_drill sl_m_come_in sl_m_tell sl_m_hear sl_m_where sl_m_missing sl_m_who_at sl_m_sure sl_m_news_of sl_m_soonest sl_m_would_hear sl_m_last sl_m_which sl_m_state sl_m_done sl_m_asked sl_m_answer sl_f_answers : Array (Option Value)}
    {oc_f_known_of kV_f_known_of dc_f_known_of pm_f_known_of cd_f_known_of ct_f_known_of oc_f_minute_of kV_f_minute_of dc_f_minute_of pm_f_minute_of cd_f_minute_of ct_f_minute_of oc_f_place_of kV_f_place_of dc_f_place_of pm_f_place_of cd_f_place_of ct_f_place_of oc_f_is_known kV_f_is_known dc_f_is_known pm_f_is_known cd_f_is_known ct_f_is_known oc_f_drill_in kV_f_drill_in dc_f_drill_in pm_f_drill_in cd_f_drill_in ct_f_drill_in oc_f_persons_in kV_f_persons_in dc_f_persons_in pm_f_persons_in cd_f_persons_in ct_f_persons_in oc_f_news_in kV_f_news_in dc_f_news_in pm_f_news_in cd_f_news_in ct_f_news_in oc_f_is_good kV_f_is_good dc_f_is_good pm_f_is_good cd_f_is_good ct_f_is_good oc_f_greater_ones kV_f_greater_ones dc_f_greater_ones pm_f_greater_ones cd_f_greater_ones ct_f_greater_ones oc_f_many_unlike kV_f_many_unlike dc_f_many_unlike pm_f_many_unlike cd_f_many_unlike ct_f_many_unlike oc_f_bits_of kV_f_bits_of dc_f_bits_of pm_f_bits_of cd_f_bits_of ct_f_bits_of oc_f_want kV_f_want dc_f_want pm_f_want cd_f_want ct_f_want oc_f_counted kV_f_counted dc_f_counted pm_f_counted cd_f_counted ct_f_counted oc_s_init kV_s_init dc_s_init pm_s_init cd_s_init ct_s_init oc_s_in_drill kV_s_in_drill dc_s_in_drill pm_s_in_drill cd_s_in_drill ct_s_in_drill oc_s_forget kV_s_forget dc_s_forget pm_s_forget cd_s_forget ct_s_forget oc_s_here_and_now kV_s_here_and_now dc_s_here_and_now pm_s_here_and_now cd_s_here_and_now ct_s_here_and_now oc_s_news kV_s_news dc_s_news pm_s_news cd_s_news ct_s_news oc_s_message kV_s_message dc_s_message pm_s_message cd_s_message ct_s_message oc_s_persons_behind kV_s_persons_behind dc_s_persons_behind pm_s_persons_behind cd_s_persons_behind ct_s_persons_behind oc_s_many_new kV_s_many_new dc_s_many_new pm_s_many_new cd_s_many_new ct_s_many_new oc_s_hear kV_s_hear dc_s_hear pm_s_hear cd_s_hear ct_s_hear oc_s_who_is_in kV_s_who_is_in dc_s_who_is_in pm_s_who_is_in cd_s_who_is_in ct_s_who_is_in oc_s_who_is_out kV_s_who_is_out dc_s_who_is_out pm_s_who_is_out cd_s_who_is_out ct_s_who_is_out oc_s_who_is_at kV_s_who_is_at dc_s_who_is_at pm_s_who_is_at cd_s_who_is_at ct_s_who_is_at oc_s_soonest kV_s_soonest dc_s_soonest pm_s_soonest cd_s_soonest ct_s_soonest oc_s_last_in kV_s_last_in dc_s_last_in pm_s_last_in cd_s_last_in ct_s_last_in oc_r_init kV_r_init dc_r_init pm_r_init cd_r_init ct_r_init oc_m_init kV_m_init dc_m_init pm_m_init cd_m_init ct_m_init oc_m_start kV_m_start dc_m_start pm_m_start cd_m_start ct_m_start oc_m_minutes kV_m_minutes dc_m_minutes pm_m_minutes cd_m_minutes ct_m_minutes oc_m_next_drill kV_m_next_drill dc_m_next_drill pm_m_next_drill cd_m_next_drill ct_m_next_drill oc_m_come_in kV_m_come_in dc_m_come_in pm_m_come_in cd_m_come_in ct_m_come_in oc_m_tell kV_m_tell dc_m_tell pm_m_tell cd_m_tell ct_m_tell oc_m_hear kV_m_hear dc_m_hear pm_m_hear cd_m_hear ct_m_hear oc_m_where kV_m_where dc_m_where pm_m_where cd_m_where ct_m_where oc_m_missing kV_m_missing dc_m_missing pm_m_missing cd_m_missing ct_m_missing oc_m_who_at kV_m_who_at dc_m_who_at pm_m_who_at cd_m_who_at ct_m_who_at oc_m_sure kV_m_sure dc_m_sure pm_m_sure cd_m_sure ct_m_sure oc_m_news_of kV_m_news_of dc_m_news_of pm_m_news_of cd_m_news_of ct_m_news_of oc_m_soonest kV_m_soonest dc_m_soonest pm_m_soonest cd_m_soonest ct_m_soonest oc_m_would_hear kV_m_would_hear dc_m_would_hear pm_m_would_hear cd_m_would_hear ct_m_would_hear oc_m_last kV_m_last dc_m_last pm_m_last cd_m_last ct_m_last oc_m_which kV_m_which dc_m_which pm_m_which cd_m_which ct_m_which oc_m_state kV_m_state dc_m_state pm_m_state cd_m_state ct_m_state oc_m_done kV_m_done dc_m_done pm_m_done cd_m_done ct_m_done oc_m_asked kV_m_asked dc_m_asked pm_m_asked cd_m_asked ct_m_asked oc_m_answer kV_m_answer dc_m_answer pm_m_answer cd_m_answer ct_m_answer oc_f_answers kV_f_answers dc_f_answers pm_f_answers cd_f_answers ct_f_answers : Value}
    {tk0 tk1 tk2 tk3 tk4 tk5 tk6 tk7 tk8 tk9 tk10 tk11 tk12 tk13 tk14 tk15 tk16 uw0 uw1 un0 un1 un2 un3 un4 un5 un6 un7 un8 un9 un10 un11 un12 un13 un14 un15 un16 : Tok} {dN dW : Option Addr} {nN nW : Nat} {slN slW : Array (Option Value)}
    {nmF qF : Str} {NF : Addr} {bsF : List Value} {snF : List Str} {subF : List Value} {abF : Bool} {colF : Option Bool} {ddF : Option Addr} {k0F k1F k2F k3F k5F : Option Value}
    (c0 : PySem.W.nsIn K mainGlobals "PERSONS" = some (some (.int 16 tk0)))
    (c1 : PySem.W.nsIn K mainGlobals "STATIONS" = some (some (.int 5 tk1)))
    (c2 : PySem.W.nsIn K mainGlobals "LAST_MINUTE" = some (some (.int 100000 tk2)))
    (c3 : PySem.W.nsIn K mainGlobals "LAST_DRILL" = some (some (.int 1000 tk3)))
    (c4 : PySem.W.nsIn K mainGlobals "BASE" = some (some (.int 8 tk4)))
    (c5 : PySem.W.nsIn K mainGlobals "MOST_HEARD" = some (some (.int 100000 tk5)))
    (c6 : PySem.W.nsIn K mainGlobals "NO_DRILL" = some (some (.int 0 tk6)))
    (c7 : PySem.W.nsIn K mainGlobals "NONE_SUCH" = some (some (.int (-2) tk7)))
    (c8 : PySem.W.nsIn K mainGlobals "NOTHING" = some (some (.int (-6) tk8)))
    (c9 : PySem.W.nsIn K mainGlobals "TOO_SOON" = some (some (.int (-13) tk9)))
    (c10 : PySem.W.nsIn K mainGlobals "NO_LESS" = some (some (.int (-17) tk10)))
    (c11 : PySem.W.nsIn K mainGlobals "OUT_OF_RANGE" = some (some (.int (-22) tk11)))
    (c12 : PySem.W.nsIn K mainGlobals "LAST_ONE" = some (some (.int (-28) tk12)))
    (c13 : PySem.W.nsIn K mainGlobals "NOT_GOOD" = some (some (.int (-71) tk13)))
    (c14 : PySem.W.nsIn K mainGlobals "TOO_LATE" = some (some (.int (-75) tk14)))
    (c15 : PySem.W.nsIn K mainGlobals "MOST_MINUTES" = some (some (.int 1440 tk15)))
    (c16 : PySem.W.nsIn K mainGlobals "OBJECTS" = some (some (.int 3 tk16)))
    (z0 : PySem.W.nsIn K mainGlobals "all" = some none)
    (z1 : PySem.W.nsIn K mainGlobals "zip" = some none)
    (z2 : PySem.W.nsIn K mainGlobals "max" = some none)
    (z3 : PySem.W.nsIn K mainGlobals "len" = some none)
    (z4 : PySem.W.nsIn K mainGlobals "sum" = some none)
    (z5 : PySem.W.nsIn K mainGlobals "list" = some none)
    (z6 : PySem.W.nsIn K mainGlobals "min" = some none)
    (z7 : PySem.W.nsIn K mainGlobals "enumerate" = some none)
    (z8 : PySem.W.nsIn K mainGlobals "ValueError" = some none)
    (gN : PySem.W.nsIn K mainGlobals "NUMBERS" = some (some (.ref tN)))
    (lN : K.lookup tN = some ⟨.type "tuple", dN, .seq #[.int 2 un0, .int 2 un1, .int 1 un2, .int 2 un3, .int 1 un4, .int 1 un5, .int 2 un6, .int 1 un7, .int 1 un8, .int 2 un9, .int 3 un10, .int 2 un11, .int 2 un12, .int 1 un13, .int 1 un14, .int 1 un15, .int 1 un16] nN, slN⟩)
    (gW : PySem.W.nsIn K mainGlobals "WITH_MESSAGE" = some (some (.ref tW)))
    (lW : K.lookup tW = some ⟨.type "tuple", dW, .seq #[.int 5 uw0, .int 13 uw1] nW, slW⟩)
    (aCS : PySem.W.nsIn K mainGlobals "Station" = some (some (.ref CS)))
    (pgCS : PySem.W.plainGet K CS Str.empty = true)
    (hdCS : PySem.W.hasDictIn K CS = true)
    (poCS : PySem.W.plainOver K CS = true)
    (saCS : PySem.W.findIn K (.ref CS) "__setattr__" = some (some (.builtin "object.__setattr__")))
    (mkCS : PySem.W.makesIn K CS = true)
    (kcCS : PySem.W.keepIn K (.ref CS) = true)
    (nCS_me : PySem.W.findIn K (.ref CS) "me" = some none)
    (nCS_minute : PySem.W.findIn K (.ref CS) "minute" = some none)
    (nCS_drill : PySem.W.findIn K (.ref CS) "drill" = some none)
    (nCS_persons : PySem.W.findIn K (.ref CS) "persons" = some none)
    (nCS_heard_of : PySem.W.findIn K (.ref CS) "heard_of" = some none)
    (nCS_many_heard : PySem.W.findIn K (.ref CS) "many_heard" = some none)
    (aCM : PySem.W.nsIn K mainGlobals "Muster" = some (some (.ref CM)))
    (pgCM : PySem.W.plainGet K CM Str.empty = true)
    (hdCM : PySem.W.hasDictIn K CM = true)
    (poCM : PySem.W.plainOver K CM = true)
    (saCM : PySem.W.findIn K (.ref CM) "__setattr__" = some (some (.builtin "object.__setattr__")))
    (mkCM : PySem.W.makesIn K CM = true)
    (kcCM : PySem.W.keepIn K (.ref CM) = true)
    (nCM_stations : PySem.W.findIn K (.ref CM) "stations" = some none)
    (aCF : PySem.W.nsIn K mainGlobals "Refused" = some (some (.ref CF)))
    (xL : K.lookup CF = some (PySem.excClassObj nmF qF CF NF bsF [.type "ValueError", .type "Exception", .type "BaseException", .type "object"] true snF subF abF colF ddF k0F k1F k2F k3F k5F "ValueError.__new__"))
    (saF : PySem.W.findIn K (.ref CF) "__setattr__" = some (some (.builtin "object.__setattr__")))
    (gaF : PySem.W.findIn K (.ref CF) "__getattribute__" = some (some (.builtin "BaseException.__getattribute__")))
    (ggF : PySem.W.findIn K (.ref CF) "__getattr__" = some none)
    (ncF : PySem.W.findIn K (.ref CF) "code" = some none)
    (kCF : PySem.W.keepIn K (.ref CF) = true)
    (eCF : PySem.W.subIn K (.ref CF) (.type "BaseException") = some true)
    (tCF : PySem.W.typeIn K (.ref CF) = some (.type "type"))
    (hCF : PySem.W.hasDictIn K CF = true)
    (iCF : PySem.W.isClsIn K CF = true)
    (sCF : PySem.W.subIn K (.ref CF) (.ref CF) = some true)
    (vV : PySem.W.findCls K (.type "ValueError") (.type "type") "__init__" = some (.val (.builtin "ValueError.__init__")))
    (a_f_known_of : PySem.W.nsIn K mainGlobals "known_of" = some (some (.ref f_known_of)))
    (l_f_known_of : K.lookup f_known_of = some ⟨oc_f_known_of, od_f_known_of, .func (PySem.W.fnOf "known_of" "known_of" (defArgs sKnownOf) (defBody sKnownOf) (defScope sKnownOf) .none kV_f_known_of dc_f_known_of pm_f_known_of an_f_known_of cd_f_known_of ct_f_known_of), sl_f_known_of⟩)
    (c_f_known_of : PySem.W.codeIn K cd_f_known_of "known_of" = true)
    (k_f_known_of : PySem.W.keepIn K (.ref f_known_of) = true)
    (a_f_minute_of : PySem.W.nsIn K mainGlobals "minute_of" = some (some (.ref f_minute_of)))
    (l_f_minute_of : K.lookup f_minute_of = some ⟨oc_f_minute_of, od_f_minute_of, .func (PySem.W.fnOf "minute_of" "minute_of" (defArgs sMinuteOf) (defBody sMinuteOf) (defScope sMinuteOf) .none kV_f_minute_of dc_f_minute_of pm_f_minute_of an_f_minute_of cd_f_minute_of ct_f_minute_of), sl_f_minute_of⟩)
    (c_f_minute_of : PySem.W.codeIn K cd_f_minute_of "minute_of" = true)
    (k_f_minute_of : PySem.W.keepIn K (.ref f_minute_of) = true)
    (a_f_place_of : PySem.W.nsIn K mainGlobals "place_of" = some (some (.ref f_place_of)))
    (l_f_place_of : K.lookup f_place_of = some ⟨oc_f_place_of, od_f_place_of, .func (PySem.W.fnOf "place_of" "place_of" (defArgs sPlaceOf) (defBody sPlaceOf) (defScope sPlaceOf) .none kV_f_place_of dc_f_place_of pm_f_place_of an_f_place_of cd_f_place_of ct_f_place_of), sl_f_place_of⟩)
    (c_f_place_of : PySem.W.codeIn K cd_f_place_of "place_of" = true)
    (k_f_place_of : PySem.W.keepIn K (.ref f_place_of) = true)
    (a_f_is_known : PySem.W.nsIn K mainGlobals "is_known" = some (some (.ref f_is_known)))
    (l_f_is_known : K.lookup f_is_known = some ⟨oc_f_is_known, od_f_is_known, .func (PySem.W.fnOf "is_known" "is_known" (defArgs sIsKnown) (defBody sIsKnown) (defScope sIsKnown) .none kV_f_is_known dc_f_is_known pm_f_is_known an_f_is_known cd_f_is_known ct_f_is_known), sl_f_is_known⟩)
    (c_f_is_known : PySem.W.codeIn K cd_f_is_known "is_known" = true)
    (k_f_is_known : PySem.W.keepIn K (.ref f_is_known) = true)
    (a_f_drill_in : PySem.W.nsIn K mainGlobals "drill_in" = some (some (.ref f_drill_in)))
    (l_f_drill_in : K.lookup f_drill_in = some ⟨oc_f_drill_in, od_f_drill_in, .func (PySem.W.fnOf "drill_in" "drill_in" (defArgs sDrillIn) (defBody sDrillIn) (defScope sDrillIn) .none kV_f_drill_in dc_f_drill_in pm_f_drill_in an_f_drill_in cd_f_drill_in ct_f_drill_in), sl_f_drill_in⟩)
    (c_f_drill_in : PySem.W.codeIn K cd_f_drill_in "drill_in" = true)
    (k_f_drill_in : PySem.W.keepIn K (.ref f_drill_in) = true)
    (a_f_persons_in : PySem.W.nsIn K mainGlobals "persons_in" = some (some (.ref f_persons_in)))
    (l_f_persons_in : K.lookup f_persons_in = some ⟨oc_f_persons_in, od_f_persons_in, .func (PySem.W.fnOf "persons_in" "persons_in" (defArgs sPersonsIn) (defBody sPersonsIn) (defScope sPersonsIn) .none kV_f_persons_in dc_f_persons_in pm_f_persons_in an_f_persons_in cd_f_persons_in ct_f_persons_in), sl_f_persons_in⟩)
    (c_f_persons_in : PySem.W.codeIn K cd_f_persons_in "persons_in" = true)
    (k_f_persons_in : PySem.W.keepIn K (.ref f_persons_in) = true)
    (a_f_news_in : PySem.W.nsIn K mainGlobals "news_in" = some (some (.ref f_news_in)))
    (l_f_news_in : K.lookup f_news_in = some ⟨oc_f_news_in, od_f_news_in, .func (PySem.W.fnOf "news_in" "news_in" (defArgs sNewsIn) (defBody sNewsIn) (defScope sNewsIn) .none kV_f_news_in dc_f_news_in pm_f_news_in an_f_news_in cd_f_news_in ct_f_news_in), sl_f_news_in⟩)
    (c_f_news_in : PySem.W.codeIn K cd_f_news_in "news_in" = true)
    (k_f_news_in : PySem.W.keepIn K (.ref f_news_in) = true)
    (a_f_is_good : PySem.W.nsIn K mainGlobals "is_good" = some (some (.ref f_is_good)))
    (l_f_is_good : K.lookup f_is_good = some ⟨oc_f_is_good, od_f_is_good, .func (PySem.W.fnOf "is_good" "is_good" (defArgs sIsGood) (defBody sIsGood) (defScope sIsGood) .none kV_f_is_good dc_f_is_good pm_f_is_good an_f_is_good cd_f_is_good ct_f_is_good), sl_f_is_good⟩)
    (c_f_is_good : PySem.W.codeIn K cd_f_is_good "is_good" = true)
    (k_f_is_good : PySem.W.keepIn K (.ref f_is_good) = true)
    (a_f_greater_ones : PySem.W.nsIn K mainGlobals "greater_ones" = some (some (.ref f_greater_ones)))
    (l_f_greater_ones : K.lookup f_greater_ones = some ⟨oc_f_greater_ones, od_f_greater_ones, .func (PySem.W.fnOf "greater_ones" "greater_ones" (defArgs sGreater) (defBody sGreater) (defScope sGreater) .none kV_f_greater_ones dc_f_greater_ones pm_f_greater_ones an_f_greater_ones cd_f_greater_ones ct_f_greater_ones), sl_f_greater_ones⟩)
    (c_f_greater_ones : PySem.W.codeIn K cd_f_greater_ones "greater_ones" = true)
    (k_f_greater_ones : PySem.W.keepIn K (.ref f_greater_ones) = true)
    (a_f_many_unlike : PySem.W.nsIn K mainGlobals "many_unlike" = some (some (.ref f_many_unlike)))
    (l_f_many_unlike : K.lookup f_many_unlike = some ⟨oc_f_many_unlike, od_f_many_unlike, .func (PySem.W.fnOf "many_unlike" "many_unlike" (defArgs sUnlike) (defBody sUnlike) (defScope sUnlike) .none kV_f_many_unlike dc_f_many_unlike pm_f_many_unlike an_f_many_unlike cd_f_many_unlike ct_f_many_unlike), sl_f_many_unlike⟩)
    (c_f_many_unlike : PySem.W.codeIn K cd_f_many_unlike "many_unlike" = true)
    (k_f_many_unlike : PySem.W.keepIn K (.ref f_many_unlike) = true)
    (a_f_bits_of : PySem.W.nsIn K mainGlobals "bits_of" = some (some (.ref f_bits_of)))
    (l_f_bits_of : K.lookup f_bits_of = some ⟨oc_f_bits_of, od_f_bits_of, .func (PySem.W.fnOf "bits_of" "bits_of" (defArgs sBits) (defBody sBits) (defScope sBits) .none kV_f_bits_of dc_f_bits_of pm_f_bits_of an_f_bits_of cd_f_bits_of ct_f_bits_of), sl_f_bits_of⟩)
    (c_f_bits_of : PySem.W.codeIn K cd_f_bits_of "bits_of" = true)
    (k_f_bits_of : PySem.W.keepIn K (.ref f_bits_of) = true)
    (a_f_want : PySem.W.nsIn K mainGlobals "want" = some (some (.ref f_want)))
    (l_f_want : K.lookup f_want = some ⟨oc_f_want, od_f_want, .func (PySem.W.fnOf "want" "want" (defArgs sWant) (defBody sWant) (defScope sWant) .none kV_f_want dc_f_want pm_f_want an_f_want cd_f_want ct_f_want), sl_f_want⟩)
    (c_f_want : PySem.W.codeIn K cd_f_want "want" = true)
    (k_f_want : PySem.W.keepIn K (.ref f_want) = true)
    (a_f_counted : PySem.W.nsIn K mainGlobals "counted" = some (some (.ref f_counted)))
    (l_f_counted : K.lookup f_counted = some ⟨oc_f_counted, od_f_counted, .func (PySem.W.fnOf "counted" "counted" (defArgs sCounted) (defBody sCounted) (defScope sCounted) .none kV_f_counted dc_f_counted pm_f_counted an_f_counted cd_f_counted ct_f_counted), sl_f_counted⟩)
    (c_f_counted : PySem.W.codeIn K cd_f_counted "counted" = true)
    (k_f_counted : PySem.W.keepIn K (.ref f_counted) = true)
    (a_s_init : PySem.W.findIn K (.ref CS) "__init__" = some (some (.ref s_init)))
    (i_s_init : PySem.W.isFn K (.ref s_init) = true)
    (l_s_init : K.lookup s_init = some ⟨oc_s_init, od_s_init, .func (PySem.W.fnOf "__init__" "Station.__init__" (defArgs sStInit) (defBody sStInit) (defScope sStInit) .none kV_s_init dc_s_init pm_s_init an_s_init cd_s_init ct_s_init), sl_s_init⟩)
    (c_s_init : PySem.W.codeIn K cd_s_init "Station.__init__" = true)
    (k_s_init : PySem.W.keepIn K (.ref s_init) = true)
    (a_s_in_drill : PySem.W.findIn K (.ref CS) "in_drill" = some (some (.ref s_in_drill)))
    (i_s_in_drill : PySem.W.isFn K (.ref s_in_drill) = true)
    (l_s_in_drill : K.lookup s_in_drill = some ⟨oc_s_in_drill, od_s_in_drill, .func (PySem.W.fnOf "in_drill" "Station.in_drill" (defArgs sInDrill) (defBody sInDrill) (defScope sInDrill) .none kV_s_in_drill dc_s_in_drill pm_s_in_drill an_s_in_drill cd_s_in_drill ct_s_in_drill), sl_s_in_drill⟩)
    (c_s_in_drill : PySem.W.codeIn K cd_s_in_drill "Station.in_drill" = true)
    (k_s_in_drill : PySem.W.keepIn K (.ref s_in_drill) = true)
    (a_s_forget : PySem.W.findIn K (.ref CS) "forget" = some (some (.ref s_forget)))
    (i_s_forget : PySem.W.isFn K (.ref s_forget) = true)
    (l_s_forget : K.lookup s_forget = some ⟨oc_s_forget, od_s_forget, .func (PySem.W.fnOf "forget" "Station.forget" (defArgs sForget) (defBody sForget) (defScope sForget) .none kV_s_forget dc_s_forget pm_s_forget an_s_forget cd_s_forget ct_s_forget), sl_s_forget⟩)
    (c_s_forget : PySem.W.codeIn K cd_s_forget "Station.forget" = true)
    (k_s_forget : PySem.W.keepIn K (.ref s_forget) = true)
    (a_s_here_and_now : PySem.W.findIn K (.ref CS) "here_and_now" = some (some (.ref s_here_and_now)))
    (i_s_here_and_now : PySem.W.isFn K (.ref s_here_and_now) = true)
    (l_s_here_and_now : K.lookup s_here_and_now = some ⟨oc_s_here_and_now, od_s_here_and_now, .func (PySem.W.fnOf "here_and_now" "Station.here_and_now" (defArgs sNow) (defBody sNow) (defScope sNow) .none kV_s_here_and_now dc_s_here_and_now pm_s_here_and_now an_s_here_and_now cd_s_here_and_now ct_s_here_and_now), sl_s_here_and_now⟩)
    (c_s_here_and_now : PySem.W.codeIn K cd_s_here_and_now "Station.here_and_now" = true)
    (k_s_here_and_now : PySem.W.keepIn K (.ref s_here_and_now) = true)
    (a_s_news : PySem.W.findIn K (.ref CS) "news" = some (some (.ref s_news)))
    (i_s_news : PySem.W.isFn K (.ref s_news) = true)
    (l_s_news : K.lookup s_news = some ⟨oc_s_news, od_s_news, .func (PySem.W.fnOf "news" "Station.news" (defArgs sNews) (defBody sNews) (defScope sNews) .none kV_s_news dc_s_news pm_s_news an_s_news cd_s_news ct_s_news), sl_s_news⟩)
    (c_s_news : PySem.W.codeIn K cd_s_news "Station.news" = true)
    (k_s_news : PySem.W.keepIn K (.ref s_news) = true)
    (a_s_message : PySem.W.findIn K (.ref CS) "message" = some (some (.ref s_message)))
    (i_s_message : PySem.W.isFn K (.ref s_message) = true)
    (l_s_message : K.lookup s_message = some ⟨oc_s_message, od_s_message, .func (PySem.W.fnOf "message" "Station.message" (defArgs sMessage) (defBody sMessage) (defScope sMessage) .none kV_s_message dc_s_message pm_s_message an_s_message cd_s_message ct_s_message), sl_s_message⟩)
    (c_s_message : PySem.W.codeIn K cd_s_message "Station.message" = true)
    (k_s_message : PySem.W.keepIn K (.ref s_message) = true)
    (a_s_persons_behind : PySem.W.findIn K (.ref CS) "persons_behind" = some (some (.ref s_persons_behind)))
    (i_s_persons_behind : PySem.W.isFn K (.ref s_persons_behind) = true)
    (l_s_persons_behind : K.lookup s_persons_behind = some ⟨oc_s_persons_behind, od_s_persons_behind, .func (PySem.W.fnOf "persons_behind" "Station.persons_behind" (defArgs sBehind) (defBody sBehind) (defScope sBehind) .none kV_s_persons_behind dc_s_persons_behind pm_s_persons_behind an_s_persons_behind cd_s_persons_behind ct_s_persons_behind), sl_s_persons_behind⟩)
    (c_s_persons_behind : PySem.W.codeIn K cd_s_persons_behind "Station.persons_behind" = true)
    (k_s_persons_behind : PySem.W.keepIn K (.ref s_persons_behind) = true)
    (a_s_many_new : PySem.W.findIn K (.ref CS) "many_new" = some (some (.ref s_many_new)))
    (i_s_many_new : PySem.W.isFn K (.ref s_many_new) = true)
    (l_s_many_new : K.lookup s_many_new = some ⟨oc_s_many_new, od_s_many_new, .func (PySem.W.fnOf "many_new" "Station.many_new" (defArgs sManyNew) (defBody sManyNew) (defScope sManyNew) .none kV_s_many_new dc_s_many_new pm_s_many_new an_s_many_new cd_s_many_new ct_s_many_new), sl_s_many_new⟩)
    (c_s_many_new : PySem.W.codeIn K cd_s_many_new "Station.many_new" = true)
    (k_s_many_new : PySem.W.keepIn K (.ref s_many_new) = true)
    (a_s_hear : PySem.W.findIn K (.ref CS) "hear" = some (some (.ref s_hear)))
    (i_s_hear : PySem.W.isFn K (.ref s_hear) = true)
    (l_s_hear : K.lookup s_hear = some ⟨oc_s_hear, od_s_hear, .func (PySem.W.fnOf "hear" "Station.hear" (defArgs sHear) (defBody sHear) (defScope sHear) .none kV_s_hear dc_s_hear pm_s_hear an_s_hear cd_s_hear ct_s_hear), sl_s_hear⟩)
    (c_s_hear : PySem.W.codeIn K cd_s_hear "Station.hear" = true)
    (k_s_hear : PySem.W.keepIn K (.ref s_hear) = true)
    (a_s_who_is_in : PySem.W.findIn K (.ref CS) "who_is_in" = some (some (.ref s_who_is_in)))
    (i_s_who_is_in : PySem.W.isFn K (.ref s_who_is_in) = true)
    (l_s_who_is_in : K.lookup s_who_is_in = some ⟨oc_s_who_is_in, od_s_who_is_in, .func (PySem.W.fnOf "who_is_in" "Station.who_is_in" (defArgs sWhoIn) (defBody sWhoIn) (defScope sWhoIn) .none kV_s_who_is_in dc_s_who_is_in pm_s_who_is_in an_s_who_is_in cd_s_who_is_in ct_s_who_is_in), sl_s_who_is_in⟩)
    (c_s_who_is_in : PySem.W.codeIn K cd_s_who_is_in "Station.who_is_in" = true)
    (k_s_who_is_in : PySem.W.keepIn K (.ref s_who_is_in) = true)
    (a_s_who_is_out : PySem.W.findIn K (.ref CS) "who_is_out" = some (some (.ref s_who_is_out)))
    (i_s_who_is_out : PySem.W.isFn K (.ref s_who_is_out) = true)
    (l_s_who_is_out : K.lookup s_who_is_out = some ⟨oc_s_who_is_out, od_s_who_is_out, .func (PySem.W.fnOf "who_is_out" "Station.who_is_out" (defArgs sWhoOut) (defBody sWhoOut) (defScope sWhoOut) .none kV_s_who_is_out dc_s_who_is_out pm_s_who_is_out an_s_who_is_out cd_s_who_is_out ct_s_who_is_out), sl_s_who_is_out⟩)
    (c_s_who_is_out : PySem.W.codeIn K cd_s_who_is_out "Station.who_is_out" = true)
    (k_s_who_is_out : PySem.W.keepIn K (.ref s_who_is_out) = true)
    (a_s_who_is_at : PySem.W.findIn K (.ref CS) "who_is_at" = some (some (.ref s_who_is_at)))
    (i_s_who_is_at : PySem.W.isFn K (.ref s_who_is_at) = true)
    (l_s_who_is_at : K.lookup s_who_is_at = some ⟨oc_s_who_is_at, od_s_who_is_at, .func (PySem.W.fnOf "who_is_at" "Station.who_is_at" (defArgs sWhoAt) (defBody sWhoAt) (defScope sWhoAt) .none kV_s_who_is_at dc_s_who_is_at pm_s_who_is_at an_s_who_is_at cd_s_who_is_at ct_s_who_is_at), sl_s_who_is_at⟩)
    (c_s_who_is_at : PySem.W.codeIn K cd_s_who_is_at "Station.who_is_at" = true)
    (k_s_who_is_at : PySem.W.keepIn K (.ref s_who_is_at) = true)
    (a_s_soonest : PySem.W.findIn K (.ref CS) "soonest" = some (some (.ref s_soonest)))
    (i_s_soonest : PySem.W.isFn K (.ref s_soonest) = true)
    (l_s_soonest : K.lookup s_soonest = some ⟨oc_s_soonest, od_s_soonest, .func (PySem.W.fnOf "soonest" "Station.soonest" (defArgs sSoonest) (defBody sSoonest) (defScope sSoonest) .none kV_s_soonest dc_s_soonest pm_s_soonest an_s_soonest cd_s_soonest ct_s_soonest), sl_s_soonest⟩)
    (c_s_soonest : PySem.W.codeIn K cd_s_soonest "Station.soonest" = true)
    (k_s_soonest : PySem.W.keepIn K (.ref s_soonest) = true)
    (a_s_last_in : PySem.W.findIn K (.ref CS) "last_in" = some (some (.ref s_last_in)))
    (i_s_last_in : PySem.W.isFn K (.ref s_last_in) = true)
    (l_s_last_in : K.lookup s_last_in = some ⟨oc_s_last_in, od_s_last_in, .func (PySem.W.fnOf "last_in" "Station.last_in" (defArgs sLastIn) (defBody sLastIn) (defScope sLastIn) .none kV_s_last_in dc_s_last_in pm_s_last_in an_s_last_in cd_s_last_in ct_s_last_in), sl_s_last_in⟩)
    (c_s_last_in : PySem.W.codeIn K cd_s_last_in "Station.last_in" = true)
    (k_s_last_in : PySem.W.keepIn K (.ref s_last_in) = true)
    (a_r_init : PySem.W.findIn K (.ref CF) "__init__" = some (some (.ref r_init)))
    (i_r_init : PySem.W.isFn K (.ref r_init) = true)
    (t_r_init : PySem.W.typeIn K (.ref r_init) = some (.type "function"))
    (l_r_init : K.lookup r_init = some ⟨oc_r_init, od_r_init, .func (PySem.W.fnOf "__init__" "Refused.__init__" (defArgs sRefInit) (defBody sRefInit) (defScope sRefInit) .none kV_r_init dc_r_init pm_r_init an_r_init cd_r_init ct_r_init), sl_r_init⟩)
    (c_r_init : PySem.W.codeIn K cd_r_init "Refused.__init__" = true)
    (k_r_init : PySem.W.keepIn K (.ref r_init) = true)
    (a_m_init : PySem.W.findIn K (.ref CM) "__init__" = some (some (.ref m_init)))
    (i_m_init : PySem.W.isFn K (.ref m_init) = true)
    (l_m_init : K.lookup m_init = some ⟨oc_m_init, od_m_init, .func (PySem.W.fnOf "__init__" "Muster.__init__" (defArgs sMuInit) (defBody sMuInit) (defScope sMuInit) .none kV_m_init dc_m_init pm_m_init an_m_init cd_m_init ct_m_init), sl_m_init⟩)
    (c_m_init : PySem.W.codeIn K cd_m_init "Muster.__init__" = true)
    (k_m_init : PySem.W.keepIn K (.ref m_init) = true)
    (a_m_start : PySem.W.findIn K (.ref CM) "start" = some (some (.ref m_start)))
    (i_m_start : PySem.W.isFn K (.ref m_start) = true)
    (l_m_start : K.lookup m_start = some ⟨oc_m_start, od_m_start, .func (PySem.W.fnOf "start" "Muster.start" (defArgs sStart) (defBody sStart) (defScope sStart) .none kV_m_start dc_m_start pm_m_start an_m_start cd_m_start ct_m_start), sl_m_start⟩)
    (c_m_start : PySem.W.codeIn K cd_m_start "Muster.start" = true)
    (k_m_start : PySem.W.keepIn K (.ref m_start) = true)
    (a_m_minutes : PySem.W.findIn K (.ref CM) "minutes" = some (some (.ref m_minutes)))
    (i_m_minutes : PySem.W.isFn K (.ref m_minutes) = true)
    (l_m_minutes : K.lookup m_minutes = some ⟨oc_m_minutes, od_m_minutes, .func (PySem.W.fnOf "minutes" "Muster.minutes" (defArgs sMinutes) (defBody sMinutes) (defScope sMinutes) .none kV_m_minutes dc_m_minutes pm_m_minutes an_m_minutes cd_m_minutes ct_m_minutes), sl_m_minutes⟩)
    (c_m_minutes : PySem.W.codeIn K cd_m_minutes "Muster.minutes" = true)
    (k_m_minutes : PySem.W.keepIn K (.ref m_minutes) = true)
    (a_m_next_drill : PySem.W.findIn K (.ref CM) "next_drill" = some (some (.ref m_next_drill)))
    (i_m_next_drill : PySem.W.isFn K (.ref m_next_drill) = true)
    (l_m_next_drill : K.lookup m_next_drill = some ⟨oc_m_next_drill, od_m_next_drill, .func (PySem.W.fnOf "next_drill" "Muster.next_drill" (defArgs sNextDrill) (defBody sNextDrill) (defScope sNextDrill) .none kV_m_next_drill dc_m_next_drill pm_m_next_drill an_m_next_drill cd_m_next_drill ct_m_next_drill), sl_m_next_drill⟩)
    (c_m_next_drill : PySem.W.codeIn K cd_m_next_drill "Muster.next_drill" = true)
    (k_m_next_drill : PySem.W.keepIn K (.ref m_next_drill) = true)
    (a_m_come_in : PySem.W.findIn K (.ref CM) "come_in" = some (some (.ref m_come_in)))
    (i_m_come_in : PySem.W.isFn K (.ref m_come_in) = true)
    (l_m_come_in : K.lookup m_come_in = some ⟨oc_m_come_in, od_m_come_in, .func (PySem.W.fnOf "come_in" "Muster.come_in" (defArgs sComeIn) (defBody sComeIn) (defScope sComeIn) .none kV_m_come_in dc_m_come_in pm_m_come_in an_m_come_in cd_m_come_in ct_m_come_in), sl_m_come_in⟩)
    (c_m_come_in : PySem.W.codeIn K cd_m_come_in "Muster.come_in" = true)
    (k_m_come_in : PySem.W.keepIn K (.ref m_come_in) = true)
    (a_m_tell : PySem.W.findIn K (.ref CM) "tell" = some (some (.ref m_tell)))
    (i_m_tell : PySem.W.isFn K (.ref m_tell) = true)
    (l_m_tell : K.lookup m_tell = some ⟨oc_m_tell, od_m_tell, .func (PySem.W.fnOf "tell" "Muster.tell" (defArgs sTell) (defBody sTell) (defScope sTell) .none kV_m_tell dc_m_tell pm_m_tell an_m_tell cd_m_tell ct_m_tell), sl_m_tell⟩)
    (c_m_tell : PySem.W.codeIn K cd_m_tell "Muster.tell" = true)
    (k_m_tell : PySem.W.keepIn K (.ref m_tell) = true)
    (a_m_hear : PySem.W.findIn K (.ref CM) "hear" = some (some (.ref m_hear)))
    (i_m_hear : PySem.W.isFn K (.ref m_hear) = true)
    (l_m_hear : K.lookup m_hear = some ⟨oc_m_hear, od_m_hear, .func (PySem.W.fnOf "hear" "Muster.hear" (defArgs sHearM) (defBody sHearM) (defScope sHearM) .none kV_m_hear dc_m_hear pm_m_hear an_m_hear cd_m_hear ct_m_hear), sl_m_hear⟩)
    (c_m_hear : PySem.W.codeIn K cd_m_hear "Muster.hear" = true)
    (k_m_hear : PySem.W.keepIn K (.ref m_hear) = true)
    (a_m_where : PySem.W.findIn K (.ref CM) "where" = some (some (.ref m_where)))
    (i_m_where : PySem.W.isFn K (.ref m_where) = true)
    (l_m_where : K.lookup m_where = some ⟨oc_m_where, od_m_where, .func (PySem.W.fnOf "where" "Muster.where" (defArgs sWhere) (defBody sWhere) (defScope sWhere) .none kV_m_where dc_m_where pm_m_where an_m_where cd_m_where ct_m_where), sl_m_where⟩)
    (c_m_where : PySem.W.codeIn K cd_m_where "Muster.where" = true)
    (k_m_where : PySem.W.keepIn K (.ref m_where) = true)
    (a_m_missing : PySem.W.findIn K (.ref CM) "missing" = some (some (.ref m_missing)))
    (i_m_missing : PySem.W.isFn K (.ref m_missing) = true)
    (l_m_missing : K.lookup m_missing = some ⟨oc_m_missing, od_m_missing, .func (PySem.W.fnOf "missing" "Muster.missing" (defArgs sMissing) (defBody sMissing) (defScope sMissing) .none kV_m_missing dc_m_missing pm_m_missing an_m_missing cd_m_missing ct_m_missing), sl_m_missing⟩)
    (c_m_missing : PySem.W.codeIn K cd_m_missing "Muster.missing" = true)
    (k_m_missing : PySem.W.keepIn K (.ref m_missing) = true)
    (a_m_who_at : PySem.W.findIn K (.ref CM) "who_at" = some (some (.ref m_who_at)))
    (i_m_who_at : PySem.W.isFn K (.ref m_who_at) = true)
    (l_m_who_at : K.lookup m_who_at = some ⟨oc_m_who_at, od_m_who_at, .func (PySem.W.fnOf "who_at" "Muster.who_at" (defArgs sWhoAtM) (defBody sWhoAtM) (defScope sWhoAtM) .none kV_m_who_at dc_m_who_at pm_m_who_at an_m_who_at cd_m_who_at ct_m_who_at), sl_m_who_at⟩)
    (c_m_who_at : PySem.W.codeIn K cd_m_who_at "Muster.who_at" = true)
    (k_m_who_at : PySem.W.keepIn K (.ref m_who_at) = true)
    (a_m_sure : PySem.W.findIn K (.ref CM) "sure" = some (some (.ref m_sure)))
    (i_m_sure : PySem.W.isFn K (.ref m_sure) = true)
    (l_m_sure : K.lookup m_sure = some ⟨oc_m_sure, od_m_sure, .func (PySem.W.fnOf "sure" "Muster.sure" (defArgs sSure) (defBody sSure) (defScope sSure) .none kV_m_sure dc_m_sure pm_m_sure an_m_sure cd_m_sure ct_m_sure), sl_m_sure⟩)
    (c_m_sure : PySem.W.codeIn K cd_m_sure "Muster.sure" = true)
    (k_m_sure : PySem.W.keepIn K (.ref m_sure) = true)
    (a_m_news_of : PySem.W.findIn K (.ref CM) "news_of" = some (some (.ref m_news_of)))
    (i_m_news_of : PySem.W.isFn K (.ref m_news_of) = true)
    (l_m_news_of : K.lookup m_news_of = some ⟨oc_m_news_of, od_m_news_of, .func (PySem.W.fnOf "news_of" "Muster.news_of" (defArgs sNewsOf) (defBody sNewsOf) (defScope sNewsOf) .none kV_m_news_of dc_m_news_of pm_m_news_of an_m_news_of cd_m_news_of ct_m_news_of), sl_m_news_of⟩)
    (c_m_news_of : PySem.W.codeIn K cd_m_news_of "Muster.news_of" = true)
    (k_m_news_of : PySem.W.keepIn K (.ref m_news_of) = true)
    (a_m_soonest : PySem.W.findIn K (.ref CM) "soonest" = some (some (.ref m_soonest)))
    (i_m_soonest : PySem.W.isFn K (.ref m_soonest) = true)
    (l_m_soonest : K.lookup m_soonest = some ⟨oc_m_soonest, od_m_soonest, .func (PySem.W.fnOf "soonest" "Muster.soonest" (defArgs sSoonestM) (defBody sSoonestM) (defScope sSoonestM) .none kV_m_soonest dc_m_soonest pm_m_soonest an_m_soonest cd_m_soonest ct_m_soonest), sl_m_soonest⟩)
    (c_m_soonest : PySem.W.codeIn K cd_m_soonest "Muster.soonest" = true)
    (k_m_soonest : PySem.W.keepIn K (.ref m_soonest) = true)
    (a_m_would_hear : PySem.W.findIn K (.ref CM) "would_hear" = some (some (.ref m_would_hear)))
    (i_m_would_hear : PySem.W.isFn K (.ref m_would_hear) = true)
    (l_m_would_hear : K.lookup m_would_hear = some ⟨oc_m_would_hear, od_m_would_hear, .func (PySem.W.fnOf "would_hear" "Muster.would_hear" (defArgs sWould) (defBody sWould) (defScope sWould) .none kV_m_would_hear dc_m_would_hear pm_m_would_hear an_m_would_hear cd_m_would_hear ct_m_would_hear), sl_m_would_hear⟩)
    (c_m_would_hear : PySem.W.codeIn K cd_m_would_hear "Muster.would_hear" = true)
    (k_m_would_hear : PySem.W.keepIn K (.ref m_would_hear) = true)
    (a_m_last : PySem.W.findIn K (.ref CM) "last" = some (some (.ref m_last)))
    (i_m_last : PySem.W.isFn K (.ref m_last) = true)
    (l_m_last : K.lookup m_last = some ⟨oc_m_last, od_m_last, .func (PySem.W.fnOf "last" "Muster.last" (defArgs sLast) (defBody sLast) (defScope sLast) .none kV_m_last dc_m_last pm_m_last an_m_last cd_m_last ct_m_last), sl_m_last⟩)
    (c_m_last : PySem.W.codeIn K cd_m_last "Muster.last" = true)
    (k_m_last : PySem.W.keepIn K (.ref m_last) = true)
    (a_m_which : PySem.W.findIn K (.ref CM) "which" = some (some (.ref m_which)))
    (i_m_which : PySem.W.isFn K (.ref m_which) = true)
    (l_m_which : K.lookup m_which = some ⟨oc_m_which, od_m_which, .func (PySem.W.fnOf "which" "Muster.which" (defArgs sWhich) (defBody sWhich) (defScope sWhich) .none kV_m_which dc_m_which pm_m_which an_m_which cd_m_which ct_m_which), sl_m_which⟩)
    (c_m_which : PySem.W.codeIn K cd_m_which "Muster.which" = true)
    (k_m_which : PySem.W.keepIn K (.ref m_which) = true)
    (a_m_state : PySem.W.findIn K (.ref CM) "state" = some (some (.ref m_state)))
    (i_m_state : PySem.W.isFn K (.ref m_state) = true)
    (l_m_state : K.lookup m_state = some ⟨oc_m_state, od_m_state, .func (PySem.W.fnOf "state" "Muster.state" (defArgs sState) (defBody sState) (defScope sState) .none kV_m_state dc_m_state pm_m_state an_m_state cd_m_state ct_m_state), sl_m_state⟩)
    (c_m_state : PySem.W.codeIn K cd_m_state "Muster.state" = true)
    (k_m_state : PySem.W.keepIn K (.ref m_state) = true)
    (a_m_done : PySem.W.findIn K (.ref CM) "done" = some (some (.ref m_done)))
    (i_m_done : PySem.W.isFn K (.ref m_done) = true)
    (l_m_done : K.lookup m_done = some ⟨oc_m_done, od_m_done, .func (PySem.W.fnOf "done" "Muster.done" (defArgs sDone) (defBody sDone) (defScope sDone) .none kV_m_done dc_m_done pm_m_done an_m_done cd_m_done ct_m_done), sl_m_done⟩)
    (c_m_done : PySem.W.codeIn K cd_m_done "Muster.done" = true)
    (k_m_done : PySem.W.keepIn K (.ref m_done) = true)
    (a_m_asked : PySem.W.findIn K (.ref CM) "asked" = some (some (.ref m_asked)))
    (i_m_asked : PySem.W.isFn K (.ref m_asked) = true)
    (l_m_asked : K.lookup m_asked = some ⟨oc_m_asked, od_m_asked, .func (PySem.W.fnOf "asked" "Muster.asked" (defArgs sAsked) (defBody sAsked) (defScope sAsked) .none kV_m_asked dc_m_asked pm_m_asked an_m_asked cd_m_asked ct_m_asked), sl_m_asked⟩)
    (c_m_asked : PySem.W.codeIn K cd_m_asked "Muster.asked" = true)
    (k_m_asked : PySem.W.keepIn K (.ref m_asked) = true)
    (a_m_answer : PySem.W.findIn K (.ref CM) "answer" = some (some (.ref m_answer)))
    (i_m_answer : PySem.W.isFn K (.ref m_answer) = true)
    (l_m_answer : K.lookup m_answer = some ⟨oc_m_answer, od_m_answer, .func (PySem.W.fnOf "answer" "Muster.answer" (defArgs sAnswer) (defBody sAnswer) (defScope sAnswer) .none kV_m_answer dc_m_answer pm_m_answer an_m_answer cd_m_answer ct_m_answer), sl_m_answer⟩)
    (c_m_answer : PySem.W.codeIn K cd_m_answer "Muster.answer" = true)
    (k_m_answer : PySem.W.keepIn K (.ref m_answer) = true)
    (a_f_answers : PySem.W.nsIn K mainGlobals "answers" = some (some (.ref f_answers)))
    (l_f_answers : K.lookup f_answers = some ⟨oc_f_answers, od_f_answers, .func (PySem.W.fnOf "answers" "answers" (defArgs sAnswers) (defBody sAnswers) (defScope sAnswers) .none kV_f_answers dc_f_answers pm_f_answers an_f_answers cd_f_answers ct_f_answers), sl_f_answers⟩)
    (c_f_answers : PySem.W.codeIn K cd_f_answers "answers" = true)
    (k_f_answers : PySem.W.keepIn K (.ref f_answers) = true)
    : ∃ fd : FuncData, (∀ (s : Shared) (us : List Value), us.length = (["calls"] : List Str).length → BindsTo s fd ⟨us, []⟩ ((["calls"] : List Str).zip us)) ∧ ∀ base : Heap, K.In base → base.Ns mainGlobals mg → FnOk P w K mg base CX0 7 fa fd ["calls"] (spAnswers K) := by
  have e := hfa.symm.trans (PySem.W.mg_of X G a_f_answers)
  cases e
  have kPERSONS : Kon mg "PERSONS" 16 := ⟨_, PySem.W.mg_of X G c0⟩
  have kSTATIONS : Kon mg "STATIONS" 5 := ⟨_, PySem.W.mg_of X G c1⟩
  have kLAST_MINUTE : Kon mg "LAST_MINUTE" 100000 := ⟨_, PySem.W.mg_of X G c2⟩
  have kLAST_DRILL : Kon mg "LAST_DRILL" 1000 := ⟨_, PySem.W.mg_of X G c3⟩
  have kBASE : Kon mg "BASE" 8 := ⟨_, PySem.W.mg_of X G c4⟩
  have kMOST_HEARD : Kon mg "MOST_HEARD" 100000 := ⟨_, PySem.W.mg_of X G c5⟩
  have kNO_DRILL : Kon mg "NO_DRILL" 0 := ⟨_, PySem.W.mg_of X G c6⟩
  have kNONE_SUCH : Kon mg "NONE_SUCH" (-2) := ⟨_, PySem.W.mg_of X G c7⟩
  have kNOTHING : Kon mg "NOTHING" (-6) := ⟨_, PySem.W.mg_of X G c8⟩
  have kTOO_SOON : Kon mg "TOO_SOON" (-13) := ⟨_, PySem.W.mg_of X G c9⟩
  have kNO_LESS : Kon mg "NO_LESS" (-17) := ⟨_, PySem.W.mg_of X G c10⟩
  have kOUT_OF_RANGE : Kon mg "OUT_OF_RANGE" (-22) := ⟨_, PySem.W.mg_of X G c11⟩
  have kLAST_ONE : Kon mg "LAST_ONE" (-28) := ⟨_, PySem.W.mg_of X G c12⟩
  have kNOT_GOOD : Kon mg "NOT_GOOD" (-71) := ⟨_, PySem.W.mg_of X G c13⟩
  have kTOO_LATE : Kon mg "TOO_LATE" (-75) := ⟨_, PySem.W.mg_of X G c14⟩
  have kMOST_MINUTES : Kon mg "MOST_MINUTES" 1440 := ⟨_, PySem.W.mg_of X G c15⟩
  have kOBJECTS : Kon mg "OBJECTS" 3 := ⟨_, PySem.W.mg_of X G c16⟩
  have gall : mg "all" = none := PySem.W.mg_none_of X G z0
  have gzip : mg "zip" = none := PySem.W.mg_none_of X G z1
  have gmax : mg "max" = none := PySem.W.mg_none_of X G z2
  have glen : mg "len" = none := PySem.W.mg_none_of X G z3
  have gsum : mg "sum" = none := PySem.W.mg_none_of X G z4
  have glist : mg "list" = none := PySem.W.mg_none_of X G z5
  have gmin : mg "min" = none := PySem.W.mg_none_of X G z6
  have genumerate : mg "enumerate" = none := PySem.W.mg_none_of X G z7
  have gValueError : mg "ValueError" = none := PySem.W.mg_none_of X G z8
  have TT : TTup K mg tN tW := ⟨PySem.W.mg_of X G gN, fun H => .inr ⟨_, _, _, lN, rfl, rfl, (by show 17 ≤ sizeLine; exact le_line (by decide)), (.cons ⟨_, rfl⟩ (.cons ⟨_, rfl⟩ (.cons ⟨_, rfl⟩ (.cons ⟨_, rfl⟩ (.cons ⟨_, rfl⟩ (.cons ⟨_, rfl⟩ (.cons ⟨_, rfl⟩ (.cons ⟨_, rfl⟩ (.cons ⟨_, rfl⟩ (.cons ⟨_, rfl⟩ (.cons ⟨_, rfl⟩ (.cons ⟨_, rfl⟩ (.cons ⟨_, rfl⟩ (.cons ⟨_, rfl⟩ (.cons ⟨_, rfl⟩ (.cons ⟨_, rfl⟩ (.cons ⟨_, rfl⟩ .nil)))))))))))))))))⟩, PySem.W.mg_of X G gW, fun H => .inr ⟨_, _, _, lW, rfl, rfl, (by show 2 ≤ sizeLine; exact le_line (by decide)), (.cons ⟨_, rfl⟩ (.cons ⟨_, rfl⟩ .nil))⟩⟩
  have TS : TSt K CS := ⟨⟨pgCS, hdCS, poCS, saCS⟩, nCS_me, nCS_minute, nCS_drill, nCS_persons, nCS_heard_of, nCS_many_heard⟩
  have TM : TMu K CM := ⟨⟨pgCM, hdCM, poCM, saCM⟩, nCM_stations⟩
  have TR : TRef K mg CF :=
    ⟨⟨⟨_, _, _, _, _, _, _, _, _, _, _, _, _, _, _, xL, by decide +kernel⟩, saF, eCF, tCF, kCF⟩, ncF, PySem.W.mg_of X G aCF, gValueError, vV, exm_self eCF iCF tCF sCF, ⟨gaF, ggF, eCF, hCF⟩⟩
  have F_f_known_of := fun_mk (st := sKnownOf) l_f_known_of c_f_known_of k_f_known_of
  have b_f_known_of := F_f_known_of.binds (ps := ["minute", "place"]) fun _ _ _ _ _ _ us hl => match us, hl with | [_, _], _ => rfl
  have F_f_minute_of := fun_mk (st := sMinuteOf) l_f_minute_of c_f_minute_of k_f_minute_of
  have b_f_minute_of := F_f_minute_of.binds (ps := ["known"]) fun _ _ _ _ _ _ us hl => match us, hl with | [_], _ => rfl
  have F_f_place_of := fun_mk (st := sPlaceOf) l_f_place_of c_f_place_of k_f_place_of
  have b_f_place_of := F_f_place_of.binds (ps := ["known"]) fun _ _ _ _ _ _ us hl => match us, hl with | [_], _ => rfl
  have F_f_is_known := fun_mk (st := sIsKnown) l_f_is_known c_f_is_known k_f_is_known
  have b_f_is_known := F_f_is_known.binds (ps := ["known"]) fun _ _ _ _ _ _ us hl => match us, hl with | [_], _ => rfl
  have F_f_drill_in := fun_mk (st := sDrillIn) l_f_drill_in c_f_drill_in k_f_drill_in
  have b_f_drill_in := F_f_drill_in.binds (ps := ["message"]) fun _ _ _ _ _ _ us hl => match us, hl with | [_], _ => rfl
  have F_f_persons_in := fun_mk (st := sPersonsIn) l_f_persons_in c_f_persons_in k_f_persons_in
  have b_f_persons_in := F_f_persons_in.binds (ps := ["message"]) fun _ _ _ _ _ _ us hl => match us, hl with | [_], _ => rfl
  have F_f_news_in := fun_mk (st := sNewsIn) l_f_news_in c_f_news_in k_f_news_in
  have b_f_news_in := F_f_news_in.binds (ps := ["message"]) fun _ _ _ _ _ _ us hl => match us, hl with | [_], _ => rfl
  have F_f_is_good := fun_mk (st := sIsGood) l_f_is_good c_f_is_good k_f_is_good
  have b_f_is_good := F_f_is_good.binds (ps := ["message"]) fun _ _ _ _ _ _ us hl => match us, hl with | [_], _ => rfl
  have F_f_greater_ones := fun_mk (st := sGreater) l_f_greater_ones c_f_greater_ones k_f_greater_ones
  have b_f_greater_ones := F_f_greater_ones.binds (ps := ["some", "others"]) fun _ _ _ _ _ _ us hl => match us, hl with | [_, _], _ => rfl
  have F_f_many_unlike := fun_mk (st := sUnlike) l_f_many_unlike c_f_many_unlike k_f_many_unlike
  have b_f_many_unlike := F_f_many_unlike.binds (ps := ["some", "others"]) fun _ _ _ _ _ _ us hl => match us, hl with | [_, _], _ => rfl
  have F_f_bits_of := fun_mk (st := sBits) l_f_bits_of c_f_bits_of k_f_bits_of
  have b_f_bits_of := F_f_bits_of.binds (ps := ["numbers"]) fun _ _ _ _ _ _ us hl => match us, hl with | [_], _ => rfl
  have F_f_want := fun_mk (st := sWant) l_f_want c_f_want k_f_want
  have b_f_want := F_f_want.binds (ps := ["good", "code"]) fun _ _ _ _ _ _ us hl => match us, hl with | [_, _], _ => rfl
  have F_f_counted := fun_mk (st := sCounted) l_f_counted c_f_counted k_f_counted
  have b_f_counted := F_f_counted.binds (ps := ["numbers"]) fun _ _ _ _ _ _ us hl => match us, hl with | [_], _ => rfl
  have F_s_init := fun_mk (st := sStInit) l_s_init c_s_init k_s_init
  have b_s_init := F_s_init.binds (ps := ["self", "me"]) fun _ _ _ _ _ _ us hl => match us, hl with | [_, _], _ => rfl
  have F_s_in_drill := fun_mk (st := sInDrill) l_s_in_drill c_s_in_drill k_s_in_drill
  have b_s_in_drill := F_s_in_drill.binds (ps := ["self"]) fun _ _ _ _ _ _ us hl => match us, hl with | [_], _ => rfl
  have F_s_forget := fun_mk (st := sForget) l_s_forget c_s_forget k_s_forget
  have b_s_forget := F_s_forget.binds (ps := ["self", "drill"]) fun _ _ _ _ _ _ us hl => match us, hl with | [_, _], _ => rfl
  have F_s_here_and_now := fun_mk (st := sNow) l_s_here_and_now c_s_here_and_now k_s_here_and_now
  have b_s_here_and_now := F_s_here_and_now.binds (ps := ["self"]) fun _ _ _ _ _ _ us hl => match us, hl with | [_], _ => rfl
  have F_s_news := fun_mk (st := sNews) l_s_news c_s_news k_s_news
  have b_s_news := F_s_news.binds (ps := ["self"]) fun _ _ _ _ _ _ us hl => match us, hl with | [_], _ => rfl
  have F_s_message := fun_mk (st := sMessage) l_s_message c_s_message k_s_message
  have b_s_message := F_s_message.binds (ps := ["self"]) fun _ _ _ _ _ _ us hl => match us, hl with | [_], _ => rfl
  have F_s_persons_behind := fun_mk (st := sBehind) l_s_persons_behind c_s_persons_behind k_s_persons_behind
  have b_s_persons_behind := F_s_persons_behind.binds (ps := ["self", "message"]) fun _ _ _ _ _ _ us hl => match us, hl with | [_, _], _ => rfl
  have F_s_many_new := fun_mk (st := sManyNew) l_s_many_new c_s_many_new k_s_many_new
  have b_s_many_new := F_s_many_new.binds (ps := ["self", "message"]) fun _ _ _ _ _ _ us hl => match us, hl with | [_, _], _ => rfl
  have F_s_hear := fun_mk (st := sHear) l_s_hear c_s_hear k_s_hear
  have b_s_hear := F_s_hear.binds (ps := ["self", "message"]) fun _ _ _ _ _ _ us hl => match us, hl with | [_, _], _ => rfl
  have F_s_who_is_in := fun_mk (st := sWhoIn) l_s_who_is_in c_s_who_is_in k_s_who_is_in
  have b_s_who_is_in := F_s_who_is_in.binds (ps := ["self"]) fun _ _ _ _ _ _ us hl => match us, hl with | [_], _ => rfl
  have F_s_who_is_out := fun_mk (st := sWhoOut) l_s_who_is_out c_s_who_is_out k_s_who_is_out
  have b_s_who_is_out := F_s_who_is_out.binds (ps := ["self"]) fun _ _ _ _ _ _ us hl => match us, hl with | [_], _ => rfl
  have F_s_who_is_at := fun_mk (st := sWhoAt) l_s_who_is_at c_s_who_is_at k_s_who_is_at
  have b_s_who_is_at := F_s_who_is_at.binds (ps := ["self", "k"]) fun _ _ _ _ _ _ us hl => match us, hl with | [_, _], _ => rfl
  have F_s_soonest := fun_mk (st := sSoonest) l_s_soonest c_s_soonest k_s_soonest
  have b_s_soonest := F_s_soonest.binds (ps := ["self", "n"]) fun _ _ _ _ _ _ us hl => match us, hl with | [_, _], _ => rfl
  have F_s_last_in := fun_mk (st := sLastIn) l_s_last_in c_s_last_in k_s_last_in
  have b_s_last_in := F_s_last_in.binds (ps := ["self"]) fun _ _ _ _ _ _ us hl => match us, hl with | [_], _ => rfl
  have F_r_init := fun_mk (st := sRefInit) l_r_init c_r_init k_r_init
  have b_r_init := F_r_init.binds (ps := ["self", "code"]) fun _ _ _ _ _ _ us hl => match us, hl with | [_, _], _ => rfl
  have F_m_init := fun_mk (st := sMuInit) l_m_init c_m_init k_m_init
  have b_m_init := F_m_init.binds (ps := ["self"]) fun _ _ _ _ _ _ us hl => match us, hl with | [_], _ => rfl
  have F_m_start := fun_mk (st := sStart) l_m_start c_m_start k_m_start
  have b_m_start := F_m_start.binds (ps := ["self", "at", "me"]) fun _ _ _ _ _ _ us hl => match us, hl with | [_, _, _], _ => rfl
  have F_m_minutes := fun_mk (st := sMinutes) l_m_minutes c_m_minutes k_m_minutes
  have b_m_minutes := F_m_minutes.binds (ps := ["self", "at", "n"]) fun _ _ _ _ _ _ us hl => match us, hl with | [_, _, _], _ => rfl
  have F_m_next_drill := fun_mk (st := sNextDrill) l_m_next_drill c_m_next_drill k_m_next_drill
  have b_m_next_drill := F_m_next_drill.binds (ps := ["self", "at"]) fun _ _ _ _ _ _ us hl => match us, hl with | [_, _], _ => rfl
  have F_m_come_in := fun_mk (st := sComeIn) l_m_come_in c_m_come_in k_m_come_in
  have b_m_come_in := F_m_come_in.binds (ps := ["self", "at", "p"]) fun _ _ _ _ _ _ us hl => match us, hl with | [_, _, _], _ => rfl
  have F_m_tell := fun_mk (st := sTell) l_m_tell c_m_tell k_m_tell
  have b_m_tell := F_m_tell.binds (ps := ["self", "at"]) fun _ _ _ _ _ _ us hl => match us, hl with | [_, _], _ => rfl
  have F_m_hear := fun_mk (st := sHearM) l_m_hear c_m_hear k_m_hear
  have b_m_hear := F_m_hear.binds (ps := ["self", "at", "message"]) fun _ _ _ _ _ _ us hl => match us, hl with | [_, _, _], _ => rfl
  have F_m_where := fun_mk (st := sWhere) l_m_where c_m_where k_m_where
  have b_m_where := F_m_where.binds (ps := ["self", "at", "p"]) fun _ _ _ _ _ _ us hl => match us, hl with | [_, _, _], _ => rfl
  have F_m_missing := fun_mk (st := sMissing) l_m_missing c_m_missing k_m_missing
  have b_m_missing := F_m_missing.binds (ps := ["self", "at"]) fun _ _ _ _ _ _ us hl => match us, hl with | [_, _], _ => rfl
  have F_m_who_at := fun_mk (st := sWhoAtM) l_m_who_at c_m_who_at k_m_who_at
  have b_m_who_at := F_m_who_at.binds (ps := ["self", "at", "k"]) fun _ _ _ _ _ _ us hl => match us, hl with | [_, _, _], _ => rfl
  have F_m_sure := fun_mk (st := sSure) l_m_sure c_m_sure k_m_sure
  have b_m_sure := F_m_sure.binds (ps := ["self", "at", "n", "t"]) fun _ _ _ _ _ _ us hl => match us, hl with | [_, _, _, _], _ => rfl
  have F_m_news_of := fun_mk (st := sNewsOf) l_m_news_of c_m_news_of k_m_news_of
  have b_m_news_of := F_m_news_of.binds (ps := ["self", "at", "k"]) fun _ _ _ _ _ _ us hl => match us, hl with | [_, _, _], _ => rfl
  have F_m_soonest := fun_mk (st := sSoonestM) l_m_soonest c_m_soonest k_m_soonest
  have b_m_soonest := F_m_soonest.binds (ps := ["self", "at", "n"]) fun _ _ _ _ _ _ us hl => match us, hl with | [_, _, _], _ => rfl
  have F_m_would_hear := fun_mk (st := sWould) l_m_would_hear c_m_would_hear k_m_would_hear
  have b_m_would_hear := F_m_would_hear.binds (ps := ["self", "at", "message"]) fun _ _ _ _ _ _ us hl => match us, hl with | [_, _, _], _ => rfl
  have F_m_last := fun_mk (st := sLast) l_m_last c_m_last k_m_last
  have b_m_last := F_m_last.binds (ps := ["self", "at"]) fun _ _ _ _ _ _ us hl => match us, hl with | [_, _], _ => rfl
  have F_m_which := fun_mk (st := sWhich) l_m_which c_m_which k_m_which
  have b_m_which := F_m_which.binds (ps := ["self", "at"]) fun _ _ _ _ _ _ us hl => match us, hl with | [_, _], _ => rfl
  have F_m_state := fun_mk (st := sState) l_m_state c_m_state k_m_state
  have b_m_state := F_m_state.binds (ps := ["self", "at"]) fun _ _ _ _ _ _ us hl => match us, hl with | [_, _], _ => rfl
  have F_m_done := fun_mk (st := sDone) l_m_done c_m_done k_m_done
  have b_m_done := F_m_done.binds (ps := ["self", "call", "n", "message"]) fun _ _ _ _ _ _ us hl => match us, hl with | [_, _, _, _], _ => rfl
  have F_m_asked := fun_mk (st := sAsked) l_m_asked c_m_asked k_m_asked
  have b_m_asked := F_m_asked.binds (ps := ["self", "call", "n", "message"]) fun _ _ _ _ _ _ us hl => match us, hl with | [_, _, _, _], _ => rfl
  have F_m_answer := fun_mk (st := sAnswer) l_m_answer c_m_answer k_m_answer
  have b_m_answer := F_m_answer.binds (ps := ["self", "call", "n", "message"]) fun _ _ _ _ _ _ us hl => match us, hl with | [_, _, _, _], _ => rfl
  have F_f_answers := fun_mk (st := sAnswers) l_f_answers c_f_answers k_f_answers
  refine ⟨PySem.W.fnOf "answers" "answers" (defArgs sAnswers) (defBody sAnswers) (defScope sAnswers) .none kV_f_answers dc_f_answers pm_f_answers an_f_answers cd_f_answers ct_f_answers, fun s us hu => match us, hu with | [_], _ => .of_eq rfl, fun base _ _ => ?_⟩
  have G_f_known_of : GFn P w K mg base CX0 1 "known_of" ["minute", "place"] spKnownOf := ⟨_, _, ok_known_of F_f_known_of kBASE, PySem.W.mg_of X G a_f_known_of, F_f_known_of.kp, b_f_known_of⟩
  have G_f_minute_of : GFn P w K mg base CX0 1 "minute_of" ["known"] spMinuteOf := ⟨_, _, ok_minute_of F_f_minute_of kBASE, PySem.W.mg_of X G a_f_minute_of, F_f_minute_of.kp, b_f_minute_of⟩
  have G_f_place_of : GFn P w K mg base CX0 1 "place_of" ["known"] spPlaceOf := ⟨_, _, ok_place_of F_f_place_of kBASE, PySem.W.mg_of X G a_f_place_of, F_f_place_of.kp, b_f_place_of⟩
  have G_f_is_known : GFn P w K mg base CX0 2 "is_known" ["known"] spIsKnown := ⟨_, _, ok_is_known F_f_is_known kBASE kSTATIONS kLAST_MINUTE G_f_minute_of, PySem.W.mg_of X G a_f_is_known, F_f_is_known.kp, b_f_is_known⟩
  have G_f_drill_in : GFn P w K mg base CX0 1 "drill_in" ["message"] (spDrillIn K) := ⟨_, _, ok_drill_in F_f_drill_in, PySem.W.mg_of X G a_f_drill_in, F_f_drill_in.kp, b_f_drill_in⟩
  have G_f_persons_in : GFn P w K mg base CX0 1 "persons_in" ["message"] (spPersonsIn K) := ⟨_, _, ok_persons_in F_f_persons_in kPERSONS, PySem.W.mg_of X G a_f_persons_in, F_f_persons_in.kp, b_f_persons_in⟩
  have G_f_news_in : GFn P w K mg base CX0 1 "news_in" ["message"] (spNewsIn K) := ⟨_, _, ok_news_in F_f_news_in kPERSONS, PySem.W.mg_of X G a_f_news_in, F_f_news_in.kp, b_f_news_in⟩
  have G_f_is_good : GFn P w K mg base CX0 3 "is_good" ["message"] (spIsGood K) := ⟨_, _, ok_is_good F_f_is_good kLAST_DRILL kLAST_MINUTE gall G_f_drill_in G_f_persons_in G_f_news_in G_f_is_known, PySem.W.mg_of X G a_f_is_good, F_f_is_good.kp, b_f_is_good⟩
  have G_f_greater_ones : GFn P w K mg base CX0 1 "greater_ones" ["some", "others"] (spGreater K) := ⟨_, _, ok_greater F_f_greater_ones gzip gmax, PySem.W.mg_of X G a_f_greater_ones, F_f_greater_ones.kp, b_f_greater_ones⟩
  have G_f_many_unlike : GFn P w K mg base CX0 1 "many_unlike" ["some", "others"] (spUnlike K) := ⟨_, _, ok_unlike F_f_many_unlike gzip glen, PySem.W.mg_of X G a_f_many_unlike, F_f_many_unlike.kp, b_f_many_unlike⟩
  have G_f_bits_of : GFn P w K mg base CX0 1 "bits_of" ["numbers"] (spBits K) := ⟨_, _, ok_bits F_f_bits_of gsum, PySem.W.mg_of X G a_f_bits_of, F_f_bits_of.kp, b_f_bits_of⟩
  have G_s_init : GMk P w K mg base 1 CS "Station" ["self", "me"] (spStInit CS) := ⟨_, _, ok_st_init F_s_init TS kNO_DRILL kPERSONS kSTATIONS, ⟨mkCS, a_s_init, i_s_init, kcCS⟩, PySem.W.mg_of X G aCS, b_s_init⟩
  have G_s_in_drill : GMe P w K mg base CX0 1 CS "in_drill" ["self"] (spInDrill CS) := ⟨_, _, ok_in_drill F_s_in_drill TS kNO_DRILL, ⟨a_s_in_drill, i_s_in_drill, k_s_in_drill⟩, b_s_in_drill⟩
  have G_s_forget : GMe P w K mg base CX0 1 CS "forget" ["self", "drill"] (spForget CS) := ⟨_, _, ok_forget F_s_forget TS kPERSONS kSTATIONS, ⟨a_s_forget, i_s_forget, k_s_forget⟩, b_s_forget⟩
  have G_s_here_and_now : GMe P w K mg base CX0 2 CS "here_and_now" ["self"] (spNow CS) := ⟨_, _, ok_now F_s_here_and_now TS G_f_known_of, ⟨a_s_here_and_now, i_s_here_and_now, k_s_here_and_now⟩, b_s_here_and_now⟩
  have G_s_news : GMe P w K mg base CX0 1 CS "news" ["self"] (spNews CS) := ⟨_, _, ok_news F_s_news TS glist, ⟨a_s_news, i_s_news, k_s_news⟩, b_s_news⟩
  have G_s_message : GMe P w K mg base CX0 2 CS "message" ["self"] (spMessage CS) := ⟨_, _, ok_message F_s_message TS G_s_news, ⟨a_s_message, i_s_message, k_s_message⟩, b_s_message⟩
  have G_s_persons_behind : GMe P w K mg base CX0 2 CS "persons_behind" ["self", "message"] (spBehind K CS) := ⟨_, _, ok_behind F_s_persons_behind TS glist G_f_drill_in G_f_persons_in G_f_greater_ones, ⟨a_s_persons_behind, i_s_persons_behind, k_s_persons_behind⟩, b_s_persons_behind⟩
  have G_s_many_new : GMe P w K mg base CX0 3 CS "many_new" ["self", "message"] (spManyNew K CS) := ⟨_, _, ok_many_new F_s_many_new TS kPERSONS G_f_drill_in G_f_many_unlike G_s_persons_behind, ⟨a_s_many_new, i_s_many_new, k_s_many_new⟩, b_s_many_new⟩
  have G_s_hear : GMe P w K mg base CX0 3 CS "hear" ["self", "message"] (spHear K CS) := ⟨_, _, ok_hear F_s_hear TS kMOST_HEARD gmin G_f_drill_in G_f_news_in G_f_greater_ones G_s_forget G_s_persons_behind, ⟨a_s_hear, i_s_hear, k_s_hear⟩, b_s_hear⟩
  have G_s_who_is_in : GMe P w K mg base CX0 1 CS "who_is_in" ["self"] (spWho CS Km441.Station.in_) := ⟨_, _, ok_who_in F_s_who_is_in TS genumerate, ⟨a_s_who_is_in, i_s_who_is_in, k_s_who_is_in⟩, b_s_who_is_in⟩
  have G_s_who_is_out : GMe P w K mg base CX0 1 CS "who_is_out" ["self"] (spWho CS Km441.Station.missing) := ⟨_, _, ok_who_out F_s_who_is_out TS genumerate, ⟨a_s_who_is_out, i_s_who_is_out, k_s_who_is_out⟩, b_s_who_is_out⟩
  have G_s_who_is_at : GMe P w K mg base CX0 2 CS "who_is_at" ["self", "k"] (spWhoAt CS) := ⟨_, _, ok_who_at F_s_who_is_at TS G_s_who_is_in G_f_place_of, ⟨a_s_who_is_at, i_s_who_is_at, k_s_who_is_at⟩, b_s_who_is_at⟩
  have G_s_soonest : GMe P w K mg base CX0 2 CS "soonest" ["self", "n"] (spSoonest CS) := ⟨_, _, ok_soonest F_s_soonest TS gmin genumerate G_s_news G_f_bits_of, ⟨a_s_soonest, i_s_soonest, k_s_soonest⟩, b_s_soonest⟩
  have G_s_last_in : GMe P w K mg base CX0 2 CS "last_in" ["self"] (spLastIn CS) := ⟨_, _, ok_last_in F_s_last_in TS gmax G_s_who_is_in, ⟨a_s_last_in, i_s_last_in, k_s_last_in⟩, b_s_last_in⟩
  have G_f_want : GFn P w K mg base (L2.CX P w) 3 "want" ["good", "code"] (spWant CF) := ⟨_, _, ok_want F_f_want TR a_r_init t_r_init (ok_ref_init F_r_init TR) b_r_init, PySem.W.mg_of X G a_f_want, F_f_want.kp, b_f_want⟩
  have G_f_counted : GFn P w K mg base CX0 2 "counted" ["numbers"] (spCounted K) := ⟨_, _, ok_counted F_f_counted glen G_f_bits_of, PySem.W.mg_of X G a_f_counted, F_f_counted.kp, b_f_counted⟩
  have G_m_init : GMk P w K mg base 1 CM "Muster" ["self"] (spMuInit CM CS) := ⟨_, _, ok_mu_init F_m_init TM kOBJECTS, ⟨mkCM, a_m_init, i_m_init, kcCM⟩, PySem.W.mg_of X G aCM, b_m_init⟩
  have G_m_start : GMe P w K mg base (L2.CX P w) 4 CM "start" ["self", "at", "me"] (spStart CM CS CF) := ⟨_, _, ok_start F_m_start TM kSTATIONS kOUT_OF_RANGE G_f_want G_s_init, ⟨a_m_start, i_m_start, k_m_start⟩, b_m_start⟩
  have G_m_minutes : GMe P w K mg base (L2.CX P w) 4 CM "minutes" ["self", "at", "n"] (spP1 CM CS CF .minutes) := ⟨_, _, ok_minutes F_m_minutes TM TS kMOST_MINUTES kOUT_OF_RANGE kLAST_MINUTE kTOO_LATE G_f_want, ⟨a_m_minutes, i_m_minutes, k_m_minutes⟩, b_m_minutes⟩
  have G_m_next_drill : GMe P w K mg base (L2.CX P w) 4 CM "next_drill" ["self", "at"] (spP0 CM CS CF .drill) := ⟨_, _, ok_next_drill F_m_next_drill TM TS kLAST_DRILL kLAST_ONE G_f_want G_s_forget, ⟨a_m_next_drill, i_m_next_drill, k_m_next_drill⟩, b_m_next_drill⟩
  have G_m_come_in : GMe P w K mg base (L2.CX P w) 4 CM "come_in" ["self", "at", "p"] (spP1 CM CS CF .in_) := ⟨_, _, ok_come_in F_m_come_in TM TS kPERSONS kNONE_SUCH kNOTHING kNO_LESS G_f_want G_s_in_drill G_s_here_and_now, ⟨a_m_come_in, i_m_come_in, k_m_come_in⟩, b_m_come_in⟩
  have G_m_tell : GMe P w K mg base (L2.CX P w) 4 CM "tell" ["self", "at"] (spR0 CM CS CF .tell) := ⟨_, _, ok_tell F_m_tell TM TS kNOTHING glen G_f_want G_s_in_drill G_s_who_is_in G_s_message, ⟨a_m_tell, i_m_tell, k_m_tell⟩, b_m_tell⟩
  have G_m_hear : GMe P w K mg base (L2.CX P w) 4 CM "hear" ["self", "at", "message"] (spPM K CM CS CF .hear) := ⟨_, _, ok_hearM F_m_hear TM TS kNOT_GOOD G_f_want G_f_is_good G_s_many_new G_s_hear, ⟨a_m_hear, i_m_hear, k_m_hear⟩, b_m_hear⟩
  have G_m_where : GMe P w K mg base (L2.CX P w) 4 CM "where" ["self", "at", "p"] (spR1 CM CS CF .where_) := ⟨_, _, ok_where F_m_where TM TS kPERSONS kNONE_SUCH kNOTHING G_f_want G_f_place_of G_f_minute_of, ⟨a_m_where, i_m_where, k_m_where⟩, b_m_where⟩
  have G_m_missing : GMe P w K mg base (L2.CX P w) 4 CM "missing" ["self", "at"] (spR0 CM CS CF .missing) := ⟨_, _, ok_missing F_m_missing TM TS kNOTHING G_f_want G_s_in_drill G_s_who_is_out G_f_counted, ⟨a_m_missing, i_m_missing, k_m_missing⟩, b_m_missing⟩
  have G_m_who_at : GMe P w K mg base (L2.CX P w) 4 CM "who_at" ["self", "at", "k"] (spR1 CM CS CF .at_) := ⟨_, _, ok_who_atM F_m_who_at TM TS kSTATIONS kNONE_SUCH G_f_want G_s_who_is_at G_f_counted, ⟨a_m_who_at, i_m_who_at, k_m_who_at⟩, b_m_who_at⟩
  have G_m_sure : GMe P w K mg base (L2.CX P w) 4 CM "sure" ["self", "at", "n", "t"] (spR2 CM CS CF .sure) := ⟨_, _, ok_sure F_m_sure TM TS kSTATIONS kLAST_MINUTE kOUT_OF_RANGE kNOTHING kTOO_SOON gall G_f_want G_s_in_drill G_s_news G_s_who_is_out G_f_counted, ⟨a_m_sure, i_m_sure, k_m_sure⟩, b_m_sure⟩
  have G_m_news_of : GMe P w K mg base (L2.CX P w) 4 CM "news_of" ["self", "at", "k"] (spR1 CM CS CF .news) := ⟨_, _, ok_news_of F_m_news_of TM TS kSTATIONS kNONE_SUCH G_f_want G_s_news, ⟨a_m_news_of, i_m_news_of, k_m_news_of⟩, b_m_news_of⟩
  have G_m_soonest : GMe P w K mg base (L2.CX P w) 4 CM "soonest" ["self", "at", "n"] (spR1 CM CS CF .soonest) := ⟨_, _, ok_soonestM F_m_soonest TM TS kSTATIONS kOUT_OF_RANGE glist G_f_want G_s_soonest, ⟨a_m_soonest, i_m_soonest, k_m_soonest⟩, b_m_soonest⟩
  have G_m_would_hear : GMe P w K mg base (L2.CX P w) 4 CM "would_hear" ["self", "at", "message"] (spRM K CM CS CF .new_) := ⟨_, _, ok_would F_m_would_hear TM TS kNOT_GOOD G_f_want G_f_is_good G_s_many_new, ⟨a_m_would_hear, i_m_would_hear, k_m_would_hear⟩, b_m_would_hear⟩
  have G_m_last : GMe P w K mg base (L2.CX P w) 4 CM "last" ["self", "at"] (spR0 CM CS CF .last) := ⟨_, _, ok_last F_m_last TM TS kNOTHING G_f_want G_s_who_is_in G_s_last_in G_f_place_of G_f_minute_of, ⟨a_m_last, i_m_last, k_m_last⟩, b_m_last⟩
  have G_m_which : GMe P w K mg base (L2.CX P w) 4 CM "which" ["self", "at"] (spR0 CM CS CF .drillNow) := ⟨_, _, ok_which F_m_which TM TS kNOTHING G_f_want G_s_in_drill, ⟨a_m_which, i_m_which, k_m_which⟩, b_m_which⟩
  have G_m_state : GMe P w K mg base (L2.CX P w) 4 CM "state" ["self", "at"] (spR0 CM CS CF .state) := ⟨_, _, ok_state F_m_state TM TS, ⟨a_m_state, i_m_state, k_m_state⟩, b_m_state⟩
  have G_m_done : GMe P w K mg base (L2.CX P w) 5 CM "done" ["self", "call", "n", "message"] (spReq K CM CS CF 0 6) := ⟨_, _, ok_done F_m_done TM G_m_start G_m_minutes G_m_next_drill G_m_come_in G_m_tell G_m_hear, ⟨a_m_done, i_m_done, k_m_done⟩, b_m_done⟩
  have G_m_asked : GMe P w K mg base (L2.CX P w) 5 CM "asked" ["self", "call", "n", "message"] (spReq K CM CS CF 6 17) := ⟨_, _, ok_asked F_m_asked TM TS G_f_counted G_s_who_is_in G_m_where G_m_missing G_m_who_at G_m_sure G_m_news_of G_m_soonest G_m_would_hear G_m_last G_m_which G_m_state, ⟨a_m_asked, i_m_asked, k_m_asked⟩, b_m_asked⟩
  have G_m_answer : GMe P w K mg base CX0 6 CM "answer" ["self", "call", "n", "message"] (spAnswer K CM CS) := ⟨_, _, ok_answer F_m_answer TM TR G_m_done G_m_asked, ⟨a_m_answer, i_m_answer, k_m_answer⟩, b_m_answer⟩
  exact ok_answers F_f_answers TM TT glen G_m_init G_m_answer
end Sm
open PySem PySem.W PyProof.Rows
set_option maxRecDepth 100000 in
set_option maxHeartbeats 0 in
theorem PySem.Challenge.cw_shipmuster_s01_answers_holds : PySem.Challenge.rw_shipmuster_s01_answers.Holds := by
  w_on; k_headS; (case hw => exact ⟨[.list [.int 0, .int 0, .int 0]], by decide +kernel, by decide +kernel⟩)
  k_fillS
  refine L2.walk_specK (r := PySem.Challenge.rw_shipmuster_s01_answers) (k := 7) (CX := L2.CX0) (ps := ["calls"]) (sp := Sm.spAnswers) (by decide +kernel) rfl rfl ⟨rfl, by decide, by decide⟩ (fun w h Y => PySem.W.kIn_of Y) ?F ?S (fun _ _ _ _ z => z)
  case F =>
    intro w mg fa h Y KX G hmg
    refine' Sm.all_mk KX G hmg ?c0 ?c1 ?c2 ?c3 ?c4 ?c5 ?c6 ?c7 ?c8 ?c9 ?c10 ?c11 ?c12 ?c13 ?c14 ?c15 ?c16 ?z0 ?z1 ?z2 ?z3 ?z4 ?z5 ?z6 ?z7 ?z8 ?gN ?lN ?gW ?lW ?aCS ?pgCS ?hdCS ?poCS ?saCS ?mkCS ?kcCS ?nCS_me ?nCS_minute ?nCS_drill ?nCS_persons ?nCS_heard_of ?nCS_many_heard ?aCM ?pgCM ?hdCM ?poCM ?saCM ?mkCM ?kcCM ?nCM_stations ?aCF ?xL ?saF ?gaF ?ggF ?ncF ?kCF ?eCF ?tCF ?hCF ?iCF ?sCF ?vV ?a_f_known_of ?l_f_known_of ?c_f_known_of ?k_f_known_of ?a_f_minute_of ?l_f_minute_of ?c_f_minute_of ?k_f_minute_of ?a_f_place_of ?l_f_place_of ?c_f_place_of ?k_f_place_of ?a_f_is_known ?l_f_is_known ?c_f_is_known ?k_f_is_known ?a_f_drill_in ?l_f_drill_in ?c_f_drill_in ?k_f_drill_in ?a_f_persons_in ?l_f_persons_in ?c_f_persons_in ?k_f_persons_in ?a_f_news_in ?l_f_news_in ?c_f_news_in ?k_f_news_in ?a_f_is_good ?l_f_is_good ?c_f_is_good ?k_f_is_good ?a_f_greater_ones ?l_f_greater_ones ?c_f_greater_ones ?k_f_greater_ones ?a_f_many_unlike ?l_f_many_unlike ?c_f_many_unlike ?k_f_many_unlike ?a_f_bits_of ?l_f_bits_of ?c_f_bits_of ?k_f_bits_of ?a_f_want ?l_f_want ?c_f_want ?k_f_want ?a_f_counted ?l_f_counted ?c_f_counted ?k_f_counted ?a_s_init ?i_s_init ?l_s_init ?c_s_init ?k_s_init ?a_s_in_drill ?i_s_in_drill ?l_s_in_drill ?c_s_in_drill ?k_s_in_drill ?a_s_forget ?i_s_forget ?l_s_forget ?c_s_forget ?k_s_forget ?a_s_here_and_now ?i_s_here_and_now ?l_s_here_and_now ?c_s_here_and_now ?k_s_here_and_now ?a_s_news ?i_s_news ?l_s_news ?c_s_news ?k_s_news ?a_s_message ?i_s_message ?l_s_message ?c_s_message ?k_s_message ?a_s_persons_behind ?i_s_persons_behind ?l_s_persons_behind ?c_s_persons_behind ?k_s_persons_behind ?a_s_many_new ?i_s_many_new ?l_s_many_new ?c_s_many_new ?k_s_many_new ?a_s_hear ?i_s_hear ?l_s_hear ?c_s_hear ?k_s_hear ?a_s_who_is_in ?i_s_who_is_in ?l_s_who_is_in ?c_s_who_is_in ?k_s_who_is_in ?a_s_who_is_out ?i_s_who_is_out ?l_s_who_is_out ?c_s_who_is_out ?k_s_who_is_out ?a_s_who_is_at ?i_s_who_is_at ?l_s_who_is_at ?c_s_who_is_at ?k_s_who_is_at ?a_s_soonest ?i_s_soonest ?l_s_soonest ?c_s_soonest ?k_s_soonest ?a_s_last_in ?i_s_last_in ?l_s_last_in ?c_s_last_in ?k_s_last_in ?a_r_init ?i_r_init ?t_r_init ?l_r_init ?c_r_init ?k_r_init ?a_m_init ?i_m_init ?l_m_init ?c_m_init ?k_m_init ?a_m_start ?i_m_start ?l_m_start ?c_m_start ?k_m_start ?a_m_minutes ?i_m_minutes ?l_m_minutes ?c_m_minutes ?k_m_minutes ?a_m_next_drill ?i_m_next_drill ?l_m_next_drill ?c_m_next_drill ?k_m_next_drill ?a_m_come_in ?i_m_come_in ?l_m_come_in ?c_m_come_in ?k_m_come_in ?a_m_tell ?i_m_tell ?l_m_tell ?c_m_tell ?k_m_tell ?a_m_hear ?i_m_hear ?l_m_hear ?c_m_hear ?k_m_hear ?a_m_where ?i_m_where ?l_m_where ?c_m_where ?k_m_where ?a_m_missing ?i_m_missing ?l_m_missing ?c_m_missing ?k_m_missing ?a_m_who_at ?i_m_who_at ?l_m_who_at ?c_m_who_at ?k_m_who_at ?a_m_sure ?i_m_sure ?l_m_sure ?c_m_sure ?k_m_sure ?a_m_news_of ?i_m_news_of ?l_m_news_of ?c_m_news_of ?k_m_news_of ?a_m_soonest ?i_m_soonest ?l_m_soonest ?c_m_soonest ?k_m_soonest ?a_m_would_hear ?i_m_would_hear ?l_m_would_hear ?c_m_would_hear ?k_m_would_hear ?a_m_last ?i_m_last ?l_m_last ?c_m_last ?k_m_last ?a_m_which ?i_m_which ?l_m_which ?c_m_which ?k_m_which ?a_m_state ?i_m_state ?l_m_state ?c_m_state ?k_m_state ?a_m_done ?i_m_done ?l_m_done ?c_m_done ?k_m_done ?a_m_asked ?i_m_asked ?l_m_asked ?c_m_asked ?k_m_asked ?a_m_answer ?i_m_answer ?l_m_answer ?c_m_answer ?k_m_answer ?a_f_answers ?l_f_answers ?c_f_answers ?k_f_answers
    (case c0 => k_is)
    (case c1 => k_is)
    (case c2 => k_is)
    (case c3 => k_is)
    (case c4 => k_is)
    (case c5 => k_is)
    (case c6 => k_is)
    (case c7 => k_is)
    (case c8 => k_is)
    (case c9 => k_is)
    (case c10 => k_is)
    (case c11 => k_is)
    (case c12 => k_is)
    (case c13 => k_is)
    (case c14 => k_is)
    (case c15 => k_is)
    (case c16 => k_is)
    (case z0 => k_is)
    (case z1 => k_is)
    (case z2 => k_is)
    (case z3 => k_is)
    (case z4 => k_is)
    (case z5 => k_is)
    (case z6 => k_is)
    (case z7 => k_is)
    (case z8 => k_is)
    (case gN => k_is)
    (case lN => k_is)
    (case gW => k_is)
    (case lW => k_is)
    (case aCS => k_is)
    (case pgCS => k_is)
    (case hdCS => k_is)
    (case poCS => k_is)
    (case saCS => k_is)
    (case mkCS => k_is)
    (case kcCS => k_is)
    (case nCS_me => k_is)
    (case nCS_minute => k_is)
    (case nCS_drill => k_is)
    (case nCS_persons => k_is)
    (case nCS_heard_of => k_is)
    (case nCS_many_heard => k_is)
    (case aCM => k_is)
    (case pgCM => k_is)
    (case hdCM => k_is)
    (case poCM => k_is)
    (case saCM => k_is)
    (case mkCM => k_is)
    (case kcCM => k_is)
    (case nCM_stations => k_is)
    (case aCF => k_is)
    (case xL => k_is)
    (case saF => k_is)
    (case gaF => k_is)
    (case ggF => k_is)
    (case ncF => k_is)
    (case kCF => k_is)
    (case eCF => k_is)
    (case tCF => k_is)
    (case hCF => k_is)
    (case iCF => k_is)
    (case sCF => first | rfl | k_is)
    (case vV => k_is)
    (case a_f_known_of => k_is)
    (case l_f_known_of => k_is)
    (case c_f_known_of => k_is)
    (case k_f_known_of => k_is)
    (case a_f_minute_of => k_is)
    (case l_f_minute_of => k_is)
    (case c_f_minute_of => k_is)
    (case k_f_minute_of => k_is)
    (case a_f_place_of => k_is)
    (case l_f_place_of => k_is)
    (case c_f_place_of => k_is)
    (case k_f_place_of => k_is)
    (case a_f_is_known => k_is)
    (case l_f_is_known => k_is)
    (case c_f_is_known => k_is)
    (case k_f_is_known => k_is)
    (case a_f_drill_in => k_is)
    (case l_f_drill_in => k_is)
    (case c_f_drill_in => k_is)
    (case k_f_drill_in => k_is)
    (case a_f_persons_in => k_is)
    (case l_f_persons_in => k_is)
    (case c_f_persons_in => k_is)
    (case k_f_persons_in => k_is)
    (case a_f_news_in => k_is)
    (case l_f_news_in => k_is)
    (case c_f_news_in => k_is)
    (case k_f_news_in => k_is)
    (case a_f_is_good => k_is)
    (case l_f_is_good => k_is)
    (case c_f_is_good => k_is)
    (case k_f_is_good => k_is)
    (case a_f_greater_ones => k_is)
    (case l_f_greater_ones => k_is)
    (case c_f_greater_ones => k_is)
    (case k_f_greater_ones => k_is)
    (case a_f_many_unlike => k_is)
    (case l_f_many_unlike => k_is)
    (case c_f_many_unlike => k_is)
    (case k_f_many_unlike => k_is)
    (case a_f_bits_of => k_is)
    (case l_f_bits_of => k_is)
    (case c_f_bits_of => k_is)
    (case k_f_bits_of => k_is)
    (case a_f_want => k_is)
    (case l_f_want => k_is)
    (case c_f_want => k_is)
    (case k_f_want => k_is)
    (case a_f_counted => k_is)
    (case l_f_counted => k_is)
    (case c_f_counted => k_is)
    (case k_f_counted => k_is)
    (case a_s_init => k_is)
    (case i_s_init => k_is)
    (case l_s_init => k_is)
    (case c_s_init => k_is)
    (case k_s_init => k_is)
    (case a_s_in_drill => k_is)
    (case i_s_in_drill => k_is)
    (case l_s_in_drill => k_is)
    (case c_s_in_drill => k_is)
    (case k_s_in_drill => k_is)
    (case a_s_forget => k_is)
    (case i_s_forget => k_is)
    (case l_s_forget => k_is)
    (case c_s_forget => k_is)
    (case k_s_forget => k_is)
    (case a_s_here_and_now => k_is)
    (case i_s_here_and_now => k_is)
    (case l_s_here_and_now => k_is)
    (case c_s_here_and_now => k_is)
    (case k_s_here_and_now => k_is)
    (case a_s_news => k_is)
    (case i_s_news => k_is)
    (case l_s_news => k_is)
    (case c_s_news => k_is)
    (case k_s_news => k_is)
    (case a_s_message => k_is)
    (case i_s_message => k_is)
    (case l_s_message => k_is)
    (case c_s_message => k_is)
    (case k_s_message => k_is)
    (case a_s_persons_behind => k_is)
    (case i_s_persons_behind => k_is)
    (case l_s_persons_behind => k_is)
    (case c_s_persons_behind => k_is)
    (case k_s_persons_behind => k_is)
    (case a_s_many_new => k_is)
    (case i_s_many_new => k_is)
    (case l_s_many_new => k_is)
    (case c_s_many_new => k_is)
    (case k_s_many_new => k_is)
    (case a_s_hear => k_is)
    (case i_s_hear => k_is)
    (case l_s_hear => k_is)
    (case c_s_hear => k_is)
    (case k_s_hear => k_is)
    (case a_s_who_is_in => k_is)
    (case i_s_who_is_in => k_is)
    (case l_s_who_is_in => k_is)
    (case c_s_who_is_in => k_is)
    (case k_s_who_is_in => k_is)
    (case a_s_who_is_out => k_is)
    (case i_s_who_is_out => k_is)
    (case l_s_who_is_out => k_is)
    (case c_s_who_is_out => k_is)
    (case k_s_who_is_out => k_is)
    (case a_s_who_is_at => k_is)
    (case i_s_who_is_at => k_is)
    (case l_s_who_is_at => k_is)
    (case c_s_who_is_at => k_is)
    (case k_s_who_is_at => k_is)
    (case a_s_soonest => k_is)
    (case i_s_soonest => k_is)
    (case l_s_soonest => k_is)
    (case c_s_soonest => k_is)
    (case k_s_soonest => k_is)
    (case a_s_last_in => k_is)
    (case i_s_last_in => k_is)
    (case l_s_last_in => k_is)
    (case c_s_last_in => k_is)
    (case k_s_last_in => k_is)
    (case a_r_init => k_is)
    (case i_r_init => k_is)
    (case t_r_init => k_is)
    (case l_r_init => k_is)
    (case c_r_init => k_is)
    (case k_r_init => k_is)
    (case a_m_init => k_is)
    (case i_m_init => k_is)
    (case l_m_init => k_is)
    (case c_m_init => k_is)
    (case k_m_init => k_is)
    (case a_m_start => k_is)
    (case i_m_start => k_is)
    (case l_m_start => k_is)
    (case c_m_start => k_is)
    (case k_m_start => k_is)
    (case a_m_minutes => k_is)
    (case i_m_minutes => k_is)
    (case l_m_minutes => k_is)
    (case c_m_minutes => k_is)
    (case k_m_minutes => k_is)
    (case a_m_next_drill => k_is)
    (case i_m_next_drill => k_is)
    (case l_m_next_drill => k_is)
    (case c_m_next_drill => k_is)
    (case k_m_next_drill => k_is)
    (case a_m_come_in => k_is)
    (case i_m_come_in => k_is)
    (case l_m_come_in => k_is)
    (case c_m_come_in => k_is)
    (case k_m_come_in => k_is)
    (case a_m_tell => k_is)
    (case i_m_tell => k_is)
    (case l_m_tell => k_is)
    (case c_m_tell => k_is)
    (case k_m_tell => k_is)
    (case a_m_hear => k_is)
    (case i_m_hear => k_is)
    (case l_m_hear => k_is)
    (case c_m_hear => k_is)
    (case k_m_hear => k_is)
    (case a_m_where => k_is)
    (case i_m_where => k_is)
    (case l_m_where => k_is)
    (case c_m_where => k_is)
    (case k_m_where => k_is)
    (case a_m_missing => k_is)
    (case i_m_missing => k_is)
    (case l_m_missing => k_is)
    (case c_m_missing => k_is)
    (case k_m_missing => k_is)
    (case a_m_who_at => k_is)
    (case i_m_who_at => k_is)
    (case l_m_who_at => k_is)
    (case c_m_who_at => k_is)
    (case k_m_who_at => k_is)
    (case a_m_sure => k_is)
    (case i_m_sure => k_is)
    (case l_m_sure => k_is)
    (case c_m_sure => k_is)
    (case k_m_sure => k_is)
    (case a_m_news_of => k_is)
    (case i_m_news_of => k_is)
    (case l_m_news_of => k_is)
    (case c_m_news_of => k_is)
    (case k_m_news_of => k_is)
    (case a_m_soonest => k_is)
    (case i_m_soonest => k_is)
    (case l_m_soonest => k_is)
    (case c_m_soonest => k_is)
    (case k_m_soonest => k_is)
    (case a_m_would_hear => k_is)
    (case i_m_would_hear => k_is)
    (case l_m_would_hear => k_is)
    (case c_m_would_hear => k_is)
    (case k_m_would_hear => k_is)
    (case a_m_last => k_is)
    (case i_m_last => k_is)
    (case l_m_last => k_is)
    (case c_m_last => k_is)
    (case k_m_last => k_is)
    (case a_m_which => k_is)
    (case i_m_which => k_is)
    (case l_m_which => k_is)
    (case c_m_which => k_is)
    (case k_m_which => k_is)
    (case a_m_state => k_is)
    (case i_m_state => k_is)
    (case l_m_state => k_is)
    (case c_m_state => k_is)
    (case k_m_state => k_is)
    (case a_m_done => k_is)
    (case i_m_done => k_is)
    (case l_m_done => k_is)
    (case c_m_done => k_is)
    (case k_m_done => k_is)
    (case a_m_asked => k_is)
    (case i_m_asked => k_is)
    (case l_m_asked => k_is)
    (case c_m_asked => k_is)
    (case k_m_asked => k_is)
    (case a_m_answer => k_is)
    (case i_m_answer => k_is)
    (case l_m_answer => k_is)
    (case c_m_answer => k_is)
    (case k_m_answer => k_is)
    (case a_f_answers => k_is)
    (case l_f_answers => k_is)
    (case c_f_answers => k_is)
    (case k_f_answers => k_is)
  case S =>
    intro K H xs a hO hwi hask hx
    cases hx with
    | cons h1 h2 =>
      cases h2
      cases h1 with
      | lst hs ha =>
        have e := L2.ints_dw a.1 _ ha
        subst e
        have q : ((Codec.inLen 0 25000 a.1 && a.1.all (Codec.inInt 0 4294967295)) && true) = true := hwi
        rw [Bool.and_eq_true, Bool.and_eq_true] at q
        obtain ⟨r1, r2⟩ := Sm.law (l := a.1) hask
        exact ⟨_, a.1, PyKm441.answers a.1, rfl, hs, r1, r2, (Codec.inNat_iff.mp q.1.1).2, fun H' p hp => .lst (L2.SqL.of hp) (L2.dw_ints _)⟩
#print axioms PySem.Challenge.cw_shipmuster_s01_answers_holds
