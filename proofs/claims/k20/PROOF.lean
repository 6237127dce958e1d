import PyProof.Rows.All
import Wide.All
import OpenK.AllK
import Wide.FinOn
import HandS.ForMost
import HandS.IsInst
import HandS.Wide
import HandS.TupAny
import HandS.Walk
import HandS.Evl
import HandS.Iter
import KE.GoesEnum
import KE.KStateDown
import HandS.WordsExc
import HandS.Defaults
import HandS.Head0
import HandS.Head1
import HandS.Head2
import HandS.HeadEnd
import HandS.HeadHook1
import HandS.HeadHook2
import PySem.Challenge.RW_leaps_k20_whiles_within_cleanups
set_option Elab.async false
set_option linter.all false
set_option maxRecDepth 100000
set_option maxHeartbeats 4000000
/-! Lb: what every leaps law leans on: callees by name, the growing heap, data at values. -/
namespace Lp
open PySem PySem.Spec PyProof.Rows L2

/-! ### callees -/
/-- a def of the module, by its name, with its promise -/
def Cal (P : Program) (w : World) (K : PySem.W.Frag) (mg : Str → Option Value) (base : Heap) (k : Nat) (x : Str) (ps : List Str) (sp : Sp) : Prop :=
  ∃ f fd, FnOk P w K mg base CX0 k f fd ps sp ∧ Binds K fd ps [] ∧ PySem.W.keepIn K (.ref f) = true ∧ mg x = some (.ref f)
/-- a method of the class at C -/
def CalM (P : Program) (w : World) (K : PySem.W.Frag) (mg : Str → Option Value) (base : Heap) (k : Nat) (C : Addr) (m : Str) (ps : List Str) (sp : Sp) : Prop :=
  ∃ f fd, FnOk P w K mg base CX0 k f fd ps sp ∧ Binds K fd ps [] ∧ Cls K C ∧ Meth K C m f
/-- a class of the module that is made by its own __init__ -/
def CalC (P : Program) (w : World) (K : PySem.W.Frag) (mg : Str → Option Value) (base : Heap) (k : Nat) (x : Str) (C : Addr) (ps : List Str) (sp : Sp) : Prop :=
  ∃ f fd, FnOk P w K mg base CX0 k f fd ps sp ∧ Binds K fd ps [] ∧ Mk K C f ∧ mg x = some (.ref C)
section
variable {P : Program} {w : World} {K : PySem.W.Frag} {mg : Str → Option Value} {base : Heap} {j k : Nat} {x m : Str} {C : Addr} {ps : List Str} {sp sp' : Sp}
theorem Cal.mono (c : Cal P w K mg base j x ps sp) (h : j ≤ k) : Cal P w K mg base k x ps sp :=
  let ⟨f, fd, F, r⟩ := c; ⟨f, fd, F.mono h, r⟩
theorem Cal.imp (c : Cal P w K mg base j x ps sp) (h : ∀ vs H Q E, sp' vs H Q E → sp vs H Q E) : Cal P w K mg base j x ps sp' :=
  let ⟨f, fd, F, r⟩ := c; ⟨f, fd, F.imp h, r⟩
theorem CalM.mono (c : CalM P w K mg base j C m ps sp) (h : j ≤ k) : CalM P w K mg base k C m ps sp :=
  let ⟨f, fd, F, r⟩ := c; ⟨f, fd, F.mono h, r⟩
theorem CalM.imp (c : CalM P w K mg base j C m ps sp) (h : ∀ vs H Q E, sp' vs H Q E → sp vs H Q E) : CalM P w K mg base j C m ps sp' :=
  let ⟨f, fd, F, r⟩ := c; ⟨f, fd, F.imp h, r⟩
theorem CalC.mono (c : CalC P w K mg base j x C ps sp) (h : j ≤ k) : CalC P w K mg base k x C ps sp :=
  let ⟨f, fd, F, r⟩ := c; ⟨f, fd, F.mono h, r⟩
end
section
variable {X : Cx} {k : Nat} {C : Addr} {x m : Str} {ps : List Str} {sp : Sp} {p pos apos : Pos} {e o : Expr} {es : List Expr} {ta : TE} {t : TA}
theorem pc (c : Cal X.prog X.w X.K X.mg X.base k x ps sp) (hr : Room k X.A) (ha : PA X (e :: es) t) (hg : Gl X x := by rfl) (hdb : (x == ("__debug__" : Str)) = false := by decide)
    (he : starEach (e :: es) X.env = (false, eval e X.env) :: starEach es X.env := by rfl) (hpl : (backTo pos (starEach es X.env)).any (·.1) = false := by rfl) : PE X (.Call (.Name x p) (e :: es) [] pos) (tCall sp [] E0 t) := by
  obtain ⟨f, fd, F, b, kp, hm⟩ := c
  exact pe_call F hr hg hm kp b .nil pass0 ha hdb he hpl
theorem pc0 (c : Cal X.prog X.w X.K X.mg X.base k x ps sp) (hr : Room k X.A) (hg : Gl X x := by rfl) (hdb : (x == ("__debug__" : Str)) = false := by decide) : PE X (.Call (.Name x p) [] [] pos) (tCall sp [] E0 tNil) := by
  obtain ⟨f, fd, F, b, kp, hm⟩ := c
  exact pe_call0 F hr hg hm kp b .nil pass0 hdb
theorem pm {pl : Sem Bool} (c : CalM X.prog X.w X.K X.mg X.base k C m ps sp) (hr : Room k X.A) (he : PE X o ta) (ha : PA X (e :: es) t)
    (hst : starEach (e :: es) X.env = (false, eval e X.env) :: starEach es X.env := by rfl) (hpl : (backTo pos (starEach es X.env)).any (·.1) = false := by rfl)
    (ht : eval (.Call (.Attribute o m apos) (e :: es) [] pos) X.env = (do
      let ov ← eval o X.env
      standAt apos.atName
      let (f, first) ← holding [ov] (getMethod ov m pl)
      callWith pos f first (backTo pos (starEach (e :: es) X.env)) (backToKw pos (keywordEach [] X.env))) := by rfl) :
    PE X (.Call (.Attribute o m apos) (e :: es) [] pos) (tMeth C m sp [] E0 ta t) := by
  obtain ⟨f, fd, F, b, cl, hm⟩ := c
  exact pe_meth he cl hm F hr b .nil pass0 ha hst hpl ht
theorem pm0 {pl : Sem Bool} (c : CalM X.prog X.w X.K X.mg X.base k C m ps sp) (hr : Room k X.A) (he : PE X o ta)
    (ht : eval (.Call (.Attribute o m apos) [] [] pos) X.env = (do
      let ov ← eval o X.env
      standAt apos.atName
      let (f, first) ← holding [ov] (getMethod ov m pl)
      callWith pos f first (backTo pos (starEach [] X.env)) (backToKw pos (keywordEach [] X.env))) := by rfl) :
    PE X (.Call (.Attribute o m apos) [] [] pos) (tMeth C m sp [] E0 ta tNil) := by
  obtain ⟨f, fd, F, b, cl, hm⟩ := c
  exact pe_meth0 he cl hm F hr b .nil pass0 ht
theorem pk (c : CalC X.prog X.w X.K X.mg X.base k x C ps sp) (hr : Room (k + 1) X.A) (ha : PA X (e :: es) t) (hg : Gl X x := by rfl) (hdb : (x == ("__debug__" : Str)) = false := by decide)
    (he : starEach (e :: es) X.env = (false, eval e X.env) :: starEach es X.env := by rfl) (hpl : (backTo pos (starEach es X.env)).any (·.1) = false := by rfl) : PE X (.Call (.Name x p) (e :: es) [] pos) (tMake C sp [] E0 t) := by
  obtain ⟨f, fd, F, b, M, hm⟩ := c
  exact pe_make M F hr hg hm b .nil pass0 ha hdb he hpl
theorem pk0 (c : CalC X.prog X.w X.K X.mg X.base k x C ps sp) (hr : Room (k + 1) X.A) (hg : Gl X x := by rfl) (hdb : (x == ("__debug__" : Str)) = false := by decide) : PE X (.Call (.Name x p) [] [] pos) (tMake C sp [] E0 tNil) := by
  obtain ⟨f, fd, F, b, M, hm⟩ := c
  exact pe_make0 M F hr hg hm b .nil pass0 hdb
end

/-! ### short names of readings -/
abbrev rAdI : R2 := rI0 fun i j => .int (i + j)
abbrev rSbI : R2 := rI0 fun i j => .int (i - j)
abbrev rMlI : R2 := rI CMul fun i j => .int (i * j)
abbrev rDvW : R2 := rI CDivW fun i j => .int (i / j)
abbrev rMdI : R2 := rI (fun _ j => 0 < j) fun i j => .int (i % j)
abbrev rLt : R2 := rI0 fun i j => .bl (decide (i < j))
abbrev rLe : R2 := rI0 fun i j => .bl (decide (i ≤ j))
abbrev rGt : R2 := rI0 fun i j => .bl (decide (j < i))
abbrev rGe : R2 := rI0 fun i j => .bl (decide (j ≤ i))
abbrev rIsN : R2 := fun x y H Q => y = .non ∧ Q (.bl (decide (x = .non))) H
abbrev rNtN : R2 := fun x y H Q => y = .non ∧ Q (.bl (!decide (x = .non))) H
abbrev rNeg : V → Hp → VK → Prop := rU fun i => .int (-i)
abbrev rCatS : R2 := fun x y H Q => ∃ i j, x = .str i ∧ y = .str j ∧ i.length + j.length ≤ sizeLine ∧ Q (.str (i ++ j)) H
abbrev rInt1 : List V → Hp → VK → Prop := fun xs H Q => (∃ i, xs = [.int i] ∧ Q (.int i) H) ∨ ∃ k, xs = [.bl k] ∧ Q (.int (if k then 1 else 0)) H
abbrev rLenQ (K : PySem.W.Frag) : List V → Hp → VK → Prop := fun xs H Q => ∃ p ys, xs = [.ref p] ∧ (SqL K H p ys ∨ SqT K H p ys) ∧ Q (.int ys.length) H
abbrev rTupOf (K : PySem.W.Frag) : List V → Hp → VK → Prop := fun xs H Q => ∃ p ys, xs = [.ref p] ∧ ((SqL K H p ys ∧ ∀ l, H l = none → Q (.ref l) (upd H l (.tup ys))) ∨ (SqT K H p ys ∧ Q (.ref p) H))
abbrev rLstOf (K : PySem.W.Frag) : List V → Hp → VK → Prop := fun xs H Q => ∃ p ys, xs = [.ref p] ∧ (SqL K H p ys ∨ SqT K H p ys) ∧ ∀ l, H l = none → Q (.ref l) (upd H l (.lst ys))

/-! ### the heap grows: all but the objects in B stands as it stood -/
def Kp (B : Addr → Prop) (H H' : Hp) : Prop := ∀ a o, H a = some o → ¬ B a → H' a = some o
theorem Kp.refl (B : Addr → Prop) (H : Hp) : Kp B H H := fun _ _ h _ => h
theorem Kp.trans {B : Addr → Prop} {H H1 H2 : Hp} (a : Kp B H H1) (b : Kp B H1 H2) : Kp B H H2 := fun x o h n => b x o (a x o h n) n
theorem Kp.mono {B B' : Addr → Prop} {H H' : Hp} (a : Kp B H H') (h : ∀ x, B x → B' x) : Kp B' H H' := fun x o e n => a x o e fun z => n (h x z)
theorem Kp.same {B : Addr → Prop} {H H' : Hp} (a : Same H H') : Kp B H H' := fun x o e _ => a x o e
theorem Kp.new {B : Addr → Prop} {H : Hp} {p : Addr} {o : HO} (h : H p = none) : Kp B H (upd H p o) := fun x u e _ => by rw [upd_ne (ne_of_none e h)]; exact e
theorem Kp.upd {B : Addr → Prop} {H : Hp} {p : Addr} {o : HO} (h : B p) : Kp B H (upd H p o) := fun x u e n => by
  rw [upd_ne (fun z => n (by rw [z]; exact h))]; exact e
/-- behind a change of what was not there at the start -/
theorem Kp.late {B : Addr → Prop} {H H1 : Hp} {p : Addr} {o : HO} (a : Kp B H H1) (h : H p = none) : Kp B H (L2.upd H1 p o) := fun x u e n => by
  rw [upd_ne (ne_of_none e h)]; exact a x u e n
theorem Kp.at {B : Addr → Prop} {H H' : Hp} {a : Addr} {o : HO} (k : Kp B H H') (h : H a = some o) (n : ¬ B a) : H' a = some o := k a o h n
/-- a place that is free behind was free ahead (unless in B) -/
theorem Kp.free {B : Addr → Prop} {H H' : Hp} (k : Kp B H H') {l : Addr} (h : H' l = none) (n : ¬ B l) : H l = none := by
  cases q : H l with
  | none => rfl
  | some o => rw [k l o q n] at h; cases h
/-- only what may change stands in B -/
def NoTup (B : Addr → Prop) (H : Hp) : Prop := ∀ a, B a → ∃ o, H a = some o ∧ (∀ xs, o ≠ .tup xs) ∧ ∀ ob u, o ≠ .frz ob u
theorem Kp.sqT {B : Addr → Prop} {K : PySem.W.Frag} {H H' : Hp} {a : Addr} {xs : List V} (k : Kp B H H') (nt : NoTup B H) (h : SqT K H a xs) : SqT K H' a xs := by
  rcases h with (h | ⟨o, h⟩) | h
  · refine .inl (.inl (k _ _ h fun z => ?_))
    obtain ⟨u, e, n, _⟩ := nt a z
    rw [h] at e; cases e; exact n _ rfl
  · refine .inl (.inr ⟨o, k _ _ h fun z => ?_⟩)
    obtain ⟨u, e, _, n⟩ := nt a z
    rw [h] at e; cases e; exact n _ _ rfl
  · exact .inr h
theorem Kp.sqL {B : Addr → Prop} {K : PySem.W.Frag} {H H' : Hp} {a : Addr} {xs : List V} (k : Kp B H H') (n : ¬ B a) (h : SqL K H a xs) : SqL K H' a xs := by
  rcases h with (h | ⟨o, h⟩) | h
  · exact .inl (.inl (k _ _ h n))
  · exact .inl (.inr ⟨o, k _ _ h n⟩)
  · exact .inr h

/-! ### decided tests -/
theorem ifT {A B : Prop} {c : Bool} (e : c = true) (h : A) : if c = true then A else B := by rw [if_pos e]; exact h
theorem ifF {A B : Prop} {c : Bool} (e : c = false) (h : B) : if c = true then A else B := by rw [if_neg (by rw [e]; decide)]; exact h
theorem ifB {A B : Prop} {c : Bool} (h1 : c = true → A) (h2 : c = false → B) : if c = true then A else B := by
  cases e : c with
  | true => exact ifT rfl (h1 e)
  | false => exact ifF rfl (h2 e)
theorem dT {p : Prop} [Decidable p] (h : p) : decide p = true := decide_eq_true h
theorem dF {p : Prop} [Decidable p] (h : ¬ p) : decide p = false := decide_eq_false h
end Lp

/-! L1: take, kinds, above, under. -/
namespace Lp
open PySem PySem.Spec PyProof.Rows L2
def t_law_take (K : PySem.W.Frag) : TS :=
  tSeq (tIfS (tTest (tOp (rEqD K) (tVar 0) (tLst (tNil)))) (tRet (tC (.int 0))) (tNext)) (tSeq (tAsg (tOp (rIxL K) (tVar 0) (tC (.int 0))) (gName 2)) (tSeq (tAsg (tOp rDvW (tVar 2) (tVar 1)) (gSub (tVar 0) (tC (.int 0)) rSetL)) (tSeq (tIfS (tOr (tTest (tOp rEq (tOp (rIxL K) (tVar 0) (tC (.int 0))) (tC (.int 0)))) (tTest (tOp rEq (tOp (rIxL K) (tVar 0) (tC (.int 0))) (tUn rNeg (tC (.int 1)))))) (tDrop (tBM K "list" rPopAt (tVar 0) (tCons (tC (.int 0)) (tNil)))) (tNext)) (tRet (tOp rMdI (tVar 2) (tVar 1))))))

def t_law_kinds (K : PySem.W.Frag) (sp_law_take : Sp) : TS :=
  tSeq (tAsg (tLst (tNil)) (gName 2)) (tSeq (tFor (iRng1 (tCons (tOp rAdI (tC (.int 1)) (tCall sp_law_take [] E0 (tCons (tVar 0) (tCons (tVar 1) (tNil))))) (tNil))) (gName 3) (tSeq (tAsg (tCall sp_law_take [] E0 (tCons (tVar 0) (tCons (tOp rAdI (tVar 3) (tC (.int 1))) (tNil)))) (gName 4)) (tDrop (tBM K "list" rAppend (tVar 2) (tCons (tOp (rIxL K) (tLst (tCons (tC .non) (tCons (tOp rSbI (tVar 4) (tC (.int 1))) (tNil)))) (tCB rInt1 (tCons (tOp rGt (tVar 4) (tC (.int 0))) (tNil)))) (tNil)))))) (tRet (tCB (rTupOf K) (tCons (tVar 2) (tNil)))))

def t_law_above (K : PySem.W.Frag) : TS :=
  tSeq (tAsg (tLst (tCons (tVar 1) (tNil))) (gName 2)) (tSeq (tFor (iRng1 (tCons (tCB (rLenQ K) (tCons (tVar 0) (tNil))) (tNil))) (gName 3) (tSeq (tAsg (tOp (rIxT K) (tVar 0) (tOp (rIxL K) (tVar 2) (tUn rNeg (tC (.int 1))))) (gName 4)) (tIfS (tTest (tOp rNtN (tVar 4) (tC .non))) (tDrop (tBM K "list" rAppend (tVar 2) (tCons (tVar 4) (tNil)))) (tNext)))) (tRet (tVar 2)))

def t_under (K : PySem.W.Frag) : TS :=
  tSeq (tWhile (tAnd (tTest (tOp rNtN (tVar 1) (tC .non))) (tTest (tOp rNe (tVar 1) (tVar 2)))) (tAsg (tOp (rIxT K) (tVar 0) (tVar 1)) (gName 1))) (tRet (tOp rNtN (tVar 1) (tC .non)))

theorem sz_lt1 {n : Nat} (h : n < 1000000) : n < sizeLine := Nat.lt_of_lt_of_le h (by decide)
theorem sz_le1 {n : Nat} (h : n ≤ 1000000) : n ≤ sizeLine := Nat.le_trans h (by decide)
abbrev N_law_take : List Str := ["_law_box", "_law_many", "_law_number"]

theorem dp_ints {K : PySem.W.Frag} {H : Hp} : ∀ l : List Int, DpAll K H (l.map V.int) (l.map PyData.int)
  | [] => .nil
  | i :: r => .cons (.int i) (dp_ints r)
theorem lay_ints : ∀ l : List Int, PyData.canLayAll0 (l.map PyData.int) = true
  | [] => rfl
  | i :: r => by simp [PyData.canLayAll0, PyData.canLay0, lay_ints r]
theorem dep_ints : ∀ l : List Int, PyData.depthAll (l.map PyData.int) ≤ 1
  | [] => by simp [PyData.depthAll]
  | i :: r => by have := dep_ints r; simp [PyData.depthAll, PyData.depth]; omega
theorem shaped_ints (l : List Int) : SeqAt.shaped (.list (l.map PyData.int)) = true := by
  have := dep_ints l
  simp [SeqAt.shaped, PyData.canLay0, lay_ints, PyData.depth]
  omega
theorem eqv_ints_nil (l : List Int) : PyData.eqv (.list (l.map PyData.int)) (.list []) = l.isEmpty := by
  cases l <;> simp [PyData.eqv, PyData.eqvAll]

theorem ixN_n {n j : Nat} (hj : j < n) : ixN n (j : Int) = some j := by
  unfold ixN
  rw [if_pos (by omega), if_pos (by omega)]
  simp
theorem seq0 {n : Nat} : seqIndex? 0 (n + 1) = some 0 := by
  unfold seqIndex?
  simp
/-- the box: a list of ints at b -/
def spTake : Sp := fun vs H Q _ => ∃ (b : Addr) (l : List Int) (m : Int), vs = [.ref b, .int m] ∧ H b = some (.lst (l.map V.int)) ∧ 0 < m ∧ m ≤ 2000000 ∧
  ∀ (r : Int) (l' : List Int) (H' : Hp), 0 ≤ r → r < m → H' b = some (.lst (l'.map V.int)) → Kp (fun x => x = b) H H' → Q (.int r) H'

theorem rd_take {K : PySem.W.Frag} (vs : List V) (H : Hp) (Q : VK) (E : XK) (h : spTake vs H Q E) : t_law_take K { nx := fun _ H' => Q .non H', rt := Q } (start N_law_take vs) H := by
  obtain ⟨b, l, m, rfl, hb, hm, hm2, k⟩ := h
  refine ⟨_, rfl, (by show (0 : Nat) ≤ sizeLine; decide), fun p hp => ?_⟩
  have hb1 : L2.upd H p (.lst []) b = some (.lst (l.map V.int)) := by rw [upd_ne (ne_of_none hb hp)]; exact hb
  refine ⟨_, _, .lst (SqL.of hb1) (dp_ints l), .lst (SqL.of upd_same) .nil, shaped_ints l, rfl, _, rfl, ?_⟩
  rw [eqv_ints_nil]
  refine ifB (fun e => ?_) (fun e => ?_)
  · exact k 0 l _ (by omega) hm hb1 (Kp.new hp)
  · cases l with
    | nil => cases e
    | cons x r =>
      refine ⟨_, rfl, b, _, 0, .int x, rfl, rfl, SqL.of hb1, atI_nat (j := 0) rfl, ?_⟩
      refine ⟨_, rfl, _, rfl, x, m, rfl, rfl, wide_div (b := 30) hm (by omega) (by decide) (by decide), ?_⟩
      refine ⟨_, rfl, b, _, 0, 0, rfl, rfl, hb1, ixN_n (j := 0) (Nat.succ_pos _), ?_⟩
      have hb2 : L2.upd (L2.upd H p (.lst [])) b (.lst ((V.int (x / m)) :: r.map V.int)) b = some (.lst ((V.int (x / m)) :: r.map V.int)) := upd_same
      have kp : Kp (fun y => y = b) H (L2.upd (L2.upd H p (.lst [])) b (.lst ((V.int (x / m)) :: r.map V.int))) := (Kp.new hp).trans (Kp.upd rfl)
      have fin : ∀ H', ((∃ l' : List Int, H' b = some (.lst (l'.map V.int))) ∧ Kp (fun y => y = b) H H') → (tRet (tOp rMdI (tVar 2) (tVar 1))) { nx := fun _ H' => Q .non H', rt := Q } [some (.ref b), some (.int m), some (.int x)] H' := by
        intro H' ⟨⟨l', e⟩, kp'⟩
        exact ⟨_, rfl, _, rfl, x, m, rfl, rfl, hm, k _ l' H' (Int.emod_nonneg _ (by omega)) (Int.emod_lt_of_pos _ hm) e kp'⟩
      have pop : (tSeq (tDrop (tBM K "list" rPopAt (tVar 0) (tCons (tC (.int 0)) tNil))) (tRet (tOp rMdI (tVar 2) (tVar 1)))) { nx := fun _ H' => Q .non H', rt := Q } [some (.ref b), some (.int m), some (.int x)] (L2.upd (L2.upd H p (.lst [])) b (.lst ((V.int (x / m)) :: r.map V.int))) := by
        refine ⟨_, rfl, .inl ⟨rfl, _, SqL.of hb2⟩, b, _, 0, 0, _, rfl, rfl, hb2, by decide, by decide, seq0, rfl, ?_⟩
        exact fin _ ⟨⟨r, upd_same⟩, kp.trans (Kp.upd rfl)⟩
      have go : (tRet (tOp rMdI (tVar 2) (tVar 1))) { nx := fun _ H' => Q .non H', rt := Q } [some (.ref b), some (.int m), some (.int x)] (L2.upd (L2.upd H p (.lst [])) b (.lst ((V.int (x / m)) :: r.map V.int))) := fin _ ⟨⟨(x / m) :: r, hb2⟩, kp⟩
      refine ⟨_, rfl, b, _, 0, _, rfl, rfl, SqL.of hb2, atI_nat (j := 0) rfl, rfl, _, rfl, ifB (fun _ => pop) fun _ => ?_⟩
      refine ⟨_, rfl, b, _, 0, _, rfl, rfl, SqL.of hb2, atI_nat (j := 0) rfl, _, rfl, rfl, _, rfl, ifB (fun _ => pop) fun _ => go⟩

/-! ### heaps that grow alone -/
theorem _root_.L2.Same.sqT {K : PySem.W.Frag} {H H' : Hp} {a : Addr} {xs : List V} (e : Same H H') (h : SqT K H a xs) : SqT K H' a xs := by
  rcases h with (h | ⟨o, h⟩) | h
  · exact .inl (.inl (e _ _ h))
  · exact .inl (.inr ⟨o, e _ _ h⟩)
  · exact .inr h
/-! ### kinds -/
def kindV : Option Nat → V
  | none => .non
  | some j => .int (j : Int)
def WfK (ks : List (Option Nat)) : Prop := ∀ (i j : Nat), ks[i]? = some (some j) → j < i
abbrev N_law_kinds : List Str := ["_law_box", "_law_most", "_law_kinds_here", "_law_k", "_law_above_here"]
def spKinds : Sp := fun vs H Q _ => ∃ (b : Addr) (l : List Int) (m : Int), vs = [.ref b, .int m] ∧ H b = some (.lst (l.map V.int)) ∧ 0 < m ∧ m ≤ 1000 ∧
  ∀ (a : Addr) (ks : List (Option Nat)) (l' : List Int) (H' : Hp), WfK ks → 0 < ks.length → (ks.length : Int) ≤ m → H' a = some (.tup (ks.map kindV)) → H a = none → H' b = some (.lst (l'.map V.int)) → Kp (fun x => x = b) H H' → Q (.ref a) H'
theorem WfK.snoc {ks : List (Option Nat)} (w : WfK ks) {o : Option Nat} (h : ∀ j, o = some j → j < ks.length) : WfK (ks ++ [o]) := by
  intro i j e
  by_cases hi : i < ks.length
  · rw [List.getElem?_append_left hi] at e
    exact w i j e
  · rw [List.getElem?_append_right (by omega)] at e
    have hi2 : i = ks.length := by
      have := (List.getElem?_eq_some_iff.mp e).1
      simp at this
      omega
    subst hi2
    simp at e
    exact h j e
theorem rd_kinds {K : PySem.W.Frag} (vs : List V) (H : Hp) (Q : VK) (E : XK) (h : spKinds vs H Q E) : t_law_kinds K spTake { nx := fun _ H' => Q .non H', rt := Q } (start N_law_kinds vs) H := by
  obtain ⟨b, l, m, rfl, hb, hm, hm2, k⟩ := h
  refine ⟨(by show (0 : Nat) ≤ sizeLine; decide), fun p hp => ?_⟩
  have hb1 : L2.upd H p (.lst []) b = some (.lst (l.map V.int)) := by rw [upd_ne (ne_of_none hb hp)]; exact hb
  refine ⟨_, rfl, _, rfl, b, l, m, rfl, hb1, hm, by omega, fun r l1 H1 h0 h1 hb2 kp1 => ?_⟩
  have kpH : Kp (fun x => x = b) H H1 := (Kp.new hp).trans kp1
  have pb : p ≠ b := fun e => by rw [e, hb] at hp; cases hp
  refine ⟨_, _, rfl, rfl, _, rfl, by omega, by omega, for_range (lo := 0) (n := (1 + r).toNat) (fun i σ H2 => ∃ (ks : List (Option Nat)) (l2 : List Int) (v3 v4 : Option V), σ = [some (.ref b), some (.int m), some (.ref p), v3, v4] ∧
      ks.length = i ∧ WfK ks ∧ H2 p = some (.lst (ks.map kindV)) ∧ H2 b = some (.lst (l2.map V.int)) ∧ Kp (fun x => x = b) H H2)
    ⟨[], l1, none, none, rfl, rfl, (by intro i j e; simp at e), kp1 p _ upd_same pb, hb2, kpH⟩ ?_ ?_⟩
  · rintro i σ H2 hi ⟨ks, l2, v3, v4, rfl, hl, wf, hp2, hb3, kp2⟩
    refine ⟨_, rfl, _, rfl, _, _, rfl, rfl, b, l2, _, rfl, hb3, by omega, by omega, fun x l3 H3 x0 x1 hb4 kp3 => ?_⟩
    have hp3 := kp3 p _ hp2 pb
    refine ⟨_, rfl, .inl ⟨rfl, _, SqL.of hp3⟩, _, rfl, _, _, rfl, rfl, (by show (2 : Nat) ≤ sizeLine; decide), fun q hq => ?_⟩
    have pq : p ≠ q := ne_of_none hp3 hq
    have bq : b ≠ q := ne_of_none hb4 hq
    have fin : ∀ (o : Option Nat), (∀ j, o = some j → j < ks.length) → (0 : Nat) < 1 → ks.length < sizeLine ∧ (∃ (ks' : List (Option Nat)) (l2 : List Int) (v3 v4 : Option V), [some (V.ref b), some (.int m), some (.ref p), some (.int (0 + (i : Int))), some (.int x)] = [some (.ref b), some (.int m), some (.ref p), v3, v4] ∧
      ks'.length = i + 1 ∧ WfK ks' ∧ (L2.upd (L2.upd H3 q (.lst [.non, .int (x - 1)])) p (.lst (ks.map kindV ++ [kindV o]))) p = some (.lst (ks'.map kindV)) ∧ (L2.upd (L2.upd H3 q (.lst [.non, .int (x - 1)])) p (.lst (ks.map kindV ++ [kindV o]))) b = some (.lst (l2.map V.int)) ∧ Kp (fun x => x = b) H (L2.upd (L2.upd H3 q (.lst [.non, .int (x - 1)])) p (.lst (ks.map kindV ++ [kindV o])))) := by
      intro o ho _
      refine ⟨sz_lt1 (by omega), ks ++ [o], l3, _, _, rfl, by simp; omega, wf.snoc ho, by rw [upd_same, List.map_append]; rfl, by rw [upd_ne pb.symm, upd_ne bq]; exact hb4, ?_⟩
      exact ((kp2.trans kp3).trans (Kp.new hq)).late hp
    refine ⟨_, rfl, _, _, rfl, rfl, .inr ⟨_, rfl, ?_⟩⟩
    by_cases hx : 0 < x
    · have e1 : (if decide ((0 : Int) < x) = true then (1 : Int) else 0) = 1 := by rw [if_pos (decide_eq_true hx)]
      rw [e1]
      obtain ⟨z1, z2⟩ := fin (some (x - 1).toNat) (fun j e => by cases e; omega) (by decide)
      have e2 : V.int (x - 1) = kindV (some (x - 1).toNat) := by show V.int (x - 1) = V.int ((x - 1).toNat : Int); rw [Int.toNat_of_nonneg (by omega)]
      refine ⟨q, _, 1, .int (x - 1), rfl, rfl, SqL.of upd_same, atI_nat (j := 1) rfl, p, ks.map kindV, _, rfl, rfl, by rw [upd_ne pq]; exact hp3, by rw [List.length_map]; exact z1, ?_⟩
      rw [← e2] at z2
      exact z2
    · have e1 : (if decide ((0 : Int) < x) = true then (1 : Int) else 0) = 0 := by rw [if_neg (by rw [decide_eq_false hx]; decide)]
      rw [e1]
      obtain ⟨z1, z2⟩ := fin none (fun j e => by cases e) (by decide)
      exact ⟨q, _, 0, .non, rfl, rfl, SqL.of upd_same, atI_nat (j := 0) rfl, p, ks.map kindV, _, rfl, rfl, by rw [upd_ne pq]; exact hp3, by rw [List.length_map]; exact z1, z2⟩
  · rintro σ H2 ⟨ks, l2, v3, v4, rfl, hl, wf, hp2, hb3, kp2⟩
    refine ⟨_, rfl, p, _, rfl, .inl ⟨SqL.of hp2, fun q hq => ?_⟩⟩
    have bq : b ≠ q := ne_of_none hb3 hq
    exact k q ks l2 _ wf (by omega) (by omega) upd_same (kp2.free hq fun e => bq e.symm) (by rw [upd_ne bq]; exact hb3) (kp2.trans (Kp.new hq))
/-! ### above, under -/
/-- the kinds that one comes to by going up -/
def chain (ks : List (Option Nat)) : Nat → Nat → List Nat
  | 0, _ => []
  | f + 1, k => k :: (match ks[k]? with
    | some (some j) => chain ks f j
    | _ => [])
theorem chain_fuel {ks : List (Option Nat)} (w : WfK ks) : ∀ (f g k : Nat), k < f → k < g → chain ks f k = chain ks g k
  | 0, _, _, h, _ => absurd h (Nat.not_lt_zero _)
  | _, 0, _, _, h => absurd h (Nat.not_lt_zero _)
  | f + 1, g + 1, k, hf, hg => by
    unfold chain
    cases e : ks[k]? with
    | none => rfl
    | some o =>
      cases o with
      | none => rfl
      | some j =>
        have := w k j e
        show k :: chain ks f j = k :: chain ks g j
        rw [chain_fuel w f g j (by omega) (by omega)]
/-- kind k is other, or lies under it -/
def under (ks : List (Option Nat)) (k o : Nat) : Bool := decide (o ∈ chain ks (k + 1) k)
theorem under_eq {ks : List (Option Nat)} (w : WfK ks) (k o : Nat) : under ks k o = (decide (k = o) || match ks[k]? with
    | some (some j) => under ks j o
    | _ => false) := by
  unfold under
  conv => lhs; unfold chain
  cases e : ks[k]? with
  | none => simp [eq_comm]
  | some q =>
    cases q with
    | none => simp [eq_comm]
    | some j =>
      have := w k j e
      show decide (o ∈ k :: chain ks k j) = (decide (k = o) || decide (o ∈ chain ks (j + 1) j))
      rw [chain_fuel w k (j + 1) j (by omega) (by omega)]
      simp [eq_comm]
/-- under(kinds, kind, other): kinds at a -/
def spUnder (K : PySem.W.Frag) : Sp := fun vs H Q _ => ∃ (a : Addr) (ks : List (Option Nat)) (k o : Nat), vs = [.ref a, .int (k : Int), .int (o : Int)] ∧ SqT K H a (ks.map kindV) ∧ WfK ks ∧ k < ks.length ∧ Q (.bl (under ks k o)) H
abbrev N_under : List Str := ["kinds", "kind", "other"]
theorem rd_under {K : PySem.W.Frag} (vs : List V) (H : Hp) (Q : VK) (E : XK) (h : spUnder K vs H Q E) : t_under K { nx := fun _ H' => Q .non H', rt := Q } (start N_under vs) H := by
  obtain ⟨a, ks, k, o, rfl, hS, wf, hk, q⟩ := h
  refine ⟨fun m σ H' => H' = H ∧ ∃ c : Option Nat, σ = [some (.ref a), some (kindV c), some (.int (o : Int))] ∧ (∀ j, c = some j → j < ks.length ∧ under ks j o = under ks k o) ∧ (c = none → under ks k o = false) ∧ m = (match c with
      | some j => j + 1
      | none => 0), ⟨_, rfl, some k, rfl, (fun j e => by cases e; exact ⟨hk, rfl⟩), (fun e => by cases e), rfl⟩, ?_⟩
  rintro m σ H' ⟨rfl, c, rfl, h1, h2, rfl⟩
  refine ⟨_, rfl, rfl, _, rfl, ?_⟩
  cases c with
  | none =>
    refine ifF rfl (ifF rfl ?_)
    refine ⟨_, rfl, rfl, ?_⟩
    show Q (.bl (!decide (V.non = V.non))) H'
    rw [dT rfl, ← show under ks k o = !true from h2 rfl]
    exact q
  | some j =>
    obtain ⟨hj, ej⟩ := h1 j rfl
    refine ifT rfl ⟨_, rfl, _, rfl, rfl, _, rfl, ?_⟩
    refine ifB (fun e => ?_) (fun e => ?_)
    · have ne : j ≠ o := fun z => by
        rw [z] at e
        simp [kindV] at e
      cases e2 : ks[j]? with
      | none => exact absurd (List.getElem?_eq_none_iff.mp e2) (by omega)
      | some d =>
        refine ⟨fun σ' H2 => ∃ m', m' < j + 1 ∧ (H2 = H' ∧ ∃ c : Option Nat, σ' = [some (.ref a), some (kindV c), some (.int (o : Int))] ∧ (∀ j, c = some j → j < ks.length ∧ under ks j o = under ks k o) ∧ (c = none → under ks k o = false) ∧ m' = (match c with
          | some j => j + 1
          | none => 0)), fun _ _ z => z, ?_⟩
        have eu := under_eq wf j o
        rw [ej, e2, decide_eq_false ne, Bool.false_or] at eu
        refine ⟨_, rfl, _, rfl, a, _, _, kindV d, rfl, rfl, hS, atI_nat (j := j) (by rw [List.getElem?_map, e2]; rfl), ?_⟩
        cases d with
        | none => exact ⟨0, by omega, rfl, none, rfl, (fun _ z => by cases z), (fun _ => eu), rfl⟩
        | some d =>
          have := wf j d e2
          exact ⟨d + 1, by omega, rfl, some d, rfl, (fun _ z => by cases z; exact ⟨by omega, eu.symm⟩), (fun z => by cases z), rfl⟩
    · have eo : j = o := by
        simp [kindV] at e
        omega
      subst eo
      have eu := under_eq wf j j
      rw [ej, dT rfl, Bool.true_or] at eu
      refine ⟨_, rfl, rfl, ?_⟩
      show Q (.bl (!decide (kindV (some j) = V.non))) H'
      rw [dF (by intro z; cases z)]
      rw [eu] at q
      exact q
/-- _law_above(kinds, kind) -/
def spAbove (K : PySem.W.Frag) : Sp := fun vs H Q _ => ∃ (a : Addr) (ks : List (Option Nat)) (k : Nat), vs = [.ref a, .int (k : Int)] ∧ SqT K H a (ks.map kindV) ∧ WfK ks ∧ k < ks.length ∧ ks.length ≤ 1000 ∧
  ∀ (r : Addr) (row : List Nat) (H' : Hp), (∀ o, o ∈ row ↔ under ks k o = true) → H r = none → H' r = some (.lst (row.map fun n : Nat => V.int (n : Int))) → Same H H' → Q (.ref r) H'
abbrev N_law_above : List Str := ["_law_kinds_here", "_law_kind", "_law_row", "_law_k", "_law_last"]
theorem rd_above {K : PySem.W.Frag} (vs : List V) (H : Hp) (Q : VK) (E : XK) (h : spAbove K vs H Q E) : t_law_above K { nx := fun _ H' => Q .non H', rt := Q } (start N_law_above vs) H := by
  obtain ⟨a, ks, k, rfl, hS, wf, hk, hz, q⟩ := h
  refine ⟨_, rfl, (by show (1 : Nat) ≤ sizeLine; decide), fun p hp => ?_⟩
  have s0 : ∀ {o : HO}, Same H (L2.upd H p o) := fun b u e => by rw [upd_ne (ne_of_none e hp)]; exact e
  refine ⟨_, rfl, a, _, rfl, .inr (s0.sqT hS), _, rfl, by omega, by rw [List.length_map]; omega, ?_⟩
  rw [List.length_map, Int.toNat_natCast]
  refine for_range (lo := 0) (n := ks.length) (fun i σ H2 => ∃ (row : List Nat) (c : Nat) (v3 v4 : Option V), σ = [some (.ref a), some (.int (k : Int)), some (.ref p), v3, v4] ∧
      H2 p = some (.lst ((row ++ [c]).map fun n : Nat => V.int (n : Int))) ∧ Same H H2 ∧ c < ks.length ∧ row.length ≤ i ∧ (∀ o, under ks k o = true ↔ (o ∈ row ∨ under ks c o = true)) ∧ (ks[c]? = some none ∨ c + i < ks.length))
    ⟨[], k, none, none, rfl, upd_same, s0, hk, Nat.le_refl _, by simp, .inr (by omega)⟩ ?_ ?_
  · rintro i σ H2 hi ⟨row, c, v3, v4, rfl, hp2, s2, hc, hl, hu, ht⟩
    have hp2' : H2 p = some (.lst (row.map (fun n : Nat => V.int (n : Int)) ++ [V.int (c : Int)])) := by rw [hp2, List.map_append]; rfl
    cases e : ks[c]? with
    | none => exact absurd (List.getElem?_eq_none_iff.mp e) (by omega)
    | some d =>
      refine ⟨_, rfl, _, rfl, _, rfl, p, _, -1, .int (c : Int), rfl, rfl, SqL.of hp2', atI_last _ _, a, _, _, kindV d, rfl, rfl, s2.sqT hS, atI_nat (j := c) (by rw [List.getElem?_map, e]; rfl), ?_⟩
      refine ⟨_, rfl, rfl, _, rfl, ?_⟩
      have eu := fun o => under_eq wf c o
      cases d with
      | none =>
        refine ifF rfl ?_
        exact ⟨row, c, _, _, rfl, hp2, s2, hc, by omega, hu, .inl e⟩
      | some d =>
        have hd := wf c d e
        refine ifT rfl ⟨_, rfl, .inl ⟨rfl, _, SqL.of hp2⟩, _, rfl, p, _, _, rfl, rfl, hp2, sz_lt1 (by simp; omega), ?_⟩
        refine ⟨row ++ [c], d, _, _, rfl, by rw [upd_same]; simp [kindV], fun b u z => by rw [upd_ne (ne_of_none z hp)]; exact s2 b u z, by omega, by simp; omega, fun o => ?_, ?_⟩
        · have e1 := eu o
          rw [e] at e1
          rw [hu o, e1]
          simp only [Bool.or_eq_true, decide_eq_true_eq, List.mem_append, List.mem_singleton]
          constructor
          · rintro (z | z | z)
            · exact .inl (.inl z)
            · exact .inl (.inr z.symm)
            · exact .inr z
          · rintro ((z | z) | z)
            · exact .inl z
            · exact .inr (.inl z.symm)
            · exact .inr (.inr z)
        · rcases ht with ht | ht
          · rw [e] at ht; cases ht
          · exact .inr (by omega)
  · rintro σ H2 ⟨row, c, v3, v4, rfl, hp2, s2, hc, hl, hu, ht⟩
    have hroot : ks[c]? = some none := by
      rcases ht with ht | ht
      · exact ht
      · omega
    refine ⟨_, rfl, q p (row ++ [c]) H2 (fun o => ?_) hp hp2 s2⟩
    have eu := under_eq wf c o
    rw [hroot] at eu
    rw [hu o, eu]
    simp only [Bool.or_false, decide_eq_true_eq, List.mem_append, List.mem_singleton, eq_comm (a := o)]
end Lp

/-! Ld: data that is tuples throughout, and stays; expressions. -/
namespace Lp
open PySem PySem.Spec PyProof.Rows L2

/-! ### what stays by itself: tuples, and what is locked -/
structure Tk (H H' : Hp) : Prop where
  tup : ∀ a xs, H a = some (.tup xs) → H' a = some (.tup xs)
  frz : ∀ a o u, H a = some (.frz o u) → H' a = some (.frz o u)
theorem Tk.refl (H : Hp) : Tk H H := ⟨fun _ _ h => h, fun _ _ _ h => h⟩
theorem Tk.trans {H H1 H2 : Hp} (a : Tk H H1) (b : Tk H1 H2) : Tk H H2 := ⟨fun x xs h => b.tup x xs (a.tup x xs h), fun x o u h => b.frz x o u (a.frz x o u h)⟩
theorem Tk.same {H H' : Hp} (s : Same H H') : Tk H H' := ⟨fun a _ h => s a _ h, fun a _ _ h => s a _ h⟩
theorem Tk.new {H : Hp} {p : Addr} {o : HO} (h : H p = none) : Tk H (upd H p o) := ⟨fun a xs e => by rw [upd_ne (ne_of_none e h)]; exact e, fun a o u e => by rw [upd_ne (ne_of_none e h)]; exact e⟩
theorem Tk.lst {H : Hp} {p : Addr} {xs : List V} {o : HO} (h : H p = some (.lst xs)) : Tk H (upd H p o) :=
  ⟨fun a ys e => by rw [upd_ne (ne_of e h (by intro z; cases z))]; exact e, fun a o u e => by rw [upd_ne (ne_of e h (by intro z; cases z))]; exact e⟩
theorem Tk.ins {H : Hp} {p C dx : Addr} {fs : List (Str × V)} {o : HO} (h : H p = some (.ins C dx fs)) : Tk H (upd H p o) :=
  ⟨fun a ys e => by rw [upd_ne (ne_of e h (by intro z; cases z))]; exact e, fun a o u e => by rw [upd_ne (ne_of e h (by intro z; cases z))]; exact e⟩
/-- of a change of listed things that are lists or instances -/
theorem Kp.tk {B : Addr → Prop} {H H' : Hp} (k : Kp B H H') (nt : NoTup B H) : Tk H H' :=
  ⟨fun a xs e => k a _ e fun z => by obtain ⟨u, e2, n, _⟩ := nt a z; rw [e] at e2; cases e2; exact n _ rfl, fun a o u e => k a _ e fun z => by obtain ⟨v, e2, _, n⟩ := nt a z; rw [e] at e2; cases e2; exact n _ _ rfl⟩
theorem noTup1 {H : Hp} {b : Addr} {xs : List V} (h : H b = some (.lst xs)) : NoTup (fun x => x = b) H := fun a e => by
  cases (show a = b from e)
  exact ⟨.lst xs, h, (fun _ z => by cases z), (fun _ _ z => by cases z)⟩
theorem Kp.tk1 {H H' : Hp} {b : Addr} {xs : List V} (k : Kp (fun x => x = b) H H') (h : H b = some (.lst xs)) : Tk H H' := k.tk (noTup1 h)
theorem Tk.sqT {K : PySem.W.Frag} {H H' : Hp} {a : Addr} {xs : List V} (k : Tk H H') (h : SqT K H a xs) : SqT K H' a xs := by
  rcases h with (h | ⟨o, h⟩) | h
  · exact .inl (.inl (k.tup _ _ h))
  · exact .inl (.inr ⟨o, k.frz _ _ _ h⟩)
  · exact .inr h

/-! ### data of tuples -/
mutual
inductive Tp (K : PySem.W.Frag) (H : Hp) : V → PyData → Prop
  | non : Tp K H .non .none
  | bl (b : Bool) : Tp K H (.bl b) (.bool b)
  | int (i : Int) : Tp K H (.int i) (.int i)
  | str (x : Str) : Tp K H (.str x) (.str x)
  | tup {a : Addr} {xs : List V} {ds : List PyData} : SqT K H a xs → TpAll K H xs ds → Tp K H (.ref a) (.tuple ds)
inductive TpAll (K : PySem.W.Frag) (H : Hp) : List V → List PyData → Prop
  | nil : TpAll K H [] []
  | cons {v : V} {vs : List V} {d : PyData} {ds : List PyData} : Tp K H v d → TpAll K H vs ds → TpAll K H (v :: vs) (d :: ds)
end
section
variable {K : PySem.W.Frag} {H H' : Hp}
mutual
theorem Tp.tk (k : Tk H H') : ∀ (d : PyData) (v : V), Tp K H v d → Tp K H' v d
  | .none, _, h => by cases h; exact .non
  | .bool _, _, h => by cases h; exact .bl _
  | .int _, _, h => by cases h; exact .int _
  | .str _, _, h => by cases h; exact .str _
  | .tuple ds, _, h => by
    cases h with
    | tup hs ha => exact .tup (k.sqT hs) (TpAll.tk k ds _ ha)
  | .list _, _, h => by cases h
  | .dict _, _, h => by cases h
theorem TpAll.tk (k : Tk H H') : ∀ (ds : List PyData) (vs : List V), TpAll K H vs ds → TpAll K H' vs ds
  | [], _, h => by cases h; exact .nil
  | d :: ds, _, h => by
    cases h with
    | cons h1 h2 => exact .cons (Tp.tk k d _ h1) (TpAll.tk k ds _ h2)
end
mutual
theorem Tp.dp : ∀ (d : PyData) (v : V), Tp K H v d → Dp K H v d
  | .none, _, h => by cases h; exact .non
  | .bool _, _, h => by cases h; exact .bl _
  | .int _, _, h => by cases h; exact .int _
  | .str _, _, h => by cases h; exact .str _
  | .tuple ds, _, h => by
    cases h with
    | tup hs ha => exact .tup hs (TpAll.dp ds _ ha)
  | .list _, _, h => by cases h
  | .dict _, _, h => by cases h
theorem TpAll.dp : ∀ (ds : List PyData) (vs : List V), TpAll K H vs ds → DpAll K H vs ds
  | [], _, h => by cases h; exact .nil
  | d :: ds, _, h => by
    cases h with
    | cons h1 h2 => exact .cons (Tp.dp d _ h1) (TpAll.dp ds _ h2)
end
theorem Tp.mono {v : V} {d : PyData} (h : Tp K H v d) (k : Tk H H') : Tp K H' v d := Tp.tk k d v h
theorem TpAll.mono {vs : List V} {ds : List PyData} (h : TpAll K H vs ds) (k : Tk H H') : TpAll K H' vs ds := TpAll.tk k ds vs h
theorem Tp.intE {v : V} {i : Int} (h : Tp K H v (.int i)) : v = .int i := by cases h; rfl
theorem Tp.strE {v : V} {x : Str} (h : Tp K H v (.str x)) : v = .str x := by cases h; rfl
theorem Tp.nonE {v : V} (h : Tp K H v .none) : v = .non := by cases h; rfl
theorem Tp.tupE {v : V} {ds : List PyData} (h : Tp K H v (.tuple ds)) : ∃ a xs, v = .ref a ∧ SqT K H a xs ∧ TpAll K H xs ds := by
  cases h with
  | tup hs ha => exact ⟨_, _, rfl, hs, ha⟩
theorem TpAll.nilE {vs : List V} (h : TpAll K H vs []) : vs = [] := by cases h; rfl
theorem TpAll.consE {vs : List V} {d : PyData} {ds : List PyData} (h : TpAll K H vs (d :: ds)) : ∃ v r, vs = v :: r ∧ Tp K H v d ∧ TpAll K H r ds := by
  cases h with
  | cons h1 h2 => exact ⟨_, _, rfl, h1, h2⟩
theorem TpAll.length : ∀ {vs : List V} {ds : List PyData}, TpAll K H vs ds → vs.length = ds.length
  | _, [], h => by cases h; rfl
  | _, d :: ds, h => by
    cases h with
    | cons h1 h2 => simp [h2.length]
theorem TpAll.get : ∀ {vs : List V} {ds : List PyData} {i : Nat} {v : V}, TpAll K H vs ds → vs[i]? = some v → ∃ d, ds[i]? = some d ∧ Tp K H v d
  | _, [], i, v, h, e => by cases h; simp at e
  | _, d :: ds, 0, v, h, e => by
    cases h with
    | cons h1 h2 => simp at e; subst e; exact ⟨d, rfl, h1⟩
  | _, d :: ds, i + 1, v, h, e => by
    cases h with
    | cons h1 h2 =>
      obtain ⟨d', e', t⟩ := h2.get (i := i) (v := v) (by simpa using e)
      exact ⟨d', by simpa using e', t⟩
theorem TpAll.get' : ∀ {vs : List V} {ds : List PyData} {i : Nat} {d : PyData}, TpAll K H vs ds → ds[i]? = some d → ∃ v, vs[i]? = some v ∧ Tp K H v d
  | _, [], i, d, h, e => by simp at e
  | _, d0 :: ds, 0, d, h, e => by
    cases h with
    | cons h1 h2 => simp at e; subst e; exact ⟨_, rfl, h1⟩
  | _, d0 :: ds, i + 1, d, h, e => by
    cases h with
    | cons h1 h2 =>
      obtain ⟨v, e', t⟩ := h2.get' (i := i) (d := d) (by simpa using e)
      exact ⟨v, by simpa using e', t⟩
theorem TpAll.snoc : ∀ {vs : List V} {ds : List PyData} {v : V} {d : PyData}, TpAll K H vs ds → Tp K H v d → TpAll K H (vs ++ [v]) (ds ++ [d])
  | _, [], v, d, h, t => by cases h; exact .cons t .nil
  | _, d0 :: ds, v, d, h, t => by
    cases h with
    | cons h1 h2 => exact .cons h1 (h2.snoc t)
theorem TpAll.app : ∀ {vs us : List V} {ds es : List PyData}, TpAll K H vs ds → TpAll K H us es → TpAll K H (vs ++ us) (ds ++ es)
  | _, _, [], _, h, t => by cases h; exact t
  | _, _, d0 :: ds, _, h, t => by
    cases h with
    | cons h1 h2 => exact .cons h1 (h2.app t)
/-- two, three, four, five places -/
theorem Tp.tup1 {v : V} {d0 : PyData} (h : Tp K H v (.tuple [d0])) : ∃ a x0, v = .ref a ∧ SqT K H a [x0] ∧ Tp K H x0 d0 := by
  obtain ⟨a, xs, rfl, hs, ha⟩ := h.tupE
  obtain ⟨x0, r0, rfl, h0, ha⟩ := ha.consE
  cases ha.nilE
  exact ⟨a, x0, rfl, hs, h0⟩
theorem Tp.tup2 {v : V} {d0 d1 : PyData} (h : Tp K H v (.tuple [d0, d1])) : ∃ a x0 x1, v = .ref a ∧ SqT K H a [x0, x1] ∧ Tp K H x0 d0 ∧ Tp K H x1 d1 := by
  obtain ⟨a, xs, rfl, hs, ha⟩ := h.tupE
  obtain ⟨x0, r0, rfl, h0, ha⟩ := ha.consE
  obtain ⟨x1, r1, rfl, h1, ha⟩ := ha.consE
  cases ha.nilE
  exact ⟨a, x0, x1, rfl, hs, h0, h1⟩
theorem Tp.tup3 {v : V} {d0 d1 d2 : PyData} (h : Tp K H v (.tuple [d0, d1, d2])) : ∃ a x0 x1 x2, v = .ref a ∧ SqT K H a [x0, x1, x2] ∧ Tp K H x0 d0 ∧ Tp K H x1 d1 ∧ Tp K H x2 d2 := by
  obtain ⟨a, xs, rfl, hs, ha⟩ := h.tupE
  obtain ⟨x0, r0, rfl, h0, ha⟩ := ha.consE
  obtain ⟨x1, r1, rfl, h1, ha⟩ := ha.consE
  obtain ⟨x2, r2, rfl, h2, ha⟩ := ha.consE
  cases ha.nilE
  exact ⟨a, x0, x1, x2, rfl, hs, h0, h1, h2⟩
theorem Tp.tup4 {v : V} {d0 d1 d2 d3 : PyData} (h : Tp K H v (.tuple [d0, d1, d2, d3])) : ∃ a x0 x1 x2 x3, v = .ref a ∧ SqT K H a [x0, x1, x2, x3] ∧ Tp K H x0 d0 ∧ Tp K H x1 d1 ∧ Tp K H x2 d2 ∧ Tp K H x3 d3 := by
  obtain ⟨a, xs, rfl, hs, ha⟩ := h.tupE
  obtain ⟨x0, r0, rfl, h0, ha⟩ := ha.consE
  obtain ⟨x1, r1, rfl, h1, ha⟩ := ha.consE
  obtain ⟨x2, r2, rfl, h2, ha⟩ := ha.consE
  obtain ⟨x3, r3, rfl, h3, ha⟩ := ha.consE
  cases ha.nilE
  exact ⟨a, x0, x1, x2, x3, rfl, hs, h0, h1, h2, h3⟩
theorem Tp.tup5 {v : V} {d0 d1 d2 d3 d4 : PyData} (h : Tp K H v (.tuple [d0, d1, d2, d3, d4])) : ∃ a x0 x1 x2 x3 x4, v = .ref a ∧ SqT K H a [x0, x1, x2, x3, x4] ∧ Tp K H x0 d0 ∧ Tp K H x1 d1 ∧ Tp K H x2 d2 ∧ Tp K H x3 d3 ∧ Tp K H x4 d4 := by
  obtain ⟨a, xs, rfl, hs, ha⟩ := h.tupE
  obtain ⟨x0, r0, rfl, h0, ha⟩ := ha.consE
  obtain ⟨x1, r1, rfl, h1, ha⟩ := ha.consE
  obtain ⟨x2, r2, rfl, h2, ha⟩ := ha.consE
  obtain ⟨x3, r3, rfl, h3, ha⟩ := ha.consE
  obtain ⟨x4, r4, rfl, h4, ha⟩ := ha.consE
  cases ha.nilE
  exact ⟨a, x0, x1, x2, x3, x4, rfl, hs, h0, h1, h2, h3, h4⟩
/-- a new tuple -/
theorem Tp.mk {p : Addr} {xs : List V} {ds : List PyData} (hp : H p = none) (h : TpAll K H xs ds) : Tp K (upd H p (.tup xs)) (.ref p) (.tuple ds) := .tup (.inl (.inl upd_same)) (h.mono (Tk.new hp))
end

/-! ### expressions -/
inductive BOp where | add | sub | mul | less
  deriving DecidableEq
def BOp.s : BOp → Str
  | .add => "add" | .sub => "sub" | .mul => "mul" | .less => "less"
def BOp.ap : BOp → Int → Int → Int
  | .add, i, j => (i + j) % 10007
  | .sub, i, j => (i - j) % 10007
  | .mul, i, j => i * j % 10007
  | .less, i, j => if i < j then 1 else 0
inductive Ex where
  | num (n : Int)
  | var (k : Nat)
  | bin (o : BOp) (a b : Ex)
  deriving DecidableEq
def Ex.d : Ex → PyData
  | .num n => .tuple [.str "num", .int n]
  | .var k => .tuple [.str "var", .int (k : Int)]
  | .bin o a b => .tuple [.str o.s, a.d, b.d]
def Ex.val (σ : List Int) : Ex → Int
  | .num n => n
  | .var k => σ.getD k 0
  | .bin o a b => o.ap (a.val σ) (b.val σ)
def Ex.Wf : Ex → Prop
  | .num n => 0 ≤ n ∧ n < 1000
  | .var k => k < 8
  | .bin _ a b => a.Wf ∧ b.Wf
def Ex.dep : Ex → Nat
  | .num _ => 1
  | .var _ => 1
  | .bin _ a b => max a.dep b.dep + 1
/-- eight numbers from 0 to 10006 -/
def InR (σ : List Int) : Prop := σ.length = 8 ∧ ∀ n ∈ σ, 0 ≤ n ∧ n < 10007
theorem BOp.ap_in (o : BOp) (i j : Int) : 0 ≤ o.ap i j ∧ o.ap i j < 10007 := by
  cases o with
  | less => unfold BOp.ap; split <;> omega
  | _ => exact ⟨Int.emod_nonneg _ (by decide), Int.emod_lt_of_pos _ (by decide)⟩
theorem Ex.val_in {σ : List Int} (r : InR σ) : ∀ {e : Ex}, e.Wf → 0 ≤ e.val σ ∧ e.val σ < 10007
  | .num n, w => by
    have : 0 ≤ n ∧ n < 1000 := w
    show 0 ≤ n ∧ n < 10007
    omega
  | .var k, w => by
    have hk : k < σ.length := by rw [r.1]; exact w
    show 0 ≤ σ.getD k 0 ∧ σ.getD k 0 < 10007
    rw [List.getD_eq_getElem?_getD, List.getElem?_eq_getElem hk]
    exact r.2 _ (List.getElem_mem hk)
  | .bin o a b, _ => o.ap_in _ _
theorem BOp.ne {o : BOp} : (V.str o.s ≠ V.str "num") ∧ (V.str o.s ≠ V.str "var") := by cases o <;> decide
end Lp

/-! L2v: values of expressions: joined, value_of, the law's own, and its drawing of expressions. -/
namespace Lp
open PySem PySem.Spec PyProof.Rows L2
def t_joined (K : PySem.W.Frag) : TS :=
  tSeq (tIfS (tTest (tOp rEq (tVar 0) (tC (.str "add")))) (tRet (tOp rMdI (tOp rAdI (tVar 1) (tVar 2)) (tC (.int 10007)))) (tNext)) (tSeq (tIfS (tTest (tOp rEq (tVar 0) (tC (.str "sub")))) (tRet (tOp rMdI (tOp rSbI (tVar 1) (tVar 2)) (tC (.int 10007)))) (tNext)) (tSeq (tIfS (tTest (tOp rEq (tVar 0) (tC (.str "mul")))) (tRet (tOp rMdI (tOp rMlI (tVar 1) (tVar 2)) (tC (.int 10007)))) (tNext)) (tRet (tCB rInt1 (tCons (tOp rLt (tVar 1) (tVar 2)) (tNil))))))

def t_value_of (K : PySem.W.Frag) (sp_joined : Sp) (sp_value_of : Sp) : TS :=
  tSeq (tIfS (tTest (tOp rEq (tOp (rIxT K) (tVar 0) (tC (.int 0))) (tC (.str "num")))) (tRet (tOp (rIxT K) (tVar 0) (tC (.int 1)))) (tNext)) (tSeq (tIfS (tTest (tOp rEq (tOp (rIxT K) (tVar 0) (tC (.int 0))) (tC (.str "var")))) (tRet (tOp (rIxL K) (tVar 1) (tOp (rIxT K) (tVar 0) (tC (.int 1))))) (tNext)) (tRet (tCall sp_joined [] E0 (tCons (tOp (rIxT K) (tVar 0) (tC (.int 0))) (tCons (tCall sp_value_of [] E0 (tCons (tOp (rIxT K) (tVar 0) (tC (.int 1))) (tCons (tVar 1) (tNil)))) (tCons (tCall sp_value_of [] E0 (tCons (tOp (rIxT K) (tVar 0) (tC (.int 2))) (tCons (tVar 1) (tNil)))) (tNil)))))))

def t_law_part (K : PySem.W.Frag) (sp_law_take : Sp) (sp_law_part : Sp) : TS :=
  tSeq (tAsg (tCall sp_law_take [] E0 (tCons (tVar 0) (tCons (tC (.int 8)) (tNil)))) (gName 2)) (tSeq (tIfS (tTest (tOp rLt (tVar 2) (tC (.int 2)))) (tRet (tTup (tCons (tC (.str "num")) (tCons (tCall sp_law_take [] E0 (tCons (tVar 0) (tCons (tC (.int 1000)) (tNil)))) (tNil))))) (tNext)) (tSeq (tIfS (tOr (tTest (tOp rEq (tVar 1) (tC (.int 0)))) (tTest (tOp rEq (tVar 2) (tC (.int 2))))) (tRet (tTup (tCons (tC (.str "num")) (tCons (tCall sp_law_take [] E0 (tCons (tVar 0) (tCons (tC (.int 3)) (tNil)))) (tNil))))) (tNext)) (tSeq (tIfS (tTest (tOp rLt (tVar 2) (tC (.int 5)))) (tRet (tTup (tCons (tC (.str "var")) (tCons (tCall sp_law_take [] E0 (tCons (tVar 0) (tCons (tC (.int 8)) (tNil)))) (tNil))))) (tNext)) (tSeq (tAsg (tOp (rIxL K) (tLst (tCons (tC (.str "add")) (tCons (tC (.str "sub")) (tCons (tC (.str "mul")) (tCons (tC (.str "less")) (tNil)))))) (tCall sp_law_take [] E0 (tCons (tVar 0) (tCons (tC (.int 4)) (tNil))))) (gName 3)) (tSeq (tAsg (tCall sp_law_part [] E0 (tCons (tVar 0) (tCons (tOp rSbI (tVar 1) (tC (.int 1))) (tNil)))) (gName 4)) (tRet (tTup (tCons (tVar 3) (tCons (tVar 4) (tCons (tCall sp_law_part [] E0 (tCons (tVar 0) (tCons (tOp rSbI (tVar 1) (tC (.int 1))) (tNil)))) (tNil)))))))))))

def t_law_value (K : PySem.W.Frag) (sp_law_value : Sp) : TS :=
  tSeq (tAsg (tOp (rIxT K) (tVar 0) (tC (.int 0))) (gName 2)) (tSeq (tIfS (tTest (tOp rEq (tVar 2) (tC (.str "num")))) (tRet (tOp (rIxT K) (tVar 0) (tC (.int 1)))) (tNext)) (tSeq (tIfS (tTest (tOp rEq (tVar 2) (tC (.str "var")))) (tRet (tOp (rIxL K) (tVar 1) (tOp (rIxT K) (tVar 0) (tC (.int 1))))) (tNext)) (tSeq (tAsg (tCall sp_law_value [] E0 (tCons (tOp (rIxT K) (tVar 0) (tC (.int 1))) (tCons (tVar 1) (tNil)))) (gName 3)) (tSeq (tAsg (tCall sp_law_value [] E0 (tCons (tOp (rIxT K) (tVar 0) (tC (.int 2))) (tCons (tVar 1) (tNil)))) (gName 4)) (tSeq (tIfS (tTest (tOp rEq (tVar 2) (tC (.str "less")))) (tRet (tCB rInt1 (tCons (tOp rLt (tVar 3) (tVar 4)) (tNil)))) (tNext)) (tSeq (tIfS (tTest (tOp rEq (tVar 2) (tC (.str "add")))) (tRet (tOp rMdI (tOp rAdI (tVar 3) (tVar 4)) (tC (.int 10007)))) (tNext)) (tSeq (tIfS (tTest (tOp rEq (tVar 2) (tC (.str "sub")))) (tRet (tOp rMdI (tOp rSbI (tOp rAdI (tVar 3) (tOp rMlI (tC (.int 10007)) (tC (.int 10007)))) (tVar 4)) (tC (.int 10007)))) (tNext)) (tRet (tOp rMdI (tOp rMlI (tVar 3) (tVar 4)) (tC (.int 10007)))))))))))

/-! ### items -/
section
variable {K : PySem.W.Frag} {σ : L2.St} {H : Hp} {i j : Nat} {p : Addr} {xs : List V} {v : V} {Q : VK}
theorem rd_ixT (hs : σ[i]? = some (some (.ref p))) (h : SqT K H p xs) (e : xs[j]? = some v) (q : Q v H) : tOp (rIxT K) (tVar i) (tC (.int (j : Int))) σ H Q := ⟨_, hs, p, xs, _, v, rfl, rfl, h, atI_nat e, q⟩
theorem rd_ixL (hs : σ[i]? = some (some (.ref p))) (h : SqL K H p xs) (e : xs[j]? = some v) (q : Q v H) : tOp (rIxL K) (tVar i) (tC (.int (j : Int))) σ H Q := ⟨_, hs, p, xs, _, v, rfl, rfl, h, atI_nat e, q⟩
end
section
variable {P : Program} {w : World} {K : PySem.W.Frag} {mg : Str → Option Value} {base : Heap} {j : Nat} {x m : Str} {C : Addr} {ps : List Str} {f : Addr} {fd : FuncData}
/-- a def that calls itself: at 0 it can't be asked -/
theorem FnOk.zero {k : Nat} {sp : Sp} (z : ∀ vs H Q E, ¬ sp vs H Q E) : FnOk P w K mg base CX0 k f fd ps sp :=
  ⟨fun vs H Q E h => absurd h (z vs H Q E), fun A outer s H args us vs Q E _ _ _ _ h => absurd h (z vs H Q E)⟩
theorem Cal.rec {sp : Nat → Sp} (b : Binds K fd ps []) (kp : PySem.W.keepIn K (.ref f) = true) (hm : mg x = some (.ref f)) (z : ∀ vs H Q E, ¬ sp 0 vs H Q E)
    (step : ∀ n, Cal P w K mg base (j + n) x ps (sp n) → FnOk P w K mg base CX0 (j + n + 1) f fd ps (sp (n + 1))) : ∀ n, Cal P w K mg base (j + n) x ps (sp n)
  | 0 => ⟨f, fd, FnOk.zero z, b, kp, hm⟩
  | n + 1 => ⟨f, fd, step n (Cal.rec b kp hm z step n), b, kp, hm⟩
end
section
variable {X : Cx} {x : Str} {i : Int} {z : Str} {pos : Pos}
theorem pgi (h : ∃ t, X.mg x = some (.int i t)) (hg : Gl X x := by rfl) (hd : (x == ("__debug__" : Str)) = false := by decide) : PE X (.Name x pos) (tC (.int i)) := by
  obtain ⟨t, e⟩ := h
  exact pe_glob hg e ⟨t, rfl⟩ hd
theorem pgs (h : ∃ t, X.mg x = some (.str z t)) (hg : Gl X x := by rfl) (hd : (x == ("__debug__" : Str)) = false := by decide) : PE X (.Name x pos) (tC (.str z)) := by
  obtain ⟨t, e⟩ := h
  exact pe_glob hg e ⟨t, rfl⟩ hd
end
theorem pos7 : (0 : Int) < 10007 := by decide
theorem cmul_small {i j : Int} (h : 0 ≤ i ∧ i < 100000000) : CMul i j := .inl ⟨by omega, by omega⟩

/-! ### tests that change nothing -/
def PB (t : TT) (σ : L2.St) (H : Hp) (c : Bool) : Prop := ∀ Q : Bool → Hp → Prop, Q c H → t σ H Q
section
variable {σ : L2.St} {H : Hp} {i j : Nat} {a c : Int} {x y : V} {u v : Bool} {t t' : TT} {s s' : TS} {D : Ends}
theorem pb_eqI (hs : σ[i]? = some (some (.int a))) : PB (tTest (tOp rEq (tVar i) (tC (.int c)))) σ H (decide (V.int a = V.int c)) := fun _ q => ⟨_, hs, rfl, _, rfl, q⟩
theorem pb_neI (hs : σ[i]? = some (some (.int a))) : PB (tTest (tOp rNe (tVar i) (tC (.int c)))) σ H (!decide (V.int a = V.int c)) := fun _ q => ⟨_, hs, rfl, _, rfl, q⟩
theorem pb_eqV {i j : Nat} (hs : σ[i]? = some (some x)) (ht : σ[j]? = some (some y)) (h : scal x y = true) : PB (tTest (tOp rEq (tVar i) (tVar j))) σ H (decide (x = y)) := fun _ q => ⟨_, hs, _, ht, h, _, rfl, q⟩
theorem pb_eqS {z w : Str} (hs : σ[i]? = some (some (.str z))) : PB (tTest (tOp rEq (tVar i) (tC (.str w)))) σ H (decide (V.str z = V.str w)) := fun _ q => ⟨_, hs, rfl, _, rfl, q⟩
theorem pb_neS {z w : Str} (hs : σ[i]? = some (some (.str z))) : PB (tTest (tOp rNe (tVar i) (tC (.str w)))) σ H (!decide (V.str z = V.str w)) := fun _ q => ⟨_, hs, rfl, _, rfl, q⟩
theorem pb_lt (hs : σ[i]? = some (some (.int a))) : PB (tTest (tOp rLt (tVar i) (tC (.int c)))) σ H (decide (a < c)) := fun _ q => ⟨_, hs, _, _, rfl, rfl, _, rfl, q⟩
theorem pb_var (hs : σ[i]? = some (some (.bl u))) : PB (tB (tVar i)) σ H u := fun _ q => ⟨_, hs, u, rfl, q⟩
theorem pb_and (h : PB t σ H u) (h' : PB t' σ H v) : PB (tAnd t t') σ H (u && v) := fun Q q => h _ (by
  cases u with
  | true => exact ifT rfl (h' _ q)
  | false => exact ifF rfl q)
theorem pb_or (h : PB t σ H u) (h' : PB t' σ H v) : PB (tOr t t') σ H (u || v) := fun Q q => h _ (by
  cases u with
  | true => exact ifT rfl q
  | false => exact ifF rfl (h' _ q))
theorem pb_not (h : PB t σ H u) : PB (tNot t) σ H (!u) := fun Q q => h _ q
theorem pb_is {w : Bool} (h : PB t σ H u) (e : u = w) : PB t σ H w := by rw [← e]; exact h
theorem r_if (h : PB t σ H u) (h1 : u = true → s D σ H) (h2 : u = false → s' D σ H) : tIfS t s s' D σ H := h _ (ifB h1 h2)
theorem r_ifT (h : PB t σ H true) (h1 : s D σ H) : tIfS t s s' D σ H := h _ (ifT rfl h1)
theorem r_ifF (h : PB t σ H false) (h1 : s' D σ H) : tIfS t s s' D σ H := h _ (ifF rfl h1)
end
/-! ### joined -/
def spJoined : Sp := fun vs H Q _ => ∃ (o : BOp) (i j : Int), vs = [.str o.s, .int i, .int j] ∧ 0 ≤ i ∧ i < 10007 ∧ 0 ≤ j ∧ j < 10007 ∧ Q (.int (o.ap i j)) H
abbrev N_joined : List Str := ["word", "one", "two"]
theorem rd_joined {K : PySem.W.Frag} (vs : List V) (H : Hp) (Q : VK) (E : XK) (h : spJoined vs H Q E) : t_joined K { nx := fun _ H' => Q .non H', rt := Q } (start N_joined vs) H := by
  obtain ⟨o, i, j, rfl, h1, h2, h3, h4, q⟩ := h
  cases o with
  | add =>
    refine ⟨_, rfl, rfl, _, rfl, ifT rfl ?_⟩
    exact ⟨_, rfl, _, rfl, _, _, rfl, rfl, _, _, rfl, rfl, pos7, q⟩
  | sub =>
    refine ⟨_, rfl, rfl, _, rfl, ifF rfl ⟨_, rfl, rfl, _, rfl, ifT rfl ?_⟩⟩
    exact ⟨_, rfl, _, rfl, _, _, rfl, rfl, _, _, rfl, rfl, pos7, q⟩
  | mul =>
    refine ⟨_, rfl, rfl, _, rfl, ifF rfl ⟨_, rfl, rfl, _, rfl, ifF rfl ⟨_, rfl, rfl, _, rfl, ifT rfl ?_⟩⟩⟩
    exact ⟨_, rfl, _, rfl, _, _, rfl, rfl, cmul_small ⟨by omega, by omega⟩, _, _, rfl, rfl, pos7, q⟩
  | less =>
    refine ⟨_, rfl, rfl, _, rfl, ifF rfl ⟨_, rfl, rfl, _, rfl, ifF rfl ⟨_, rfl, rfl, _, rfl, ifF rfl ?_⟩⟩⟩
    refine ⟨_, rfl, _, rfl, _, _, rfl, rfl, .inr ⟨_, rfl, ?_⟩⟩
    have e : (if decide (i < j) = true then (1 : Int) else 0) = BOp.less.ap i j := by
      show (if decide (i < j) = true then (1 : Int) else 0) = if i < j then 1 else 0
      by_cases c : i < j
      · rw [if_pos c, if_pos (dT c)]
      · rw [if_neg c, if_neg (by rw [dF c]; decide)]
    rw [e]
    exact q
/-! ### value_of -/
def spVal (K : PySem.W.Frag) (n : Nat) : Sp := fun vs H Q _ => ∃ (v : V) (s : Addr) (e : Ex) (σ : List Int), vs = [v, .ref s] ∧ Tp K H v e.d ∧ e.Wf ∧ e.dep ≤ n ∧ SqL K H s (σ.map V.int) ∧ InR σ ∧ Q (.int (e.val σ)) H
theorem spVal_zero {K : PySem.W.Frag} (vs : List V) (H : Hp) (Q : VK) (E : XK) : ¬ spVal K 0 vs H Q E := by
  rintro ⟨v, s, e, σ, _, _, _, h, _⟩
  cases e <;> simp [Ex.dep] at h
abbrev N_value_of : List Str := ["part", "slots"]
theorem slot_get {σ : List Int} {k : Nat} (r : InR σ) (h : k < 8) : (σ.map V.int)[k]? = some (.int (σ.getD k 0)) := by
  have hk : k < σ.length := by rw [r.1]; exact h
  rw [List.getElem?_map, List.getD_eq_getElem?_getD, List.getElem?_eq_getElem hk]
  rfl
theorem rd_value_of {K : PySem.W.Frag} {n : Nat} (vs : List V) (H : Hp) (Q : VK) (E : XK) (h : spVal K (n + 1) vs H Q E) : t_value_of K spJoined (spVal K n) { nx := fun _ H' => Q .non H', rt := Q } (start N_value_of vs) H := by
  obtain ⟨v, s, e, σ, rfl, ht, wf, hd, hs, hr, q⟩ := h
  cases e with
  | num k =>
    obtain ⟨a, x0, x1, rfl, hT, h0, h1⟩ := ht.tup2
    cases h0.strE; cases h1.intE
    refine rd_ixT (j := 0) rfl hT rfl ⟨rfl, _, rfl, ifT rfl ?_⟩
    exact rd_ixT (j := 1) rfl hT rfl q
  | var k =>
    obtain ⟨a, x0, x1, rfl, hT, h0, h1⟩ := ht.tup2
    cases h0.strE; cases h1.intE
    refine rd_ixT (j := 0) rfl hT rfl ⟨rfl, _, rfl, ifF rfl ?_⟩
    refine rd_ixT (j := 0) rfl hT rfl ⟨rfl, _, rfl, ifT rfl ?_⟩
    refine ⟨_, rfl, rd_ixT (j := 1) rfl hT rfl ⟨s, _, _, _, rfl, rfl, hs, atI_nat (slot_get hr wf), q⟩⟩
  | bin o e1 e2 =>
    obtain ⟨a, x0, x1, x2, rfl, hT, h0, h1, h2⟩ := ht.tup3
    cases h0.strE
    have hd' : max e1.dep e2.dep + 1 ≤ n + 1 := hd
    obtain ⟨w1, w2⟩ : e1.Wf ∧ e2.Wf := wf
    obtain ⟨a1, a2⟩ := Ex.val_in hr w1
    obtain ⟨b1, b2⟩ := Ex.val_in hr w2
    refine rd_ixT (j := 0) rfl hT rfl ⟨rfl, _, rfl, ifF (dF BOp.ne.1) ?_⟩
    refine rd_ixT (j := 0) rfl hT rfl ⟨rfl, _, rfl, ifF (dF BOp.ne.2) ?_⟩
    refine rd_ixT (j := 0) rfl hT rfl ?_
    refine rd_ixT (j := 1) rfl hT rfl ⟨_, rfl, x1, s, e1, σ, rfl, h1, w1, by omega, hs, hr, ?_⟩
    refine rd_ixT (j := 2) rfl hT rfl ⟨_, rfl, x2, s, e2, σ, rfl, h2, w2, by omega, hs, hr, ?_⟩
    exact ⟨o, _, _, rfl, a1, a2, b1, b2, q⟩
/-! ### _law_value -/
abbrev N_law_value : List Str := ["_law_part_here", "_law_slots", "_law_word", "_law_one", "_law_two"]
theorem rd_law_value {K : PySem.W.Frag} {n : Nat} (vs : List V) (H : Hp) (Q : VK) (E : XK) (h : spVal K (n + 1) vs H Q E) : t_law_value K (spVal K n) { nx := fun _ H' => Q .non H', rt := Q } (start N_law_value vs) H := by
  obtain ⟨v, s, e, σ, rfl, ht, wf, hd, hs, hr, q⟩ := h
  cases e with
  | num k =>
    obtain ⟨a, x0, x1, rfl, hT, h0, h1⟩ := ht.tup2
    cases h0.strE; cases h1.intE
    refine rd_ixT (j := 0) rfl hT rfl ⟨_, rfl, rfl, _, rfl, ifT rfl ?_⟩
    exact rd_ixT (j := 1) rfl hT rfl q
  | var k =>
    obtain ⟨a, x0, x1, rfl, hT, h0, h1⟩ := ht.tup2
    cases h0.strE; cases h1.intE
    refine rd_ixT (j := 0) rfl hT rfl ⟨_, rfl, rfl, _, rfl, ifF rfl ⟨_, rfl, rfl, _, rfl, ifT rfl ?_⟩⟩
    refine ⟨_, rfl, rd_ixT (j := 1) rfl hT rfl ⟨s, _, _, _, rfl, rfl, hs, atI_nat (slot_get hr wf), q⟩⟩
  | bin o e1 e2 =>
    obtain ⟨a, x0, x1, x2, rfl, hT, h0, h1, h2⟩ := ht.tup3
    cases h0.strE
    have hd' : max e1.dep e2.dep + 1 ≤ n + 1 := hd
    obtain ⟨w1, w2⟩ : e1.Wf ∧ e2.Wf := wf
    obtain ⟨a1, a2⟩ := Ex.val_in hr w1
    obtain ⟨b1, b2⟩ := Ex.val_in hr w2
    refine rd_ixT (j := 0) rfl hT rfl ⟨_, rfl, rfl, _, rfl, ifF (dF BOp.ne.1) ⟨_, rfl, rfl, _, rfl, ifF (dF BOp.ne.2) ?_⟩⟩
    refine rd_ixT (j := 1) rfl hT rfl ⟨_, rfl, x1, s, e1, σ, rfl, h1, w1, by omega, hs, hr, ?_⟩
    refine rd_ixT (j := 2) rfl hT rfl ⟨_, rfl, x2, s, e2, σ, rfl, h2, w2, by omega, hs, hr, ?_⟩
    cases o with
    | less =>
      refine ⟨_, rfl, rfl, _, rfl, ifT rfl ⟨_, rfl, _, rfl, _, _, rfl, rfl, .inr ⟨_, rfl, ?_⟩⟩⟩
      have e : (if decide (e1.val σ < e2.val σ) = true then (1 : Int) else 0) = BOp.less.ap (e1.val σ) (e2.val σ) := by
        show (if decide (e1.val σ < e2.val σ) = true then (1 : Int) else 0) = if e1.val σ < e2.val σ then 1 else 0
        by_cases c : e1.val σ < e2.val σ
        · rw [if_pos c, if_pos (dT c)]
        · rw [if_neg c, if_neg (by rw [dF c]; decide)]
      rw [e]
      exact q
    | add =>
      refine ⟨_, rfl, rfl, _, rfl, ifF rfl ⟨_, rfl, rfl, _, rfl, ifT rfl ?_⟩⟩
      exact ⟨_, rfl, _, rfl, _, _, rfl, rfl, _, _, rfl, rfl, pos7, q⟩
    | sub =>
      refine ⟨_, rfl, rfl, _, rfl, ifF rfl ⟨_, rfl, rfl, _, rfl, ifF rfl ⟨_, rfl, rfl, _, rfl, ifT rfl ?_⟩⟩⟩
      refine ⟨_, rfl, _, _, rfl, rfl, cmul_small ⟨by decide, by decide⟩, _, _, rfl, rfl, _, rfl, _, _, rfl, rfl, _, _, rfl, rfl, pos7, ?_⟩
      have e : (e1.val σ + 10007 * 10007 - e2.val σ) % 10007 = (e1.val σ - e2.val σ) % 10007 := by omega
      show Q (.int ((e1.val σ + 10007 * 10007 - e2.val σ) % 10007)) H
      rw [e]
      exact q
    | mul =>
      refine ⟨_, rfl, rfl, _, rfl, ifF rfl ⟨_, rfl, rfl, _, rfl, ifF rfl ⟨_, rfl, rfl, _, rfl, ifF rfl ?_⟩⟩⟩
      exact ⟨_, rfl, _, rfl, _, _, rfl, rfl, cmul_small ⟨by omega, by omega⟩, _, _, rfl, rfl, pos7, q⟩
/-! ### _law_part: some expression, as deep at the most -/
def spPart (K : PySem.W.Frag) (n : Nat) : Sp := fun vs H Q _ => ∃ (b : Addr) (l : List Int) (d : Nat), vs = [.ref b, .int (d : Int)] ∧ H b = some (.lst (l.map V.int)) ∧ d < n ∧
  ∀ (v : V) (e : Ex) (l' : List Int) (H' : Hp), e.Wf → e.dep ≤ d + 1 → Tp K H' v e.d → H' b = some (.lst (l'.map V.int)) → Kp (fun x => x = b) H H' → Q v H'
theorem spPart_zero {K : PySem.W.Frag} (vs : List V) (H : Hp) (Q : VK) (E : XK) : ¬ spPart K 0 vs H Q E := by
  rintro ⟨b, l, d, _, _, h, _⟩
  omega
abbrev N_law_part : List Str := ["_law_box", "_law_deep", "_law_kind", "_law_word", "_law_one"]
theorem bd {b : Addr} {d : Nat} (h : 0 < d) : [V.ref b, V.int ((d : Int) - 1)] = [V.ref b, V.int ((d - 1 : Nat) : Int)] := by
  rw [show ((d : Int) - 1) = ((d - 1 : Nat) : Int) by omega]
theorem opw {r : Int} (h0 : 0 ≤ r) (h4 : r < 4) : ∃ o : BOp, atI ([.str "add", .str "sub", .str "mul", .str "less"] : List V) r = some (.str o.s) := by
  have : r = 0 ∨ r = 1 ∨ r = 2 ∨ r = 3 := by omega
  rcases this with rfl | rfl | rfl | rfl
  · exact ⟨.add, rfl⟩
  · exact ⟨.sub, rfl⟩
  · exact ⟨.mul, rfl⟩
  · exact ⟨.less, rfl⟩
theorem rd_law_part {K : PySem.W.Frag} {n : Nat} (vs : List V) (H : Hp) (Q : VK) (E : XK) (h : spPart K (n + 1) vs H Q E) : t_law_part K spTake (spPart K n) { nx := fun _ H' => Q .non H', rt := Q } (start N_law_part vs) H := by
  obtain ⟨b, l, d, rfl, hb, hd, q⟩ := h
  refine ⟨_, rfl, b, l, 8, rfl, hb, by decide, by decide, fun r l1 H1 r0 r1 hb1 kp1 => ?_⟩
  have small : ∀ (m : Int), 0 < m → m ≤ 1000 → (tRet (tTup (tCons (tC (.str "num")) (tCons (tCall spTake [] E0 (tCons (tVar 0) (tCons (tC (.int m)) (tNil)))) (tNil))))) { nx := fun _ H' => Q .non H', rt := Q } [some (.ref b), some (.int (d : Int)), some (.int r), none, none] H1 := by
    intro m m0 m1
    refine ⟨_, rfl, b, l1, m, rfl, hb1, m0, by omega, fun x l2 H2 x0 x1 hb2 kp2 => ⟨(by show 2 ≤ sizeLine; decide), fun p hp => ?_⟩⟩
    refine q (.ref p) (.num x) l2 _ ⟨x0, by omega⟩ (by show 1 ≤ d + 1; omega) (Tp.mk hp (.cons (.str _) (.cons (.int _) .nil))) (by rw [upd_ne (ne_of_none hb2 hp)]; exact hb2) ((kp1.trans kp2).trans (Kp.new hp))
  refine ⟨_, rfl, _, _, rfl, rfl, _, rfl, ifB (fun _ => small 1000 (by decide) (by decide)) fun _ => ?_⟩
  refine ⟨_, rfl, rfl, _, rfl, ifB (fun _ => small 3 (by decide) (by decide)) fun d0 => ?_⟩
  refine ⟨_, rfl, rfl, _, rfl, ifB (fun _ => small 3 (by decide) (by decide)) fun _ => ?_⟩
  have hd0 : 0 < d := by
    have := of_decide_eq_false d0
    by_cases z : d = 0
    · subst z; exact absurd rfl this
    · omega
  refine ⟨_, rfl, _, _, rfl, rfl, _, rfl, ifB (fun _ => ?_) fun _ => ?_⟩
  · refine ⟨_, rfl, b, l1, 8, rfl, hb1, by decide, by decide, fun x l2 H2 x0 x1 hb2 kp2 => ⟨(by show 2 ≤ sizeLine; decide), fun p hp => ?_⟩⟩
    obtain ⟨k, rfl⟩ : ∃ k : Nat, x = (k : Int) := ⟨x.toNat, by omega⟩
    exact q (.ref p) (.var k) l2 _ (by show k < 8; omega) (by show 1 ≤ d + 1; omega) (Tp.mk hp (.cons (.str _) (.cons (.int _) .nil))) (by rw [upd_ne (ne_of_none hb2 hp)]; exact hb2) ((kp1.trans kp2).trans (Kp.new hp))
  · refine ⟨(by show 4 ≤ sizeLine; decide), fun p hp => ?_⟩
    have hb2 : L2.upd H1 p (.lst [.str "add", .str "sub", .str "mul", .str "less"]) b = some (.lst (l1.map V.int)) := by rw [upd_ne (ne_of_none hb1 hp)]; exact hb1
    refine ⟨_, rfl, b, l1, 4, rfl, hb2, by decide, by decide, fun x l2 H2 x0 x1 hb3 kp3 => ?_⟩
    have pb : p ≠ b := fun e => by rw [e, hb1] at hp; cases hp
    obtain ⟨o, ho⟩ := opw x0 x1
    refine ⟨p, _, x, _, rfl, rfl, SqL.of (kp3 p _ upd_same pb), ho, ?_⟩
    have kpA := (kp1.trans (Kp.new hp)).trans kp3
    refine ⟨_, rfl, _, rfl, _, _, rfl, rfl, b, l2, d - 1, bd hd0, hb3, by omega, fun v1 e1 l3 H3 w1 p1 t1 hb4 kp4 => ?_⟩
    refine ⟨_, rfl, _, rfl, _, rfl, _, rfl, _, _, rfl, rfl, b, l3, d - 1, bd hd0, hb4, by omega, fun v2 e2 l4 H4 w2 p2 t2 hb5 kp5 => ?_⟩
    refine ⟨(by show 3 ≤ sizeLine; decide), fun u hu => ?_⟩
    refine q (.ref u) (.bin o e1 e2) l4 _ ⟨w1, w2⟩ (by show max e1.dep e2.dep + 1 ≤ d + 1; omega) (Tp.mk hu (.cons (.str _) (.cons (t1.mono (kp5.tk1 hb4)) (.cons t2 .nil)))) (by rw [upd_ne (ne_of_none hb5 hu)]; exact hb5) (((kpA.trans kp4).trans kp5).trans (Kp.new hu))
end Lp

/-! Ls: statements and programs as trees, as data; what is well formed. -/
namespace Lp
open PySem PySem.Spec PyProof.Rows L2

mutual
inductive Sm where
  | say (e : Ex)
  | set (k : Nat) (e : Ex)
  | row (ps : Sms)
  | ife (e : Ex) (s t : Sm)
  | whl (e : Ex) (s : Sm)
  | brk
  | cnt
  | ret (e : Ex)
  | call (k f : Nat) (ps : List Ex) (m : Int)
  | rais (kd : Nat) (e : Ex) (m : Int)
  | again
  | tri (s : Sm) (hs : Hds)
  | cln (s c : Sm)
inductive Sms where
  | nil
  | cons (s : Sm) (r : Sms)
inductive Hds where
  | nil
  | cons (k : Option Nat) (x : Nat) (t : Sm) (r : Hds)
end
def kindD : Option Nat → PyData
  | none => .none
  | some j => .int (j : Int)
mutual
def Sm.d : Sm → PyData
  | .say e => .tuple [.str "say", e.d]
  | .set k e => .tuple [.str "set", .int (k : Int), e.d]
  | .row ps => .tuple [.str "row", .tuple ps.ds]
  | .ife e s t => .tuple [.str "if", e.d, s.d, t.d]
  | .whl e s => .tuple [.str "while", e.d, s.d]
  | .brk => .tuple [.str "break"]
  | .cnt => .tuple [.str "continue"]
  | .ret e => .tuple [.str "return", e.d]
  | .call k f ps m => .tuple [.str "call", .int (k : Int), .int (f : Int), .tuple (ps.map Ex.d), .int m]
  | .rais kd e m => .tuple [.str "raise", .int (kd : Int), e.d, .int m]
  | .again => .tuple [.str "again"]
  | .tri s hs => .tuple [.str "try", s.d, .tuple hs.ds]
  | .cln s c => .tuple [.str "clean", s.d, c.d]
def Sms.ds : Sms → List PyData
  | .nil => []
  | .cons s r => s.d :: r.ds
def Hds.ds : Hds → List PyData
  | .nil => []
  | .cons k x t r => .tuple [kindD k, .int (x : Int), t.d] :: r.ds
end
def Sms.ofL : List Sm → Sms
  | [] => .nil
  | s :: r => .cons s (Sms.ofL r)
def Hds.ofL : List (Option Nat × Nat × Sm) → Hds
  | [] => .nil
  | (k, x, t) :: r => .cons k x t (Hds.ofL r)
def hdD (h : Option Nat × Nat × Sm) : PyData := .tuple [kindD h.1, .int (h.2.1 : Int), h.2.2.d]
theorem Sms.ds_ofL : ∀ l : List Sm, (Sms.ofL l).ds = l.map Sm.d
  | [] => rfl
  | s :: r => by show s.d :: (Sms.ofL r).ds = _; rw [Sms.ds_ofL r]; rfl
theorem Hds.ds_ofL : ∀ l : List (Option Nat × Nat × Sm), (Hds.ofL l).ds = l.map hdD
  | [] => rfl
  | (k, x, t) :: r => by show hdD (k, x, t) :: (Hds.ofL r).ds = _; rw [Hds.ds_ofL r]; rfl

/-! ### depth, rows -/
mutual
def Sm.dep : Sm → Nat
  | .row ps => ps.dep + 1
  | .ife _ s t => max s.dep t.dep + 1
  | .whl _ s => s.dep + 1
  | .tri s hs => max s.dep hs.dep + 1
  | .cln s c => max s.dep c.dep + 1
  | _ => 1
def Sms.dep : Sms → Nat
  | .nil => 0
  | .cons s r => max s.dep r.dep
def Hds.dep : Hds → Nat
  | .nil => 0
  | .cons _ _ t r => max t.dep r.dep
end
def Ex.len : Ex → Nat
  | .num _ => 1
  | .var _ => 1
  | .bin _ a b => a.len + b.len + 1
def exsLen : List Ex → Nat
  | [] => 0
  | e :: r => e.len + exsLen r
mutual
/-- how many rows a statement is coded as -/
def Sm.len : Sm → Nat
  | .say e => e.len + 1
  | .set _ e => e.len + 1
  | .row ps => ps.len
  | .ife e s t => e.len + 1 + s.len + 1 + t.len
  | .whl e s => e.len + 2 + s.len + 1
  | .brk => 1
  | .cnt => 1
  | .ret e => e.len + 1
  | .call _ _ ps _ => exsLen ps + 2
  | .rais _ e _ => e.len + 1
  | .again => 1
  | .tri s hs => s.len + 1 + hs.len
  | .cln s c => s.len + 2 + c.len + 1
def Sms.len : Sms → Nat
  | .nil => 0
  | .cons s r => s.len + r.len
def Hds.len : Hds → Nat
  | .nil => 0
  | .cons _ _ t r => 2 + t.len + 2 + r.len
end
theorem Ex.len_le : ∀ {e : Ex} {n : Nat}, e.dep ≤ n + 1 → e.len ≤ 2 ^ (n + 1) - 1
  | .num _, n, _ => by show 1 ≤ _; have := Nat.one_le_two_pow (n := n); rw [Nat.pow_succ]; omega
  | .var _, n, _ => by show 1 ≤ _; have := Nat.one_le_two_pow (n := n); rw [Nat.pow_succ]; omega
  | .bin _ a b, n, h => by
    have h' : max a.dep b.dep + 1 ≤ n + 1 := h
    cases n with
    | zero => cases a <;> simp [Ex.dep] at h' <;> omega
    | succ n =>
      have h1 := Ex.len_le (e := a) (n := n) (by omega)
      have h2 := Ex.len_le (e := b) (n := n) (by omega)
      show a.len + b.len + 1 ≤ _
      have := Nat.one_le_two_pow (n := n + 1)
      rw [Nat.pow_succ 2 (n + 1)]
      omega
theorem exsLen_le : ∀ {ps : List Ex} {n : Nat}, (∀ e ∈ ps, e.len ≤ n) → exsLen ps ≤ ps.length * n
  | [], n, _ => by simp [exsLen]
  | e :: r, n, h => by
    have h1 := h e List.mem_cons_self
    have h2 := exsLen_le (ps := r) (n := n) fun x hx => h x (List.mem_cons_of_mem _ hx)
    show e.len + exsLen r ≤ (r.length + 1) * n
    rw [Nat.succ_mul]
    omega

/-! ### well formed: cs the functions' counts, nk how many kinds, turn: within a while, hand: within a handler -/
mutual
def Sm.Wf (cs : List Nat) (nk : Nat) (turn hand : Bool) : Sm → Prop
  | .say e => e.Wf ∧ e.dep ≤ 5
  | .set k e => k < 8 ∧ e.Wf ∧ e.dep ≤ 5
  | .row ps => ps.Wf cs nk turn hand
  | .ife e s t => (e.Wf ∧ e.dep ≤ 5) ∧ s.Wf cs nk turn hand ∧ t.Wf cs nk turn hand
  | .whl e s => (e.Wf ∧ e.dep ≤ 5) ∧ s.Wf cs nk true hand
  | .brk => turn = true
  | .cnt => turn = true
  | .ret e => e.Wf ∧ e.dep ≤ 5
  | .call k f ps m => k < 8 ∧ cs[f]? = some ps.length ∧ ps.length ≤ 3 ∧ (∀ e ∈ ps, e.Wf ∧ e.dep ≤ 5) ∧ 0 ≤ m ∧ m < 1000
  | .rais kd e m => kd < nk ∧ (e.Wf ∧ e.dep ≤ 5) ∧ 0 ≤ m ∧ m < 1000
  | .again => hand = true
  | .tri s hs => s.Wf cs nk turn hand ∧ hs.Wf cs nk turn
  | .cln s c => s.Wf cs nk turn hand ∧ c.Wf cs nk turn hand
def Sms.Wf (cs : List Nat) (nk : Nat) (turn hand : Bool) : Sms → Prop
  | .nil => True
  | .cons s r => s.Wf cs nk turn hand ∧ r.Wf cs nk turn hand
def Hds.Wf (cs : List Nat) (nk : Nat) (turn : Bool) : Hds → Prop
  | .nil => True
  | .cons k x t r => (∀ j, k = some j → j < nk) ∧ x < 8 ∧ t.Wf cs nk turn true ∧ r.Wf cs nk turn
end
theorem Sms.wf_ofL {cs : List Nat} {nk : Nat} {turn hand : Bool} : ∀ {l : List Sm}, (∀ s ∈ l, s.Wf cs nk turn hand) → (Sms.ofL l).Wf cs nk turn hand
  | [], _ => trivial
  | s :: r, h => ⟨h s List.mem_cons_self, Sms.wf_ofL fun x hx => h x (List.mem_cons_of_mem _ hx)⟩
theorem Sms.dep_ofL {n : Nat} : ∀ {l : List Sm}, (∀ s ∈ l, s.dep ≤ n) → (Sms.ofL l).dep ≤ n
  | [], _ => Nat.zero_le _
  | s :: r, h => Nat.max_le.mpr ⟨h s List.mem_cons_self, Sms.dep_ofL fun x hx => h x (List.mem_cons_of_mem _ hx)⟩
theorem Sms.len_ofL {n : Nat} : ∀ {l : List Sm}, (∀ s ∈ l, s.len ≤ n) → (Sms.ofL l).len ≤ l.length * n
  | [], _ => Nat.zero_le _
  | s :: r, h => by
    have h1 := h s List.mem_cons_self
    have h2 := Sms.len_ofL (l := r) (n := n) fun x hx => h x (List.mem_cons_of_mem _ hx)
    show s.len + (Sms.ofL r).len ≤ (r.length + 1) * n
    rw [Nat.succ_mul]
    omega
def HdWf (cs : List Nat) (nk : Nat) (turn : Bool) (h : Option Nat × Nat × Sm) : Prop := (∀ j, h.1 = some j → j < nk) ∧ h.2.1 < 8 ∧ h.2.2.Wf cs nk turn true
theorem Hds.wf_ofL {cs : List Nat} {nk : Nat} {turn : Bool} : ∀ {l : List (Option Nat × Nat × Sm)}, (∀ h ∈ l, HdWf cs nk turn h) → (Hds.ofL l).Wf cs nk turn
  | [], _ => trivial
  | (k, x, t) :: r, h => by
    obtain ⟨h1, h2, h3⟩ := h (k, x, t) List.mem_cons_self
    exact ⟨h1, h2, h3, Hds.wf_ofL fun y hy => h y (List.mem_cons_of_mem _ hy)⟩
theorem Hds.dep_ofL {n : Nat} : ∀ {l : List (Option Nat × Nat × Sm)}, (∀ h ∈ l, h.2.2.dep ≤ n) → (Hds.ofL l).dep ≤ n
  | [], _ => Nat.zero_le _
  | (k, x, t) :: r, h => Nat.max_le.mpr ⟨h (k, x, t) List.mem_cons_self, Hds.dep_ofL fun y hy => h y (List.mem_cons_of_mem _ hy)⟩
theorem Hds.len_ofL {n : Nat} : ∀ {l : List (Option Nat × Nat × Sm)}, (∀ h ∈ l, h.2.2.len ≤ n) → (Hds.ofL l).len ≤ l.length * (n + 4)
  | [], _ => Nat.zero_le _
  | (k, x, t) :: r, h => by
    have h1 := h (k, x, t) List.mem_cons_self
    have h2 := Hds.len_ofL (l := r) (n := n) fun y hy => h y (List.mem_cons_of_mem _ hy)
    show 2 + t.len + 2 + (Hds.ofL r).len ≤ (r.length + 1) * (n + 4)
    rw [Nat.succ_mul]
    have h1' : t.len ≤ n := h1
    omega

/-! ### programs -/
structure Pg where
  kinds : List (Option Nat)
  funs : List (Nat × Sm)
def funD (f : Nat × Sm) : PyData := .tuple [.int (f.1 : Int), f.2.d]
def Pg.d (p : Pg) : PyData := .tuple [.tuple (p.kinds.map kindD), .tuple (p.funs.map funD)]
def Pg.cs (p : Pg) : List Nat := p.funs.map (·.1)
structure Pg.Wf (p : Pg) : Prop where
  kinds : WfK p.kinds
  k0 : 0 < p.kinds.length
  k8 : p.kinds.length ≤ 8
  f0 : 0 < p.funs.length
  f8 : p.funs.length ≤ 8
  many : ∀ f ∈ p.funs, f.1 ≤ 3
  body : ∀ f ∈ p.funs, f.2.Wf p.cs p.kinds.length false false
/-- as the laws' programs are: five deep, of at most 1,900 rows a function -/
structure Pg.Small (p : Pg) (D R : Nat) : Prop where
  dep : ∀ f ∈ p.funs, f.2.dep ≤ D
  len : ∀ f ∈ p.funs, f.2.len ≤ R
theorem tp_kinds {K : PySem.W.Frag} {H : Hp} : ∀ ks : List (Option Nat), TpAll K H (ks.map kindV) (ks.map kindD)
  | [] => .nil
  | none :: r => .cons .non (tp_kinds r)
  | some j :: r => .cons (.int _) (tp_kinds r)
theorem kinds_of {K : PySem.W.Frag} {H : Hp} : ∀ {ks : List (Option Nat)} {vs : List V}, TpAll K H vs (ks.map kindD) → vs = ks.map kindV
  | [], _, h => h.nilE
  | none :: r, _, h => by
    obtain ⟨v, vs, rfl, h1, h2⟩ := TpAll.consE h
    rw [h1.nonE, kinds_of h2]; rfl
  | some j :: r, _, h => by
    obtain ⟨v, vs, rfl, h1, h2⟩ := TpAll.consE h
    rw [h1.intE, kinds_of h2]; rfl
end Lp

/-! L3g: the law's drawing of statements and programs: some well-formed program comes. -/
namespace Lp
open PySem PySem.Spec PyProof.Rows L2
def t_law_call (K : PySem.W.Frag) (sp_law_take : Sp) (sp_law_part : Sp) : TS :=
  tSeq (tAsg (tCall sp_law_take [] E0 (tCons (tVar 0) (tCons (tCB (rLenQ K) (tCons (tOp (rIxL K) (tVar 1) (tC (.int 0))) (tNil))) (tNil)))) (gName 2)) (tSeq (tAsg (tCall sp_law_take [] E0 (tCons (tVar 0) (tCons (tC (.int 8)) (tNil)))) (gName 3)) (tSeq (tAsg (tLc (iRng1 (tCons (tOp (rIxL K) (tOp (rIxL K) (tVar 1) (tC (.int 0))) (tVar 2)) (tNil))) (gName 5) (tYes) (tCall sp_law_part [] E0 (tCons (tVar 0) (tCons (tC (.int 1)) (tNil)))) [5]) (gName 4)) (tRet (tTup (tCons (tC (.str "call")) (tCons (tVar 3) (tCons (tVar 2) (tCons (tCB (rTupOf K) (tCons (tVar 4) (tNil))) (tCons (tCall sp_law_take [] E0 (tCons (tVar 0) (tCons (tC (.int 1000)) (tNil)))) (tNil))))))))))

def t_law_simple (K : PySem.W.Frag) (sp_law_take : Sp) (sp_law_call : Sp) (sp_law_part : Sp) : TS :=
  tSeq (tAsg (tCall sp_law_take [] E0 (tCons (tVar 0) (tCons (tC (.int 9)) (tNil)))) (gName 4)) (tSeq (tIfS (tAnd (tTest (tOp rEq (tVar 4) (tC (.int 8)))) (tB (tVar 3))) (tRet (tTup (tCons (tC (.str "again")) (tNil)))) (tNext)) (tSeq (tIfS (tAnd (tTest (tOp rEq (tVar 4) (tC (.int 7)))) (tB (tVar 2))) (tRet (tTup (tCons (tOp (rIxL K) (tLst (tCons (tC (.str "break")) (tCons (tC (.str "continue")) (tNil)))) (tCall sp_law_take [] E0 (tCons (tVar 0) (tCons (tC (.int 2)) (tNil))))) (tNil)))) (tNext)) (tSeq (tIfS (tTest (tOp rEq (tVar 4) (tC (.int 6)))) (tRet (tCall sp_law_call [] E0 (tCons (tVar 0) (tCons (tVar 1) (tNil))))) (tNext)) (tSeq (tIfS (tTest (tOp rEq (tVar 4) (tC (.int 5)))) (tSeq (tAsg (tCall sp_law_part [] E0 (tCons (tVar 0) (tCons (tC (.int 1)) (tNil)))) (gName 5)) (tRet (tTup (tCons (tC (.str "raise")) (tCons (tCall sp_law_take [] E0 (tCons (tVar 0) (tCons (tOp (rIxL K) (tVar 1) (tC (.int 1))) (tNil)))) (tCons (tVar 5) (tCons (tCall sp_law_take [] E0 (tCons (tVar 0) (tCons (tC (.int 1000)) (tNil)))) (tNil)))))))) (tNext)) (tSeq (tIfS (tTest (tOp rEq (tVar 4) (tC (.int 4)))) (tRet (tTup (tCons (tC (.str "return")) (tCons (tCall sp_law_part [] E0 (tCons (tVar 0) (tCons (tC (.int 2)) (tNil)))) (tNil))))) (tNext)) (tSeq (tIfS (tTest (tOp rEq (tVar 4) (tC (.int 3)))) (tRet (tTup (tCons (tC (.str "row")) (tCons (tTup (tNil)) (tNil))))) (tNext)) (tSeq (tIfS (tTest (tOp rEq (tVar 4) (tC (.int 2)))) (tRet (tTup (tCons (tC (.str "set")) (tCons (tCall sp_law_take [] E0 (tCons (tVar 0) (tCons (tC (.int 8)) (tNil)))) (tCons (tCall sp_law_part [] E0 (tCons (tVar 0) (tCons (tC (.int 2)) (tNil)))) (tNil)))))) (tNext)) (tRet (tTup (tCons (tC (.str "say")) (tCons (tCall sp_law_part [] E0 (tCons (tVar 0) (tCons (tC (.int 2)) (tNil)))) (tNil))))))))))))

def t_law_handler (K : PySem.W.Frag) (sp_law_take : Sp) (sp_law_statement : Sp) : TS :=
  tSeq (tAsg (tCall sp_law_take [] E0 (tCons (tVar 0) (tCons (tOp rAdI (tOp (rIxL K) (tVar 1) (tC (.int 1))) (tC (.int 1))) (tNil)))) (gName 4)) (tSeq (tAsg (tCall sp_law_take [] E0 (tCons (tVar 0) (tCons (tC (.int 8)) (tNil)))) (gName 5)) (tSeq (tIfS (tTest (tOp rEq (tVar 4) (tOp (rIxL K) (tVar 1) (tC (.int 1))))) (tAsg (tC .non) (gName 4)) (tNext)) (tRet (tTup (tCons (tVar 4) (tCons (tVar 5) (tCons (tCall sp_law_statement [] E0 (tCons (tVar 0) (tCons (tVar 1) (tCons (tVar 2) (tCons (tVar 3) (tCons (tC (.bl true)) (tNil))))))) (tNil))))))))

def t_law_statement (K : PySem.W.Frag) (sp_law_take : Sp) (sp_law_simple : Sp) (sp_law_statement : Sp) (sp_law_part : Sp) (sp_law_handler : Sp) : TS :=
  tSeq (tAsg (tCall sp_law_take [] E0 (tCons (tVar 0) (tCons (tC (.int 14)) (tNil)))) (gName 5)) (tSeq (tIfS (tOr (tTest (tOp rEq (tVar 2) (tC (.int 0)))) (tTest (tOp rLt (tVar 5) (tC (.int 4))))) (tRet (tCall sp_law_simple [] E0 (tCons (tVar 0) (tCons (tVar 1) (tCons (tVar 3) (tCons (tVar 4) (tNil))))))) (tNext)) (tSeq (tIfS (tAnd (tTest (tOp rEq (tVar 5) (tC (.int 4)))) (tTest (tOp rEq (tCall sp_law_take [] E0 (tCons (tVar 0) (tCons (tC (.int 3)) (tNil)))) (tC (.int 1))))) (tRet (tTup (tCons (tC (.str "row")) (tCons (tCB (rTupOf K) (tCons (tLc (iRng1 (tCons (tCall sp_law_take [] E0 (tCons (tVar 0) (tCons (tC (.int 7)) (tNil)))) (tNil))) (gName 6) (tYes) (tCall sp_law_simple [] E0 (tCons (tVar 0) (tCons (tVar 1) (tCons (tVar 3) (tCons (tVar 4) (tNil)))))) [6]) (tNil))) (tNil))))) (tNext)) (tSeq (tIfS (tTest (tOp rLt (tVar 5) (tC (.int 7)))) (tSeq (tAsg (tOp rAdI (tC (.int 2)) (tCall sp_law_take [] E0 (tCons (tVar 0) (tCons (tC (.int 2)) (tNil))))) (gName 7)) (tRet (tTup (tCons (tC (.str "row")) (tCons (tCB (rTupOf K) (tCons (tLc (iRng1 (tCons (tVar 7) (tNil))) (gName 6) (tYes) (tCall sp_law_statement [] E0 (tCons (tVar 0) (tCons (tVar 1) (tCons (tOp rSbI (tVar 2) (tC (.int 1))) (tCons (tVar 3) (tCons (tVar 4) (tNil))))))) [6]) (tNil))) (tNil)))))) (tNext)) (tSeq (tIfS (tTest (tOp rEq (tVar 5) (tC (.int 7)))) (tSeq (tAsg (tCall sp_law_part [] E0 (tCons (tVar 0) (tCons (tC (.int 2)) (tNil)))) (gName 8)) (tSeq (tAsg (tCall sp_law_statement [] E0 (tCons (tVar 0) (tCons (tVar 1) (tCons (tOp rSbI (tVar 2) (tC (.int 1))) (tCons (tVar 3) (tCons (tVar 4) (tNil))))))) (gName 9)) (tRet (tTup (tCons (tC (.str "if")) (tCons (tVar 8) (tCons (tVar 9) (tCons (tCall sp_law_statement [] E0 (tCons (tVar 0) (tCons (tVar 1) (tCons (tOp rSbI (tVar 2) (tC (.int 1))) (tCons (tVar 3) (tCons (tVar 4) (tNil))))))) (tNil))))))))) (tNext)) (tSeq (tIfS (tTest (tOp rLt (tVar 5) (tC (.int 9)))) (tSeq (tAsg (tCall sp_law_part [] E0 (tCons (tVar 0) (tCons (tC (.int 2)) (tNil)))) (gName 8)) (tRet (tTup (tCons (tC (.str "while")) (tCons (tVar 8) (tCons (tCall sp_law_statement [] E0 (tCons (tVar 0) (tCons (tVar 1) (tCons (tOp rSbI (tVar 2) (tC (.int 1))) (tCons (tC (.bl true)) (tCons (tVar 4) (tNil))))))) (tNil))))))) (tNext)) (tSeq (tAsg (tCall sp_law_statement [] E0 (tCons (tVar 0) (tCons (tVar 1) (tCons (tOp rSbI (tVar 2) (tC (.int 1))) (tCons (tVar 3) (tCons (tVar 4) (tNil))))))) (gName 10)) (tSeq (tIfS (tTest (tOp rLt (tVar 5) (tC (.int 12)))) (tSeq (tAsg (tOp rAdI (tC (.int 1)) (tCall sp_law_take [] E0 (tCons (tVar 0) (tCons (tC (.int 2)) (tNil))))) (gName 7)) (tRet (tTup (tCons (tC (.str "try")) (tCons (tVar 10) (tCons (tCB (rTupOf K) (tCons (tLc (iRng1 (tCons (tVar 7) (tNil))) (gName 6) (tYes) (tCall sp_law_handler [] E0 (tCons (tVar 0) (tCons (tVar 1) (tCons (tOp rSbI (tVar 2) (tC (.int 1))) (tCons (tVar 3) (tNil)))))) [6]) (tNil))) (tNil))))))) (tNext)) (tRet (tTup (tCons (tC (.str "clean")) (tCons (tVar 10) (tCons (tCall sp_law_statement [] E0 (tCons (tVar 0) (tCons (tVar 1) (tCons (tOp rSbI (tVar 2) (tC (.int 1))) (tCons (tVar 3) (tCons (tVar 4) (tNil))))))) (tNil)))))))))))))

def t_law_program (K : PySem.W.Frag) (sp_law_kinds : Sp) (sp_law_take : Sp) (sp_law_statement : Sp) : TS :=
  tSeq (tAsg (tCall sp_law_kinds [] E0 (tCons (tVar 0) (tCons (tC (.int 4)) (tNil)))) (gName 1)) (tSeq (tAsg (tLst (tCons (tLc (iRng1 (tCons (tOp rAdI (tC (.int 1)) (tCall sp_law_take [] E0 (tCons (tVar 0) (tCons (tC (.int 4)) (tNil))))) (tNil))) (gName 3) (tYes) (tCall sp_law_take [] E0 (tCons (tVar 0) (tCons (tC (.int 4)) (tNil)))) [3]) (tCons (tCB (rLenQ K) (tCons (tVar 1) (tNil))) (tNil)))) (gName 2)) (tSeq (tAsg (tLst (tNil)) (gName 4)) (tSeq (tFor (iList K (tOp (rIxL K) (tVar 2) (tC (.int 0)))) (gName 5) (tSeq (tAsg (tLc (iRng1 (tCons (tOp rAdI (tC (.int 1)) (tCall sp_law_take [] E0 (tCons (tVar 0) (tCons (tC (.int 3)) (tNil))))) (tNil))) (gName 3) (tYes) (tCall sp_law_statement [] E0 (tCons (tVar 0) (tCons (tVar 2) (tCons (tC (.int 3)) (tCons (tC (.bl false)) (tCons (tC (.bl false)) (tNil))))))) [3]) (gName 6)) (tDrop (tBM K "list" rAppend (tVar 4) (tCons (tTup (tCons (tVar 5) (tCons (tTup (tCons (tC (.str "row")) (tCons (tCB (rTupOf K) (tCons (tVar 6) (tNil))) (tNil)))) (tNil)))) (tNil)))))) (tRet (tTup (tCons (tVar 1) (tCons (tCB (rTupOf K) (tCons (tVar 4) (tNil))) (tNil))))))))

/-! ### what is drawn from the box -/
abbrev Bx (b : Addr) : Addr → Prop := fun x => x = b
/-- a drawn thing: some good one, as data; the box has other numbers; all else stands -/
def Drawn (K : PySem.W.Frag) (b : Addr) (H : Hp) (Q : VK) {α : Type} (dα : α → PyData) (good : α → Prop) : Prop :=
  ∀ (v : V) (x : α) (l' : List Int) (H' : Hp), good x → Tp K H' v (dα x) → H' b = some (.lst (l'.map V.int)) → Kp (Bx b) H H' → Q v H'
section
variable {K : PySem.W.Frag} {b : Addr} {H H1 : Hp} {Q : VK} {α : Type} {dα : α → PyData} {good : α → Prop}
theorem Drawn.mk (q : Drawn K b H Q dα good) (x : α) {l1 : List Int} {xs : List V} {ds : List PyData} (hx : good x) (e : dα x = .tuple ds) (ht : TpAll K H1 xs ds) (hb : H1 b = some (.lst (l1.map V.int))) (kp : Kp (Bx b) H H1) :
    ∀ p, H1 p = none → Q (.ref p) (upd H1 p (.tup xs)) := fun p hp =>
  q (.ref p) x l1 _ hx (by rw [e]; exact Tp.mk hp ht) (by rw [upd_ne (ne_of_none hb hp)]; exact hb) (kp.trans (Kp.new hp))
theorem box_new {o : HO} {p : Addr} {l : List Int} (hb : H b = some (.lst (l.map V.int))) (hp : H p = none) : upd H p o b = some (.lst (l.map V.int)) := by rw [upd_ne (ne_of_none hb hp)]; exact hb
/-- a list of drawn things: [draw for k in range(n)] -/
theorem lc_draw {Qd : Hp → Prop} {D : Addr} {l : List Int} {te : TE} {slot : Nat} {σ : L2.St} (dα : α → PyData) (good : α → Prop) (n : Nat) (hn : n < 1000) (hb : H1 b = some (.lst (l.map V.int))) (hD : H1 D = none)
    (hw : ∀ x, wipe ((wipe σ [slot]).set slot x) [slot] = wipe σ [slot])
    (step : ∀ (i : Nat) (H2 : Hp) (l2 : List Int), i < n → H2 b = some (.lst (l2.map V.int)) → Kp (Bx b) H1 H2 → ∀ Q' : VK, Drawn K b H2 Q' dα good → te ((wipe σ [slot]).set slot (some (.int (0 + (i : Int))))) H2 Q')
    (fin : ∀ (items : List α) (vs : List V) (l' : List Int) (H' : Hp), items.length = n → (∀ a ∈ items, good a) → H' D = some (.lst vs) → TpAll K H' vs (items.map dα) → H' b = some (.lst (l'.map V.int)) → Kp (Bx b) H1 H' → Qd H') :
    ∃ W : Nat → Nat → Hp → Prop, (∃ m, W 0 m (upd H1 D (.lst []))) ∧ ∀ i m H, W i m H →
      ((Itr 0 n).stop i H ∧ Qd H) ∨ ((Itr 0 n).go i H ∧ ∃ Nx : Hp → Prop, (∀ H', Nx H' → ∃ m', m' < m ∧ W (i + 1) m' H') ∧ ∀ x H', (Itr 0 n).yld i H x H' → gName slot x (wipe σ [slot]) H' fun σ2 H2 => wipe σ2 [slot] = wipe σ [slot] ∧ tYes σ2 H2 fun c H3 =>
        if c = true then te σ2 H3 fun y H4 => ∃ acc, H4 D = some (.lst acc) ∧ acc.length < sizeLine ∧ Nx (upd H4 D (.lst (acc ++ [y]))) else Nx H3) := by
  have Db : D ≠ b := fun e => by rw [e, hb] at hD; cases hD
  refine lc_range (lo := 0) (n := n) (Qd := Qd) (fun i H' => ∃ (items : List α) (vs : List V) (l' : List Int), items.length = i ∧ (∀ a ∈ items, good a) ∧ H' D = some (.lst vs) ∧ TpAll K H' vs (items.map dα) ∧ H' b = some (.lst (l'.map V.int)) ∧ Kp (Bx b) H1 H')
    ⟨[], [], l, rfl, (by simp), upd_same, .nil, box_new hb hD, Kp.new hD⟩ ?_ ?_
  · rintro i H2 hi ⟨items, vs, l2, hl, hg, h1, ht, hb2, kp⟩
    refine ⟨hw _, ?_⟩
    show te ((wipe σ [slot]).set slot (some (.int (0 + (i : Int))))) H2 fun y H4 => ∃ acc, H4 D = some (.lst acc) ∧ acc.length < sizeLine ∧ _
    refine step i H2 l2 hi hb2 kp _ fun y a l3 H3 ga ta hb3 kp3 => ?_
    have h3 := kp3 D _ h1 Db
    refine ⟨vs, h3, ?_, items ++ [a], vs ++ [y], l3, by simp [hl], ?_, upd_same, ?_, by rw [upd_ne Db.symm]; exact hb3, (kp.trans kp3).late hD⟩
    · have := ht.length
      rw [List.length_map] at this
      exact sz_lt1 (by omega)
    · intro z hz
      rcases List.mem_append.mp hz with z1 | z1
      · exact hg z z1
      · have e : z = a := by simpa using z1
        rw [e]; exact ga
    · rw [List.map_append]
      exact ((ht.mono (kp3.tk1 hb2)).snoc ta).mono (Tk.lst h3)
  · rintro H' ⟨items, vs, l', hl, hg, h1, ht, hb2, kp⟩
    exact fin items vs l' H' hl hg h1 ht hb2 kp
end
/-! ### the shape: the functions' counts, how many kinds -/
structure ShAt (H : Hp) (b sh : Addr) (cs : List Nat) (nk : Nat) : Prop where
  ex : ∃ c, H sh = some (.lst [.ref c, .int (nk : Int)]) ∧ H c = some (.lst (cs.map fun n : Nat => V.int (n : Int))) ∧ c ≠ b
  ne : sh ≠ b
  n0 : 0 < nk
  n9 : nk ≤ 1000
  c0 : 0 < cs.length
  c9 : cs.length ≤ 1000
  c3 : ∀ n ∈ cs, n ≤ 3
theorem ShAt.mono {H H' : Hp} {b sh : Addr} {cs : List Nat} {nk : Nat} (s : ShAt H b sh cs nk) (k : Kp (Bx b) H H') : ShAt H' b sh cs nk := by
  obtain ⟨c, h1, h2, h3⟩ := s.ex
  exact ⟨⟨c, k _ _ h1 s.ne, k _ _ h2 h3, h3⟩, s.ne, s.n0, s.n9, s.c0, s.c9, s.c3⟩
theorem ShAt.of_box {H : Hp} {b sh : Addr} {cs : List Nat} {nk : Nat} (s : ShAt H b sh cs nk) : True := trivial
/-! ### the promises -/
def StmtOk (cs : List Nat) (nk : Nat) (turn hand : Bool) (D R : Nat) (s : Sm) : Prop := s.Wf cs nk turn hand ∧ s.dep ≤ D ∧ s.len ≤ R
def spCallS (K : PySem.W.Frag) : Sp := fun vs H Q _ => ∃ (b sh : Addr) (l : List Int) (cs : List Nat) (nk : Nat), vs = [.ref b, .ref sh] ∧ H b = some (.lst (l.map V.int)) ∧ ShAt H b sh cs nk ∧ Drawn K b H Q Sm.d (fun s => ∀ turn hand, StmtOk cs nk turn hand 1 11 s)
def spSimple (K : PySem.W.Frag) : Sp := fun vs H Q _ => ∃ (b sh : Addr) (l : List Int) (cs : List Nat) (nk : Nat) (turn hand : Bool), vs = [.ref b, .ref sh, .bl turn, .bl hand] ∧ H b = some (.lst (l.map V.int)) ∧ ShAt H b sh cs nk ∧ Drawn K b H Q Sm.d (StmtOk cs nk turn hand 1 11)
/-- at most so many rows at a depth -/
def Bd : Nat → Nat
  | 0 => 11
  | d + 1 => max 66 (3 * Bd d + 9)
theorem Bd_ge : ∀ d, 11 ≤ Bd d
  | 0 => Nat.le_refl _
  | d + 1 => by show 11 ≤ max 66 (3 * Bd d + 9); omega
def spStmt (K : PySem.W.Frag) (n : Nat) : Sp := fun vs H Q _ => ∃ (b sh : Addr) (l : List Int) (cs : List Nat) (nk : Nat) (d : Nat) (turn hand : Bool), vs = [.ref b, .ref sh, .int (d : Int), .bl turn, .bl hand] ∧ H b = some (.lst (l.map V.int)) ∧ ShAt H b sh cs nk ∧ d < n ∧
  Drawn K b H Q Sm.d (StmtOk cs nk turn hand (d + 1) (Bd d))
def HdOk (cs : List Nat) (nk : Nat) (turn : Bool) (D R : Nat) (h : Option Nat × Nat × Sm) : Prop := HdWf cs nk turn h ∧ h.2.2.dep ≤ D ∧ h.2.2.len ≤ R
def spHandler (K : PySem.W.Frag) (n : Nat) : Sp := fun vs H Q _ => ∃ (b sh : Addr) (l : List Int) (cs : List Nat) (nk : Nat) (d : Nat) (turn : Bool), vs = [.ref b, .ref sh, .int (d : Int), .bl turn] ∧ H b = some (.lst (l.map V.int)) ∧ ShAt H b sh cs nk ∧ d < n ∧
  Drawn K b H Q hdD (HdOk cs nk turn (d + 1) (Bd d))
section
variable {K : PySem.W.Frag}
theorem spStmt_zero (vs : List V) (H : Hp) (Q : VK) (E : XK) : ¬ spStmt K 0 vs H Q E := by
  rintro ⟨b, sh, l, cs, nk, d, turn, hand, _, _, _, h, _⟩
  omega
abbrev N_law_call : List Str := ["_law_box", "_law_shape", "_law_number", "_law_slot", "_law_parts", "_law_k"]
theorem rd_law_call (vs : List V) (H : Hp) (Q : VK) (E : XK) (h : spCallS K vs H Q E) : t_law_call K spTake (spPart K 5) { nx := fun _ H' => Q .non H', rt := Q } (start N_law_call vs) H := by
  obtain ⟨b, sh, l, cs, nk, rfl, hb, s, q⟩ := h
  obtain ⟨c, h1, h2, cb⟩ := s.ex
  refine ⟨_, rfl, rd_ixL (j := 0) rfl (SqL.of h1) rfl ⟨c, _, rfl, .inl (SqL.of h2), b, l, _, rfl, hb, by rw [List.length_map]; have := s.c0; omega, by rw [List.length_map]; have := s.c9; omega, fun x l1 H1 x0 x1 hb1 kp1 => ?_⟩⟩
  rw [List.length_map] at x1
  obtain ⟨f, rfl⟩ : ∃ f : Nat, x = (f : Int) := ⟨x.toNat, by omega⟩
  have hf : f < cs.length := by omega
  refine ⟨_, rfl, b, l1, 8, rfl, hb1, by decide, by decide, fun y l2 H2 y0 y1 hb2 kp2 => ?_⟩
  obtain ⟨k, rfl⟩ : ∃ k : Nat, y = (k : Int) := ⟨y.toNat, by omega⟩
  have s2 := s.mono (kp1.trans kp2)
  have h1' := (kp1.trans kp2) _ _ h1 s.ne
  have h2' := (kp1.trans kp2) _ _ h2 cb
  have ef : cs[f]? = some cs[f] := List.getElem?_eq_getElem hf
  have h3 : cs[f] ≤ 3 := s.c3 _ (List.getElem_mem hf)
  refine rd_ixL (j := 0) rfl (SqL.of h1') rfl ⟨_, rfl, c, _, _, .int ((cs[f] : Nat) : Int), rfl, rfl, SqL.of h2', atI_nat (j := f) (by rw [List.getElem?_map, ef]; rfl), _, rfl, by omega, by omega, fun D hD => ?_⟩
  refine lc_draw (K := K) (l := l2) Ex.d (fun e => e.Wf ∧ e.dep ≤ 2) _ ?hn hb2 hD ?hw ?_ ?_
  case hn => omega
  case hw => exact fun _ => rfl
  · intro i H3 l3 hi hb3 kp3 Q' dr
    exact ⟨_, rfl, b, l3, 1, rfl, hb3, by decide, fun v e l4 H4 we de te hb4 kp4 => dr v e l4 H4 ⟨we, de⟩ te hb4 kp4⟩
  · intro ps vs l3 H3 hl hg hD3 ht hb3 kp3
    rw [Int.toNat_natCast] at hl
    refine ⟨_, rfl, _, rfl, _, rfl, D, vs, rfl, .inl ⟨SqL.of hD3, fun p hp => ?_⟩⟩
    have hb4 := box_new (o := .tup vs) hb3 hp
    refine ⟨_, rfl, b, l3, 1000, rfl, hb4, by decide, by decide, fun m l4 H4 m0 m1 hb5 kp5 => ⟨(by show 5 ≤ sizeLine; decide), ?_⟩⟩
    have pb : p ≠ b := fun e => by rw [e, hb3] at hp; cases hp
    have hp5 := kp5 p _ upd_same pb
    have le : exsLen ps + 2 ≤ 11 := by
      have := exsLen_le (ps := ps) (n := 3) fun e he => Ex.len_le (n := 1) (hg e he).2
      rw [hl] at this
      omega
    refine Drawn.mk q (.call k f ps m) (fun _ _ => ⟨⟨by omega, by rw [ef, hl], by omega, fun e he => ⟨(hg e he).1, by have := (hg e he).2; omega⟩, m0, m1⟩, Nat.le_refl 1, le⟩) rfl ?_ hb5 ((((kp1.trans kp2).trans kp3).trans (Kp.new hp)).trans kp5)
    exact .cons (.str _) (.cons (.int _) (.cons (.int _) (.cons (.tup (.inl (.inl hp5)) ((ht.mono (Tk.new hp)).mono (kp5.tk1 hb4))) (.cons (.int _) .nil))))
abbrev N_law_simple : List Str := ["_law_box", "_law_shape", "_law_turn", "_law_handler_here", "_law_kind", "_law_number"]
theorem rd_law_simple (vs : List V) (H : Hp) (Q : VK) (E : XK) (h : spSimple K vs H Q E) : t_law_simple K spTake (spCallS K) (spPart K 5) { nx := fun _ H' => Q .non H', rt := Q } (start N_law_simple vs) H := by
  obtain ⟨b, sh, l, cs, nk, turn, hand, rfl, hb, s, q⟩ := h
  refine ⟨_, rfl, b, l, 9, rfl, hb, by decide, by decide, fun r l1 H1 r0 r1 hb1 kp1 => ?_⟩
  have s1 := s.mono kp1
  have l7 : ∀ {e : Ex}, e.dep ≤ 3 → e.len ≤ 7 := fun h => Ex.len_le (n := 2) h
  refine r_if (pb_and (pb_eqI rfl) (pb_var rfl)) (fun e => ?_) fun _ => r_if (pb_and (pb_eqI rfl) (pb_var rfl)) (fun e => ?_) fun _ => r_if (pb_eqI rfl) (fun _ => ?_) fun _ => r_if (pb_eqI rfl) (fun _ => ?_) fun _ => r_if (pb_eqI rfl) (fun _ => ?_) fun _ =>
    r_if (pb_eqI rfl) (fun _ => ?_) fun _ => r_if (pb_eqI rfl) (fun _ => ?_) fun _ => ?_
  · have hh : hand = true := (Bool.and_eq_true_iff.mp e).2
    exact ⟨(by show 1 ≤ sizeLine; decide), Drawn.mk q .again ⟨hh, Nat.le_refl 1, (by decide)⟩ rfl (.cons (.str _) .nil) hb1 kp1⟩
  · have hh : turn = true := (Bool.and_eq_true_iff.mp e).2
    refine ⟨(by show 2 ≤ sizeLine; decide), fun p hp => ?_⟩
    have hb2 := box_new (o := .lst [.str "break", .str "continue"]) hb1 hp
    have pb : p ≠ b := fun e => by rw [e, hb1] at hp; cases hp
    refine ⟨_, rfl, b, l1, 2, rfl, hb2, by decide, by decide, fun x l2 H2 x0 x1 hb3 kp3 => ?_⟩
    have hp3 := kp3 p _ upd_same pb
    have hx : x = 0 ∨ x = 1 := by omega
    rcases hx with rfl | rfl
    · exact ⟨p, _, 0, .str "break", rfl, rfl, SqL.of hp3, rfl, (by show 1 ≤ sizeLine; decide), Drawn.mk q .brk ⟨hh, Nat.le_refl 1, (by decide)⟩ rfl (.cons (.str _) .nil) hb3 ((kp1.trans (Kp.new hp)).trans kp3)⟩
    · exact ⟨p, _, 1, .str "continue", rfl, rfl, SqL.of hp3, rfl, (by show 1 ≤ sizeLine; decide), Drawn.mk q .cnt ⟨hh, Nat.le_refl 1, (by decide)⟩ rfl (.cons (.str _) .nil) hb3 ((kp1.trans (Kp.new hp)).trans kp3)⟩
  · exact ⟨_, rfl, _, rfl, b, sh, l1, cs, nk, rfl, hb1, s1, fun v x l' H' gx tx hb' kp' => q v x l' H' (gx turn hand) tx hb' (kp1.trans kp')⟩
  · refine ⟨_, rfl, b, l1, 1, rfl, hb1, by decide, fun v e l2 H2 we de te hb2 kp2 => ?_⟩
    obtain ⟨c, h1, h2, cb⟩ := s1.ex
    have h1' := kp2 _ _ h1 s1.ne
    refine ⟨_, rfl, rd_ixL (j := 1) rfl (SqL.of h1') rfl ⟨b, l2, _, rfl, hb2, by have := s.n0; omega, by have := s.n9; omega, fun x l3 H3 x0 x1 hb3 kp3 => ⟨_, rfl, ?_⟩⟩⟩
    obtain ⟨kd, rfl⟩ : ∃ k : Nat, x = (k : Int) := ⟨x.toNat, by omega⟩
    refine ⟨_, rfl, b, l3, 1000, rfl, hb3, by decide, by decide, fun m l4 H4 m0 m1 hb4 kp4 => ⟨(by show 4 ≤ sizeLine; decide), ?_⟩⟩
    have le := Ex.len_le (n := 1) de
    exact Drawn.mk q (.rais kd e m) ⟨⟨by omega, ⟨we, by omega⟩, m0, m1⟩, Nat.le_refl 1, by show e.len + 1 ≤ 11; omega⟩ rfl (.cons (.str _) (.cons (.int _) (.cons ((te.mono (kp3.tk1 hb2)).mono (kp4.tk1 hb3)) (.cons (.int _) .nil)))) hb4 (((kp1.trans kp2).trans kp3).trans kp4)
  · refine ⟨_, rfl, b, l1, 2, rfl, hb1, by decide, fun v e l2 H2 we de te hb2 kp2 => ⟨(by show 2 ≤ sizeLine; decide), ?_⟩⟩
    have le := l7 de
    exact Drawn.mk q (.ret e) ⟨⟨we, by omega⟩, Nat.le_refl 1, by show e.len + 1 ≤ 11; omega⟩ rfl (.cons (.str _) (.cons te .nil)) hb2 (kp1.trans kp2)
  · refine ⟨(by show 0 ≤ sizeLine; decide), fun p hp => ⟨(by show 2 ≤ sizeLine; decide), ?_⟩⟩
    exact Drawn.mk q (.row .nil) ⟨trivial, Nat.le_refl 1, by show 0 ≤ 11; omega⟩ rfl (.cons (.str _) (.cons (.tup (.inl (.inl upd_same)) .nil) .nil)) (box_new hb1 hp) (kp1.trans (Kp.new hp))
  · refine ⟨_, rfl, b, l1, 8, rfl, hb1, by decide, by decide, fun x l2 H2 x0 x1 hb2 kp2 => ?_⟩
    obtain ⟨k, rfl⟩ : ∃ k : Nat, x = (k : Int) := ⟨x.toNat, by omega⟩
    refine ⟨_, rfl, b, l2, 2, rfl, hb2, by decide, fun v e l3 H3 we de te hb3 kp3 => ⟨(by show 3 ≤ sizeLine; decide), ?_⟩⟩
    have le := l7 de
    exact Drawn.mk q (.set k e) ⟨⟨by omega, we, by omega⟩, Nat.le_refl 1, by show e.len + 1 ≤ 11; omega⟩ rfl (.cons (.str _) (.cons (.int _) (.cons te .nil))) hb3 ((kp1.trans kp2).trans kp3)
  · refine ⟨_, rfl, b, l1, 2, rfl, hb1, by decide, fun v e l2 H2 we de te hb2 kp2 => ⟨(by show 2 ≤ sizeLine; decide), ?_⟩⟩
    have le := l7 de
    exact Drawn.mk q (.say e) ⟨⟨we, by omega⟩, Nat.le_refl 1, by show e.len + 1 ≤ 11; omega⟩ rfl (.cons (.str _) (.cons te .nil)) hb2 (kp1.trans kp2)
abbrev N_law_handler : List Str := ["_law_box", "_law_shape", "_law_deep", "_law_turn", "_law_kind", "_law_slot"]
theorem rd_law_handler {n : Nat} (vs : List V) (H : Hp) (Q : VK) (E : XK) (h : spHandler K n vs H Q E) : t_law_handler K spTake (spStmt K n) { nx := fun _ H' => Q .non H', rt := Q } (start N_law_handler vs) H := by
  obtain ⟨b, sh, l, cs, nk, d, turn, rfl, hb, s, hd, q⟩ := h
  obtain ⟨c, h1, h2, cb⟩ := s.ex
  refine ⟨_, rfl, rd_ixL (j := 1) rfl (SqL.of h1) rfl ⟨_, _, rfl, rfl, b, l, _, rfl, hb, by have := s.n0; omega, by have := s.n9; omega, fun r l1 H1 r0 r1 hb1 kp1 => ?_⟩⟩
  refine ⟨_, rfl, b, l1, 8, rfl, hb1, by decide, by decide, fun x l2 H2 x0 x1 hb2 kp2 => ?_⟩
  obtain ⟨k, rfl⟩ : ∃ k : Nat, x = (k : Int) := ⟨x.toNat, by omega⟩
  have s2 := s.mono (kp1.trans kp2)
  have h1' := (kp1.trans kp2) _ _ h1 s.ne
  have fin : ∀ o : Option Nat, (∀ j, o = some j → j < nk) → (tRet (tTup (tCons (tVar 4) (tCons (tVar 5) (tCons (tCall (spStmt K n) [] E0 (tCons (tVar 0) (tCons (tVar 1) (tCons (tVar 2) (tCons (tVar 3) (tCons (tC (.bl true)) (tNil))))))) (tNil)))))) { nx := fun _ H' => Q .non H', rt := Q } [some (.ref b), some (.ref sh), some (.int (d : Int)), some (.bl turn), some (kindV o), some (.int (k : Int))] H2 := by
    intro o ho
    refine ⟨_, rfl, _, rfl, _, rfl, _, rfl, _, rfl, _, rfl, b, sh, l2, cs, nk, d, turn, true, rfl, hb2, s2, hd, fun v st l3 H3 g3 t3 hb3 kp3 => ⟨(by show 3 ≤ sizeLine; decide), ?_⟩⟩
    refine Drawn.mk q (o, k, st) ⟨⟨ho, by show k < 8; omega, g3.1⟩, g3.2⟩ rfl ?_ hb3 ((kp1.trans kp2).trans kp3)
    refine .cons ?_ (.cons (.int _) (.cons t3 .nil))
    cases o with
    | none => exact .non
    | some j => exact .int _
  refine ⟨_, rfl, rd_ixL (j := 1) rfl (SqL.of h1') rfl ⟨rfl, _, rfl, ifB (fun _ => fin none fun _ z => by cases z) fun e => ?_⟩⟩
  have hr : r ≠ (nk : Int) := fun z => by rw [z] at e; simp at e
  have := fin (some r.toNat) fun j z => by cases z; omega
  rw [show kindV (some r.toNat) = V.int r by show V.int (r.toNat : Int) = _; rw [Int.toNat_of_nonneg r0]] at this
  exact this
theorem stT {cs : List Nat} {nk : Nat} {turn hand : Bool} {D R D' R' : Nat} {s : Sm} (h : StmtOk cs nk turn hand D R s) (hd : D ≤ D') (hr : R ≤ R') : StmtOk cs nk turn hand D' R' s := ⟨h.1, Nat.le_trans h.2.1 hd, Nat.le_trans h.2.2 hr⟩
theorem d5 {b sh : Addr} {d : Nat} {t u : Bool} (h : 0 < d) : [V.ref b, .ref sh, V.int ((d : Int) - 1), .bl t, .bl u] = [V.ref b, .ref sh, V.int ((d - 1 : Nat) : Int), .bl t, .bl u] := by
  rw [show ((d : Int) - 1) = ((d - 1 : Nat) : Int) by omega]
theorem d4 {b sh : Addr} {d : Nat} {t : Bool} (h : 0 < d) : [V.ref b, .ref sh, V.int ((d : Int) - 1), .bl t] = [V.ref b, .ref sh, V.int ((d - 1 : Nat) : Int), .bl t] := by
  rw [show ((d : Int) - 1) = ((d - 1 : Nat) : Int) by omega]
abbrev N_law_statement : List Str := ["_law_box", "_law_shape", "_law_deep", "_law_turn", "_law_handler_here", "_law_kind", "_law_k", "_law_many", "_law_part_here", "_law_yes", "_law_inner"]
theorem rd_law_statement {n : Nat} (vs : List V) (H : Hp) (Q : VK) (E : XK) (h : spStmt K (n + 1) vs H Q E) : t_law_statement K spTake (spSimple K) (spStmt K n) (spPart K 5) (spHandler K n) { nx := fun _ H' => Q .non H', rt := Q } (start N_law_statement vs) H := by
  obtain ⟨b, sh, l, cs, nk, d, turn, hand, rfl, hb, s, hd, q⟩ := h
  refine ⟨_, rfl, b, l, 14, rfl, hb, by decide, by decide, fun r l1 H1 r0 r1 hb1 kp1 => ?_⟩
  have s1 := s.mono kp1
  refine r_if (pb_or (pb_eqI rfl) (pb_lt rfl)) (fun _ => ?_) fun e => ?_
  · exact ⟨_, rfl, _, rfl, _, rfl, _, rfl, b, sh, l1, cs, nk, turn, hand, rfl, hb1, s1, fun v x l' H' gx tx hb' kp' => q v x l' H' (stT gx (by omega) (Bd_ge d)) tx hb' (kp1.trans kp')⟩
  obtain ⟨e0, _⟩ := Bool.or_eq_false_iff.mp e
  have hd0 : 0 < d := by
    by_cases z : d = 0
    · subst z; exact absurd rfl (of_decide_eq_false e0)
    · omega
  obtain ⟨d, rfl⟩ : ∃ m, d = m + 1 := ⟨d - 1, by omega⟩
  have eB : Bd (d + 1) = max 66 (3 * Bd d + 9) := rfl
  have gB := Bd_ge d
  have rest : ∀ (l1 : List Int) (H1 : Hp), H1 b = some (.lst (l1.map V.int)) → Kp (Bx b) H H1 → ShAt H1 b sh cs nk → (tSeq (tIfS (tTest (tOp rLt (tVar 5) (tC (.int 7)))) (tSeq (tAsg (tOp rAdI (tC (.int 2)) (tCall spTake [] E0 (tCons (tVar 0) (tCons (tC (.int 2)) (tNil))))) (gName 7)) (tRet (tTup (tCons (tC (.str "row")) (tCons (tCB (rTupOf K) (tCons (tLc (iRng1 (tCons (tVar 7) (tNil))) (gName 6) (tYes) (tCall (spStmt K n) [] E0 (tCons (tVar 0) (tCons (tVar 1) (tCons (tOp rSbI (tVar 2) (tC (.int 1))) (tCons (tVar 3) (tCons (tVar 4) (tNil))))))) [6]) (tNil))) (tNil)))))) (tNext)) (tSeq (tIfS (tTest (tOp rEq (tVar 5) (tC (.int 7)))) (tSeq (tAsg (tCall (spPart K 5) [] E0 (tCons (tVar 0) (tCons (tC (.int 2)) (tNil)))) (gName 8)) (tSeq (tAsg (tCall (spStmt K n) [] E0 (tCons (tVar 0) (tCons (tVar 1) (tCons (tOp rSbI (tVar 2) (tC (.int 1))) (tCons (tVar 3) (tCons (tVar 4) (tNil))))))) (gName 9)) (tRet (tTup (tCons (tC (.str "if")) (tCons (tVar 8) (tCons (tVar 9) (tCons (tCall (spStmt K n) [] E0 (tCons (tVar 0) (tCons (tVar 1) (tCons (tOp rSbI (tVar 2) (tC (.int 1))) (tCons (tVar 3) (tCons (tVar 4) (tNil))))))) (tNil))))))))) (tNext)) (tSeq (tIfS (tTest (tOp rLt (tVar 5) (tC (.int 9)))) (tSeq (tAsg (tCall (spPart K 5) [] E0 (tCons (tVar 0) (tCons (tC (.int 2)) (tNil)))) (gName 8)) (tRet (tTup (tCons (tC (.str "while")) (tCons (tVar 8) (tCons (tCall (spStmt K n) [] E0 (tCons (tVar 0) (tCons (tVar 1) (tCons (tOp rSbI (tVar 2) (tC (.int 1))) (tCons (tC (.bl true)) (tCons (tVar 4) (tNil))))))) (tNil))))))) (tNext)) (tSeq (tAsg (tCall (spStmt K n) [] E0 (tCons (tVar 0) (tCons (tVar 1) (tCons (tOp rSbI (tVar 2) (tC (.int 1))) (tCons (tVar 3) (tCons (tVar 4) (tNil))))))) (gName 10)) (tSeq (tIfS (tTest (tOp rLt (tVar 5) (tC (.int 12)))) (tSeq (tAsg (tOp rAdI (tC (.int 1)) (tCall spTake [] E0 (tCons (tVar 0) (tCons (tC (.int 2)) (tNil))))) (gName 7)) (tRet (tTup (tCons (tC (.str "try")) (tCons (tVar 10) (tCons (tCB (rTupOf K) (tCons (tLc (iRng1 (tCons (tVar 7) (tNil))) (gName 6) (tYes) (tCall (spHandler K n) [] E0 (tCons (tVar 0) (tCons (tVar 1) (tCons (tOp rSbI (tVar 2) (tC (.int 1))) (tCons (tVar 3) (tNil)))))) [6]) (tNil))) (tNil))))))) (tNext)) (tRet (tTup (tCons (tC (.str "clean")) (tCons (tVar 10) (tCons (tCall (spStmt K n) [] E0 (tCons (tVar 0) (tCons (tVar 1) (tCons (tOp rSbI (tVar 2) (tC (.int 1))) (tCons (tVar 3) (tCons (tVar 4) (tNil))))))) (tNil))))))))))) { nx := fun _ H' => Q .non H', rt := Q } [some (.ref b), some (.ref sh), some (.int ((d + 1 : Nat) : Int)), some (.bl turn), some (.bl hand), some (.int r), none, none, none, none, none] H1 := by
    intro l1 H1 hb1 kp1 s1
    -- a statement one less deep
    have sub : ∀ (t h : Bool) {l2 : List Int} {H2 : Hp} {Q2 : VK}, H2 b = some (.lst (l2.map V.int)) → ShAt H2 b sh cs nk → Drawn K b H2 Q2 Sm.d (StmtOk cs nk t h (d + 1) (Bd d)) → spStmt K n [.ref b, .ref sh, .int (((d + 1 : Nat) : Int) - 1), .bl t, .bl h] H2 Q2 E0 :=
      fun t h {l2 H2 Q2} hb2 s2 dr => ⟨b, sh, l2, cs, nk, d, t, h, by rw [show (((d + 1 : Nat) : Int) - 1) = (d : Int) by omega], hb2, s2, by omega, dr⟩
    refine r_if (pb_lt rfl) (fun _ => ?_) fun _ => r_if (pb_eqI rfl) (fun _ => ?_) fun _ => r_if (pb_lt rfl) (fun _ => ?_) fun _ => ?_
    · -- row
      refine ⟨_, rfl, b, l1, 2, rfl, hb1, by decide, by decide, fun x l2 H2 x0 x1 hb2 kp2 => ⟨_, _, rfl, rfl, ?_⟩⟩
      have s2 := s1.mono kp2
      refine ⟨_, rfl, _, rfl, by omega, by omega, fun D hD => ?_⟩
      refine lc_draw (K := K) (l := l2) Sm.d (StmtOk cs nk turn hand (d + 1) (Bd d)) _ ?hn hb2 hD ?hw ?_ ?_
      case hn => omega
      case hw => exact fun _ => rfl
      · intro i H3 l3 hi hb3 kp3 Q' dr
        exact ⟨_, rfl, _, rfl, _, rfl, _, _, rfl, rfl, _, rfl, _, rfl, sub turn hand hb3 (s2.mono kp3) dr⟩
      · intro items us l3 H3 hl hg hD3 ht hb3 kp3
        refine ⟨D, us, rfl, .inl ⟨SqL.of hD3, fun p hp => ⟨(by show 2 ≤ sizeLine; decide), ?_⟩⟩⟩
        have hl3 : items.length ≤ 3 := by omega
        have len := Sms.len_ofL (n := Bd d) fun s hs => (hg s hs).2.2
        have : items.length * Bd d ≤ 3 * Bd d := Nat.mul_le_mul_right _ hl3
        refine Drawn.mk q (.row (Sms.ofL items)) ⟨Sms.wf_ofL fun s hs => (hg s hs).1, ?_, ?_⟩ rfl (.cons (.str _) (.cons (.tup (.inl (.inl upd_same)) ?_) .nil)) (box_new hb3 hp) (((kp1.trans kp2).trans kp3).trans (Kp.new hp))
        · show (Sms.ofL items).dep + 1 ≤ d + 1 + 1
          have := Sms.dep_ofL (n := d + 1) fun s hs => (hg s hs).2.1
          omega
        · show (Sms.ofL items).len ≤ Bd (d + 1)
          omega
        · rw [Sms.ds_ofL]
          exact ht.mono (Tk.new hp)
    · -- if
      refine ⟨_, rfl, b, l1, 2, rfl, hb1, by decide, fun v e l2 H2 we de te hb2 kp2 => ?_⟩
      refine ⟨_, rfl, _, rfl, _, rfl, _, _, rfl, rfl, _, rfl, _, rfl, sub turn hand hb2 (s1.mono kp2) fun v1 y l3 H3 gy ty hb3 kp3 => ?_⟩
      refine ⟨_, rfl, _, rfl, _, rfl, _, rfl, _, rfl, _, _, rfl, rfl, _, rfl, _, rfl, sub turn hand hb3 ((s1.mono kp2).mono kp3) fun v2 z l4 H4 gz tz hb4 kp4 => ⟨(by show 4 ≤ sizeLine; decide), ?_⟩⟩
      have le := Ex.len_le (n := 2) de
      have y2 := gy.2.1; have y3 := gy.2.2; have z2 := gz.2.1; have z3 := gz.2.2
      exact Drawn.mk q (.ife e y z) ⟨⟨⟨we, by omega⟩, gy.1, gz.1⟩, by show max y.dep z.dep + 1 ≤ _; omega, by show e.len + 1 + y.len + 1 + z.len ≤ _; omega⟩ rfl (.cons (.str _) (.cons ((te.mono (kp3.tk1 hb2)).mono (kp4.tk1 hb3)) (.cons (ty.mono (kp4.tk1 hb3)) (.cons tz .nil)))) hb4 (((kp1.trans kp2).trans kp3).trans kp4)
    · -- while
      refine ⟨_, rfl, b, l1, 2, rfl, hb1, by decide, fun v e l2 H2 we de te hb2 kp2 => ?_⟩
      refine ⟨_, rfl, _, rfl, _, rfl, _, rfl, _, _, rfl, rfl, _, rfl, sub true hand hb2 (s1.mono kp2) fun v1 y l3 H3 gy ty hb3 kp3 => ⟨(by show 3 ≤ sizeLine; decide), ?_⟩⟩
      have le := Ex.len_le (n := 2) de
      have y2 := gy.2.1; have y3 := gy.2.2
      exact Drawn.mk q (.whl e y) ⟨⟨⟨we, by omega⟩, gy.1⟩, by show y.dep + 1 ≤ _; omega, by show e.len + 2 + y.len + 1 ≤ _; omega⟩ rfl (.cons (.str _) (.cons (te.mono (kp3.tk1 hb2)) (.cons ty .nil))) hb3 ((kp1.trans kp2).trans kp3)
    · -- try, clean
      refine ⟨_, rfl, _, rfl, _, rfl, _, _, rfl, rfl, _, rfl, _, rfl, sub turn hand hb1 s1 fun v1 y l2 H2 gy ty hb2 kp2 => ?_⟩
      have s2 := s1.mono kp2
      have y2 := gy.2.1; have y3 := gy.2.2
      refine r_if (pb_lt rfl) (fun _ => ?_) fun _ => ?_
      · refine ⟨_, rfl, b, l2, 2, rfl, hb2, by decide, by decide, fun x l3 H3 x0 x1 hb3 kp3 => ⟨_, _, rfl, rfl, ?_⟩⟩
        have s3 := s2.mono kp3
        refine ⟨_, rfl, _, rfl, _, rfl, by omega, by omega, fun D hD => ?_⟩
        refine lc_draw (K := K) (l := l3) hdD (HdOk cs nk turn (d + 1) (Bd d)) _ ?hn2 hb3 hD ?hw2 ?_ ?_
        case hn2 => omega
        case hw2 => exact fun _ => rfl
        · intro i H4 l4 hi hb4 kp4 Q' dr
          exact ⟨_, rfl, _, rfl, _, rfl, _, _, rfl, rfl, _, rfl, b, sh, l4, cs, nk, d, turn, by show [V.ref b, .ref sh, V.int (((d + 1 : Nat) : Int) - 1), .bl turn] = _; rw [show (((d + 1 : Nat) : Int) - 1) = (d : Int) by omega], hb4, s3.mono kp4, by omega, dr⟩
        · intro items us l4 H4 hl hg hD4 ht hb4 kp4
          refine ⟨D, us, rfl, .inl ⟨SqL.of hD4, fun p hp => ⟨(by show 3 ≤ sizeLine; decide), ?_⟩⟩⟩
          have hl3 : items.length ≤ 2 := by omega
          have len := Hds.len_ofL (n := Bd d) fun s hs => (hg s hs).2.2
          have : items.length * (Bd d + 4) ≤ 2 * (Bd d + 4) := Nat.mul_le_mul_right _ hl3
          refine Drawn.mk q (.tri y (Hds.ofL items)) ⟨⟨gy.1, Hds.wf_ofL fun s hs => (hg s hs).1⟩, ?_, ?_⟩ rfl (.cons (.str _) (.cons (((ty.mono (kp3.tk1 hb2)).mono (kp4.tk1 hb3)).mono (Tk.new hp)) (.cons (.tup (.inl (.inl upd_same)) ?_) .nil))) (box_new hb4 hp) ((((kp1.trans kp2).trans kp3).trans kp4).trans (Kp.new hp))
          · show max y.dep (Hds.ofL items).dep + 1 ≤ d + 1 + 1
            have := Hds.dep_ofL (n := d + 1) fun s hs => (hg s hs).2.1
            omega
          · show y.len + 1 + (Hds.ofL items).len ≤ Bd (d + 1)
            omega
          · rw [Hds.ds_ofL]
            exact ht.mono (Tk.new hp)
      · refine ⟨_, rfl, _, rfl, _, rfl, _, rfl, _, _, rfl, rfl, _, rfl, _, rfl, sub turn hand hb2 s2 fun v2 z l3 H3 gz tz hb3 kp3 => ⟨(by show 3 ≤ sizeLine; decide), ?_⟩⟩
        have z2 := gz.2.1; have z3 := gz.2.2
        exact Drawn.mk q (.cln y z) ⟨⟨gy.1, gz.1⟩, by show max y.dep z.dep + 1 ≤ _; omega, by show y.len + 2 + z.len + 1 ≤ _; omega⟩ rfl (.cons (.str _) (.cons (ty.mono (kp3.tk1 hb2)) (.cons tz .nil))) hb3 ((kp1.trans kp2).trans kp3)
  -- kind 4, a row of simple ones
  refine ⟨_, rfl, rfl, _, rfl, ifB (fun _ => ?_) fun _ => rest l1 H1 hb1 kp1 s1⟩
  refine ⟨_, rfl, b, l1, 3, rfl, hb1, by decide, by decide, fun x l2 H2 x0 x1 hb2 kp2 => ⟨rfl, _, rfl, ifB (fun _ => ?_) fun _ => rest l2 H2 hb2 (kp1.trans kp2) (s1.mono kp2)⟩⟩
  refine ⟨_, rfl, b, l2, 7, rfl, hb2, by decide, by decide, fun y l3 H3 y0 y1 hb3 kp3 => ⟨_, rfl, by omega, by omega, fun D hD => ?_⟩⟩
  have s3 := (s1.mono kp2).mono kp3
  refine lc_draw (K := K) (l := l3) Sm.d (StmtOk cs nk turn hand 1 11) _ ?hn hb3 hD ?hw ?_ ?_
  case hn => omega
  case hw => exact fun _ => rfl
  · intro i H4 l4 hi hb4 kp4 Q' dr
    exact ⟨_, rfl, _, rfl, _, rfl, _, rfl, b, sh, l4, cs, nk, turn, hand, rfl, hb4, s3.mono kp4, dr⟩
  · intro items us l4 H4 hl hg hD4 ht hb4 kp4
    refine ⟨D, us, rfl, .inl ⟨SqL.of hD4, fun p hp => ⟨(by show 2 ≤ sizeLine; decide), ?_⟩⟩⟩
    have hl6 : items.length ≤ 6 := by omega
    have len := Sms.len_ofL (n := 11) fun s hs => (hg s hs).2.2
    have : items.length * 11 ≤ 6 * 11 := Nat.mul_le_mul_right _ hl6
    refine Drawn.mk q (.row (Sms.ofL items)) ⟨Sms.wf_ofL fun s hs => (hg s hs).1, ?_, ?_⟩ rfl (.cons (.str _) (.cons (.tup (.inl (.inl upd_same)) ?_) .nil)) (box_new hb4 hp) ((((kp1.trans kp2).trans kp3).trans kp4).trans (Kp.new hp))
    · show (Sms.ofL items).dep + 1 ≤ d + 1 + 1
      have := Sms.dep_ofL (n := 1) fun s hs => (hg s hs).2.1
      omega
    · show (Sms.ofL items).len ≤ Bd (d + 1)
      omega
    · rw [Sms.ds_ofL]
      exact ht.mono (Tk.new hp)
/-! ### programs -/
structure PgOk (p : Pg) : Prop where
  wf : p.Wf
  small : p.Small 5 1890
  k4 : p.kinds.length ≤ 4
  f4 : p.funs.length ≤ 4
def spProgram (K : PySem.W.Frag) : Sp := fun vs H Q _ => ∃ (b : Addr) (l : List Int), vs = [.ref b] ∧ H b = some (.lst (l.map V.int)) ∧ Drawn K b H Q Pg.d PgOk
abbrev N_law_program : List Str := ["_law_box", "_law_kinds_here", "_law_shape", "_law_k", "_law_functions", "_law_many", "_law_parts"]
theorem rd_law_program (vs : List V) (H : Hp) (Q : VK) (E : XK) (h : spProgram K vs H Q E) : t_law_program K spKinds spTake (spStmt K 4) { nx := fun _ H' => Q .non H', rt := Q } (start N_law_program vs) H := by
  obtain ⟨b, l, rfl, hb, q⟩ := h
  refine ⟨_, rfl, b, l, 4, rfl, hb, by decide, by decide, fun a ks l1 H1 wk k0 k4 ha _ hb1 kp1 => ?_⟩
  have ab : a ≠ b := ne_of ha hb1 (by intro z; cases z)
  refine ⟨_, rfl, b, l1, 4, rfl, hb1, by decide, by decide, fun n l2 H2 n0 n1 hb2 kp2 => ⟨_, _, rfl, rfl, ?_⟩⟩
  refine ⟨_, rfl, by omega, by omega, fun c hc => ?_⟩
  have cb : c ≠ b := fun e => by rw [e, hb2] at hc; cases hc
  refine lc_draw (K := K) (l := l2) (fun n : Nat => PyData.int (n : Int)) (fun n : Nat => n ≤ 3) _ ?hn hb2 hc ?hw ?_ ?_
  case hn => omega
  case hw => exact fun _ => rfl
  · intro i H3 l3 hi hb3 kp3 Q' dr
    refine ⟨_, rfl, b, l3, 4, rfl, hb3, by decide, by decide, fun x l4 H4 x0 x1 hb4 kp4 => ?_⟩
    obtain ⟨k, rfl⟩ : ∃ k : Nat, x = (k : Int) := ⟨x.toNat, by omega⟩
    exact dr _ k l4 H4 (by show k ≤ 3; omega) (.int _) hb4 kp4
  · intro cs cvs l3 H3 hl hg hc3 ht hb3 kp3
    have ecs : cvs = cs.map fun n : Nat => V.int (n : Int) := by
      clear hl hg hc3
      induction cs generalizing cvs with
      | nil => exact ht.nilE
      | cons x r ih =>
        obtain ⟨v, us, rfl, h1, h2⟩ := TpAll.consE ht
        rw [h1.intE, ih us h2]; rfl
    subst ecs
    have ha3 := kp3 _ _ (kp2 _ _ ha ab) ab
    refine ⟨_, rfl, a, _, rfl, .inr (SqT.of ha3), (by show 2 ≤ sizeLine; decide), fun sh hsh => ?_⟩
    rw [List.length_map]
    have hc4 : L2.upd H3 sh (.lst [.ref c, .int (ks.length : Int)]) c = some (.lst (cs.map fun n : Nat => V.int (n : Int))) := by rw [upd_ne (ne_of_none hc3 hsh)]; exact hc3
    have hb4 := box_new (o := .lst [.ref c, .int (ks.length : Int)]) hb3 hsh
    have shb : sh ≠ b := fun e => by rw [e, hb3] at hsh; cases hsh
    have shA : ShAt (L2.upd H3 sh (.lst [.ref c, .int (ks.length : Int)])) b sh cs ks.length := ⟨⟨c, upd_same, hc4, cb⟩, shb, k0, by omega, by omega, by omega, hg⟩
    have ha4 : L2.upd H3 sh (.lst [.ref c, .int (ks.length : Int)]) a = some (.tup (ks.map kindV)) := by rw [upd_ne (ne_of_none ha3 hsh)]; exact ha3
    have kp4 : Kp (Bx b) H (L2.upd H3 sh (.lst [.ref c, .int (ks.length : Int)])) := ((kp1.trans kp2).trans kp3).trans (Kp.new hsh)
    refine ⟨(by show 0 ≤ sizeLine; decide), fun F hF => ?_⟩
    have Fb : F ≠ b := fun e => by rw [e, hb4] at hF; cases hF
    have Fsh : F ≠ sh := fun e => by rw [e, upd_same] at hF; cases hF
    have Fc : F ≠ c := fun e => by rw [e, hc4] at hF; cases hF
    have Fa : F ≠ a := fun e => by rw [e, ha4] at hF; cases hF
    have shA5 : ShAt (L2.upd (L2.upd H3 sh (.lst [.ref c, .int (ks.length : Int)])) F (.lst [])) b sh cs ks.length := shA.mono (Kp.new hF)
    obtain ⟨c', hx1, hx2, _⟩ := shA5.ex
    refine rd_ixL (j := 0) rfl (SqL.of hx1) rfl ⟨_, rfl, ⟨_, SqL.of hx2⟩, for_list (K := K) (a := c') (xs := cs.map fun n : Nat => V.int (n : Int))
      (fun i σ H' => ∃ (fs : List (Nat × Sm)) (fvs : List V) (l' : List Int) (v3 v5 v6 : Option V), σ = [some (.ref b), some (.ref a), some (.ref sh), v3, some (.ref F), v5, v6] ∧ fs.map (·.1) = cs.take i ∧
        (∀ f ∈ fs, f.2.Wf cs ks.length false false ∧ f.2.dep ≤ 5 ∧ f.2.len ≤ 1890) ∧ H' F = some (.lst fvs) ∧ TpAll K H' fvs (fs.map funD) ∧ H' b = some (.lst (l'.map V.int)) ∧ Kp (Bx b) (L2.upd H3 sh (.lst [.ref c, .int (ks.length : Int)])) H' ∧ H' c' = some (.lst (cs.map fun n : Nat => V.int (n : Int))))
      ⟨[], [], l3, none, none, none, rfl, rfl, (by simp), upd_same, .nil, box_new hb4 hF, Kp.new hF, hx2⟩ (fun i σ H' _ ⟨_, _, _, _, _, _, _, _, _, _, _, _, _, h⟩ => SqL.of h) ?_ ?_⟩
    · rintro i y σ H5 hy ⟨fs, fvs, l5, v3, v5, v6, rfl, hf1, hf2, hF5, ht5, hb5, kp5, hc5⟩
      have shA6 := shA.mono kp5
      rw [List.getElem?_map] at hy
      cases ei : cs[i]? with
      | none => rw [ei] at hy; cases hy
      | some m =>
        rw [ei] at hy
        obtain rfl : V.int (m : Int) = y := Option.some.inj hy
        refine ⟨_, rfl, b, l5, 3, rfl, hb5, by decide, by decide, fun x l6 H6 x0 x1 hb6 kp6 => ⟨_, _, rfl, rfl, ?_⟩⟩
        have F6 := kp6 _ _ hF5 Fb
        refine ⟨_, rfl, by omega, by omega, fun D hD => ?_⟩
        have DF : F ≠ D := ne_of_none F6 hD
        refine lc_draw (K := K) (l := l6) Sm.d (StmtOk cs ks.length false false 4 (Bd 3)) _ ?hn hb6 hD ?hw ?_ ?_
        case hn => omega
        case hw => exact fun _ => rfl
        · intro i7 H7 l7 hi hb7 kp7 Q' dr
          exact ⟨_, rfl, _, rfl, b, sh, l7, cs, ks.length, 3, false, false, rfl, hb7, (shA6.mono kp6).mono kp7, by decide, dr⟩
        · intro items us l7 H7 hl7 hg7 hD7 ht7 hb7 kp7
          have F7 := kp7 _ _ F6 Fb
          refine ⟨_, rfl, .inl ⟨rfl, _, SqL.of F7⟩, _, rfl, _, rfl, D, us, rfl, .inl ⟨SqL.of hD7, fun p hp => ⟨(by show 2 ≤ sizeLine; decide), fun p2 hp2 => ⟨(by show 2 ≤ sizeLine; decide), fun p3 hp3 => ?_⟩⟩⟩⟩
          have hb8 := box_new (o := .tup us) hb7 hp
          have hb9 := box_new (o := .tup [.str "row", .ref p]) hb8 hp2
          have hb10 := box_new (o := .tup [.int (m : Int), .ref p2]) hb9 hp3
          have F8 : L2.upd (L2.upd (L2.upd H7 p (.tup us)) p2 (.tup [.str "row", .ref p])) p3 (.tup [.int (m : Int), .ref p2]) F = some (.lst fvs) := by
            have e1 := ne_of_none F7 hp
            have z1 : L2.upd H7 p (.tup us) F = some (.lst fvs) := by rw [upd_ne e1]; exact F7
            have e2 := ne_of_none z1 hp2
            have z2 : L2.upd (L2.upd H7 p (.tup us)) p2 (.tup [.str "row", .ref p]) F = some (.lst fvs) := by rw [upd_ne e2]; exact z1
            rw [upd_ne (ne_of_none z2 hp3)]; exact z2
          have kpX : Kp (Bx b) H5 (L2.upd (L2.upd (L2.upd H7 p (.tup us)) p2 (.tup [.str "row", .ref p])) p3 (.tup [.int (m : Int), .ref p2])) := (((kp6.trans kp7).trans (Kp.new hp)).trans (Kp.new hp2)).trans (Kp.new hp3)
          have tkX : Tk H5 (L2.upd (L2.upd (L2.upd H7 p (.tup us)) p2 (.tup [.str "row", .ref p])) p3 (.tup [.int (m : Int), .ref p2])) := kpX.tk1 hb5
          have tB : TpAll K (L2.upd (L2.upd H7 p (.tup us)) p2 (.tup [.str "row", .ref p])) [.int (m : Int), .ref p2] [.int (m : Int), (Sm.row (Sms.ofL items)).d] := by
            refine .cons (.int _) (.cons (Tp.mk hp2 (.cons (.str _) (.cons (Tp.mk hp ?_) .nil))) .nil)
            rw [Sms.ds_ofL]; exact ht7
          have len := Sms.len_ofL (n := 630) fun s hs => (hg7 s hs).2.2
          have dep := Sms.dep_ofL (n := 4) fun s hs => (hg7 s hs).2.1
          have : items.length * 630 ≤ 3 * 630 := Nat.mul_le_mul_right _ (by omega)
          have fl : fvs.length = i := by
            have e1 := ht5.length
            have e2 : fs.length = (cs.take i).length := by rw [← hf1, List.length_map]
            have := (List.getElem?_eq_some_iff.mp ei).1
            rw [List.length_map] at e1
            rw [List.length_take] at e2
            omega
          have ilt := (List.getElem?_eq_some_iff.mp ei).1
          refine ⟨F, fvs, .ref p3, rfl, rfl, F8, sz_lt1 (by omega), fs ++ [(m, .row (Sms.ofL items))], fvs ++ [.ref p3], l7, _, _, _, rfl, ?_, ?_, upd_same, ?_, ?_, ?_, ?_⟩
          · rw [List.map_append, hf1, List.take_succ, ei]; rfl
          · intro f hf
            rcases List.mem_append.mp hf with z | z
            · exact hf2 f z
            · obtain rfl : f = (m, .row (Sms.ofL items)) := by simpa using z
              exact ⟨Sms.wf_ofL fun s hs => (hg7 s hs).1, by show (Sms.ofL items).dep + 1 ≤ 5; omega, by show (Sms.ofL items).len ≤ 1890; omega⟩
          · rw [List.map_append]
            exact ((ht5.mono tkX).snoc (Tp.mk hp3 tB)).mono (Tk.lst F8)
          · rw [upd_ne Fb.symm]; exact hb10
          · exact (kp5.trans kpX).late hF
          · have cF : c' ≠ F := by
              rintro rfl
              rw [upd_same] at hx2
              have := Option.some.inj hx2
              injection this with e
              have hz := shA.c0
              cases cs with
              | nil => simp at hz
              | cons _ _ => cases e
            have cb' : c' ≠ b := by
              obtain ⟨c2, _, _, h3⟩ := shA5.ex
              assumption
            rw [upd_ne cF]; exact kpX _ _ hc5 cb'
    · rintro σ H5 ⟨fs, fvs, l5, v3, v5, v6, rfl, hf1, hf2, hF5, ht5, hb5, kp5, hc5⟩
      rw [List.length_map, List.take_of_length_le (Nat.le_refl _)] at hf1
      have ha5 := kp5 _ _ ha4 ab
      refine ⟨_, rfl, _, rfl, F, fvs, rfl, .inl ⟨SqL.of hF5, fun p hp => ⟨(by show 2 ≤ sizeLine; decide), ?_⟩⟩⟩
      have hcs : Pg.cs ⟨ks, fs⟩ = cs := hf1
      have lf : fs.length = cs.length := by rw [← hf1, List.length_map]
      refine Drawn.mk q (⟨ks, fs⟩ : Pg) ⟨⟨wk, k0, by show ks.length ≤ 8; omega, by show 0 < fs.length; omega, by show fs.length ≤ 8; omega, fun f hf => hg f.1 (by rw [← hf1]; exact List.mem_map_of_mem hf), fun f hf => by rw [hcs]; exact (hf2 f hf).1⟩, ⟨fun f hf => (hf2 f hf).2.1, fun f hf => (hf2 f hf).2.2⟩, by show ks.length ≤ 4; omega, by show fs.length ≤ 4; omega⟩ rfl ?_ (box_new hb5 hp) ((kp4.trans kp5).trans (Kp.new hp))
      exact .cons (.tup (.inl (.inl (by rw [upd_ne (ne_of_none ha5 hp)]; exact ha5))) (tp_kinds ks)) (.cons (Tp.mk hp ht5) .nil)
end
end Lp

/-! Lc: rows, code, tables, as data; the two ways of filling in what is behind. -/
namespace Lp
open PySem PySem.Spec PyProof.Rows L2

inductive Rw where
  | num (n : Int)
  | var (k : Nat)
  | op (o : BOp)
  | say
  | set (k : Nat)
  | unless (q : Int)
  | go (z : Int)
  | turn
  | leap (q D : Int)
  | ret
  | rais (kd : Nat) (m : Int)
  | again
  | call (f n : Nat) (m : Int)
  | hand (b x : Int) (kd : Option Nat) (D : Int)
  | settled
  | mend
  | cup (b x D : Int)
  | resume
  deriving DecidableEq
def Rw.d : Rw → PyData
  | .num n => .tuple [.str "num", .int n]
  | .var k => .tuple [.str "var", .int (k : Int)]
  | .op o => .tuple [.str o.s]
  | .say => .tuple [.str "say"]
  | .set k => .tuple [.str "set", .int (k : Int)]
  | .unless q => .tuple [.str "unless", .int q]
  | .go z => .tuple [.str "go", .int z]
  | .turn => .tuple [.str "turn"]
  | .leap q D => .tuple [.str "leap", .int q, .int D]
  | .ret => .tuple [.str "return"]
  | .rais kd m => .tuple [.str "raise", .int (kd : Int), .int m]
  | .again => .tuple [.str "again"]
  | .call f n m => .tuple [.str "call", .int (f : Int), .int (n : Int), .int m]
  | .hand b x kd D => .tuple [.str "handler", .int b, .int x, kindD kd, .int D]
  | .settled => .tuple [.str "settled"]
  | .mend => .tuple [.str "mend"]
  | .cup b x D => .tuple [.str "cleanup", .int b, .int x, .int D]
  | .resume => .tuple [.str "resume"]
def Ex.code : Ex → List Rw
  | .num n => [.num n]
  | .var k => [.var k]
  | .bin o a b => a.code ++ b.code ++ [.op o]
def exsCode : List Ex → List Rw
  | [] => []
  | e :: r => e.code ++ exsCode r
/-- the innermost while: its top, the place behind, its depth -/
abbrev Tn : Type := Int × Int × Int
mutual
def Sm.code (base D : Int) (tn : Tn) : Sm → List Rw
  | .say e => e.code ++ [.say]
  | .set k e => e.code ++ [.set k]
  | .row ps => ps.code base D tn
  | .ife e s t => e.code ++ [.unless (base + e.len + 1 + s.len + 1)] ++ s.code (base + e.len + 1) D tn ++ [.go (base + e.len + 1 + s.len + 1 + t.len)] ++ t.code (base + e.len + 1 + s.len + 1) D tn
  | .whl e s => e.code ++ [.unless (base + e.len + 2 + s.len + 1), .turn] ++ s.code (base + e.len + 2) D (base, base + e.len + 2 + s.len + 1, D) ++ [.go base]
  | .brk => [.leap tn.2.1 tn.2.2]
  | .cnt => [.leap tn.1 tn.2.2]
  | .ret e => e.code ++ [.ret]
  | .call k f ps m => exsCode ps ++ [.call f ps.length m, .set k]
  | .rais kd e m => e.code ++ [.rais kd m]
  | .again => [.again]
  | .tri s hs => s.code base D tn ++ [.go (base + s.len + 1 + hs.len)] ++ hs.code base (base + s.len) (base + s.len + 1 + hs.len) (base + s.len + 1) D tn
  | .cln s c => s.code base D tn ++ [.mend, .cup base (base + s.len + 1) D] ++ c.code (base + s.len + 2) (D + 1) tn ++ [.resume]
def Sms.code (base D : Int) (tn : Tn) : Sms → List Rw
  | .nil => []
  | .cons s r => s.code base D tn ++ r.code (base + s.len) D tn
/-- handlers of the stretch b, x, from the place at_ on; z: the place behind all -/
def Hds.code (b x z at_ D : Int) (tn : Tn) : Hds → List Rw
  | .nil => []
  | .cons k sl t r => [.hand b x k D, .set sl] ++ t.code (at_ + 2) (D + 1) tn ++ [.settled, .go z] ++ r.code b x z (at_ + 2 + t.len + 2) D tn
end
theorem Ex.code_len : ∀ e : Ex, e.code.length = e.len
  | .num _ => rfl
  | .var _ => rfl
  | .bin _ a b => by simp [Ex.code, Ex.len, Ex.code_len a, Ex.code_len b]; omega
theorem exsCode_len : ∀ ps : List Ex, (exsCode ps).length = exsLen ps
  | [] => rfl
  | e :: r => by simp [exsCode, exsLen, Ex.code_len, exsCode_len r]
mutual
theorem Sm.code_len : ∀ (s : Sm) (base D : Int) (tn : Tn), (s.code base D tn).length = s.len
  | .say e, _, _, _ => by simp [Sm.code, Sm.len, Ex.code_len]
  | .set _ e, _, _, _ => by simp [Sm.code, Sm.len, Ex.code_len]
  | .row ps, _, _, _ => by simp [Sm.code, Sm.len, Sms.code_len ps]
  | .ife e s t, _, _, _ => by simp [Sm.code, Sm.len, Ex.code_len, Sm.code_len s, Sm.code_len t]; omega
  | .whl e s, _, _, _ => by simp [Sm.code, Sm.len, Ex.code_len, Sm.code_len s]; omega
  | .brk, _, _, _ => rfl
  | .cnt, _, _, _ => rfl
  | .ret e, _, _, _ => by simp [Sm.code, Sm.len, Ex.code_len]
  | .call _ _ ps _, _, _, _ => by simp [Sm.code, Sm.len, exsCode_len]
  | .rais _ e _, _, _, _ => by simp [Sm.code, Sm.len, Ex.code_len]
  | .again, _, _, _ => rfl
  | .tri s hs, _, _, _ => by simp [Sm.code, Sm.len, Sm.code_len s, Hds.code_len hs]; omega
  | .cln s c, _, _, _ => by simp [Sm.code, Sm.len, Sm.code_len s, Sm.code_len c]; omega
theorem Sms.code_len : ∀ (ps : Sms) (base D : Int) (tn : Tn), (ps.code base D tn).length = ps.len
  | .nil, _, _, _ => rfl
  | .cons s r, _, _, _ => by simp [Sms.code, Sms.len, Sm.code_len s, Sms.code_len r]
theorem Hds.code_len : ∀ (hs : Hds) (b x z at_ D : Int) (tn : Tn), (hs.code b x z at_ D tn).length = hs.len
  | .nil, _, _, _, _, _, _ => rfl
  | .cons k sl t r, _, _, _, _, _, _ => by simp [Hds.code, Hds.len, Sm.code_len t, Hds.code_len r]; omega
end

/-! ### no place is below nought, but where it is handed in -/
def Nng : Rw → Prop
  | .unless q => 0 ≤ q
  | .go z => 0 ≤ z
  | .leap q _ => 0 ≤ q
  | _ => True
theorem Ex.nng : ∀ (e : Ex), ∀ r ∈ e.code, ∀ w D z, r ≠ .leap w D ∧ r ≠ .go z
  | .num _, r, h, w, D, z => by simp [Ex.code] at h; subst h; simp
  | .var _, r, h, w, D, z => by simp [Ex.code] at h; subst h; simp
  | .bin o a b, r, h, w, D, z => by
    simp [Ex.code] at h
    rcases h with h | h | h
    · exact Ex.nng a r h w D z
    · exact Ex.nng b r h w D z
    · subst h; simp
theorem exsCode_nng : ∀ (ps : List Ex), ∀ r ∈ exsCode ps, ∀ w D z, r ≠ .leap w D ∧ r ≠ .go z
  | [], r, h, _, _, _ => by simp [exsCode] at h
  | e :: ps, r, h, w, D, z => by
    rcases List.mem_append.mp (show r ∈ e.code ++ exsCode ps from h) with h | h
    · exact Ex.nng e r h w D z
    · exact exsCode_nng ps r h w D z

/-! ### the law's way: a mark below nought, filled in behind by a look at each row -/
def subL (w z D : Int) (r : Rw) : Rw := if r = .leap w D then .leap z D else r
def subG (z : Int) (r : Rw) : Rw := if r = .go (-1) then .go z else r
theorem map_idL {w z D : Int} {l : List Rw} (h : ∀ r ∈ l, ∀ w D z, r ≠ .leap w D ∧ r ≠ .go z) : l.map (subL w z D) = l := by
  have : l.map (subL w z D) = l.map id := List.map_congr_left fun r hr => by
    unfold subL
    rw [if_neg (h r hr w D 0).1]; rfl
  rw [this, List.map_id]
theorem map_idG {z : Int} {l : List Rw} (h : ∀ r ∈ l, ∀ w D z, r ≠ .leap w D ∧ r ≠ .go z) : l.map (subG z) = l := by
  have : l.map (subG z) = l.map id := List.map_congr_left fun r hr => by
    unfold subG
    rw [if_neg (h r hr 0 0 (-1)).2]; rfl
  rw [this, List.map_id]
mutual
theorem Sm.subL {w z p D0 : Int} (hw : w < 0) (hp : 0 ≤ p) : ∀ (s : Sm) (base D : Int), 0 ≤ base → (s.code base D (p, w, D0)).map (subL w z D0) = s.code base D (p, z, D0)
  | .say e, _, _, _ => by simp [Sm.code, map_idL (Ex.nng e)]; rfl
  | .set _ e, _, _, _ => by simp [Sm.code, map_idL (Ex.nng e)]; rfl
  | .row ps, base, D, h => Sms.subL hw hp ps base D h
  | .ife e s t, base, D, h => by
    simp only [Sm.code, List.map_append, List.map_cons, List.map_nil, map_idL (Ex.nng e)]
    rw [Sm.subL hw hp s _ _ (by omega), Sm.subL hw hp t _ _ (by omega)]; rfl
  | .whl e s, base, D, h => by
    simp only [Sm.code, List.map_append, List.map_cons, List.map_nil, map_idL (Ex.nng e)]
    rw [Sm.subL_id hw s _ _ _ _ _ (by omega) h (by omega)]; rfl
  | .brk, _, _, _ => by simp [Sm.code, Lp.subL]
  | .cnt, _, _, _ => by
    have : p ≠ w := by omega
    simp [Sm.code, Lp.subL, this]
  | .ret e, _, _, _ => by simp [Sm.code, map_idL (Ex.nng e)]; rfl
  | .call _ _ ps _, _, _, _ => by simp [Sm.code, map_idL (exsCode_nng ps)]; exact ⟨rfl, rfl⟩
  | .rais _ e _, _, _, _ => by simp [Sm.code, map_idL (Ex.nng e)]; rfl
  | .again, _, _, _ => rfl
  | .tri s hs, base, D, h => by
    simp only [Sm.code, List.map_append, List.map_cons, List.map_nil]
    rw [Sm.subL hw hp s _ _ h, Hds.subL hw hp hs _ _ _ _ _ (by omega)]; rfl
  | .cln s c, base, D, h => by
    simp only [Sm.code, List.map_append, List.map_cons, List.map_nil]
    rw [Sm.subL hw hp s _ _ h, Sm.subL hw hp c _ _ (by omega)]; rfl
theorem Sms.subL {w z p D0 : Int} (hw : w < 0) (hp : 0 ≤ p) : ∀ (ps : Sms) (base D : Int), 0 ≤ base → (ps.code base D (p, w, D0)).map (subL w z D0) = ps.code base D (p, z, D0)
  | .nil, _, _, _ => rfl
  | .cons s r, base, D, h => by
    simp only [Sms.code, List.map_append]
    rw [Sm.subL hw hp s _ _ h, Sms.subL hw hp r _ _ (by omega)]
theorem Hds.subL {w z p D0 : Int} (hw : w < 0) (hp : 0 ≤ p) : ∀ (hs : Hds) (b x y at_ D : Int), 0 ≤ at_ → (hs.code b x y at_ D (p, w, D0)).map (subL w z D0) = hs.code b x y at_ D (p, z, D0)
  | .nil, _, _, _, _, _, _ => rfl
  | .cons k sl t r, b, x, y, at_, D, h => by
    simp only [Hds.code, List.map_append, List.map_cons, List.map_nil]
    rw [Sm.subL hw hp t _ _ (by omega), Hds.subL hw hp r _ _ _ _ _ (by omega)]; rfl
theorem Sm.subL_id {w z D0 : Int} (hw : w < 0) : ∀ (s : Sm) (base D p q Dq : Int), 0 ≤ base → 0 ≤ p → 0 ≤ q → (s.code base D (p, q, Dq)).map (Lp.subL w z D0) = s.code base D (p, q, Dq)
  | .say e, _, _, _, _, _, _, _, _ => by simp [Sm.code, map_idL (Ex.nng e)]; rfl
  | .set _ e, _, _, _, _, _, _, _, _ => by simp [Sm.code, map_idL (Ex.nng e)]; rfl
  | .row ps, base, D, p, q, Dq, h, hp, hq => Sms.subL_id hw ps base D p q Dq h hp hq
  | .ife e s t, base, D, p, q, Dq, h, hp, hq => by
    simp only [Sm.code, List.map_append, List.map_cons, List.map_nil, map_idL (Ex.nng e)]
    rw [Sm.subL_id hw s _ _ _ _ _ (by omega) hp hq, Sm.subL_id hw t _ _ _ _ _ (by omega) hp hq]; rfl
  | .whl e s, base, D, p, q, Dq, h, hp, hq => by
    simp only [Sm.code, List.map_append, List.map_cons, List.map_nil, map_idL (Ex.nng e)]
    rw [Sm.subL_id hw s _ _ _ _ _ (by omega) h (by omega)]; rfl
  | .brk, _, _, p, q, Dq, h, hp, hq => by
    have : q ≠ w := by omega
    simp [Sm.code, Lp.subL, this]
  | .cnt, _, _, p, q, Dq, h, hp, hq => by
    have : p ≠ w := by omega
    simp [Sm.code, Lp.subL, this]
  | .ret e, _, _, _, _, _, _, _, _ => by simp [Sm.code, map_idL (Ex.nng e)]; rfl
  | .call _ _ ps _, _, _, _, _, _, _, _, _ => by simp [Sm.code, map_idL (exsCode_nng ps)]; exact ⟨rfl, rfl⟩
  | .rais _ e _, _, _, _, _, _, _, _, _ => by simp [Sm.code, map_idL (Ex.nng e)]; rfl
  | .again, _, _, _, _, _, _, _, _ => rfl
  | .tri s hs, base, D, p, q, Dq, h, hp, hq => by
    simp only [Sm.code, List.map_append, List.map_cons, List.map_nil]
    rw [Sm.subL_id hw s _ _ _ _ _ h hp hq, Hds.subL_id hw hs _ _ _ _ _ _ _ _ (by omega) hp hq]; rfl
  | .cln s c, base, D, p, q, Dq, h, hp, hq => by
    simp only [Sm.code, List.map_append, List.map_cons, List.map_nil]
    rw [Sm.subL_id hw s _ _ _ _ _ h hp hq, Sm.subL_id hw c _ _ _ _ _ (by omega) hp hq]; rfl
theorem Sms.subL_id {w z D0 : Int} (hw : w < 0) : ∀ (ps : Sms) (base D p q Dq : Int), 0 ≤ base → 0 ≤ p → 0 ≤ q → (ps.code base D (p, q, Dq)).map (Lp.subL w z D0) = ps.code base D (p, q, Dq)
  | .nil, _, _, _, _, _, _, _, _ => rfl
  | .cons s r, base, D, p, q, Dq, h, hp, hq => by
    simp only [Sms.code, List.map_append]
    rw [Sm.subL_id hw s _ _ _ _ _ h hp hq, Sms.subL_id hw r _ _ _ _ _ (by omega) hp hq]
theorem Hds.subL_id {w z D0 : Int} (hw : w < 0) : ∀ (hs : Hds) (b x y at_ D p q Dq : Int), 0 ≤ at_ → 0 ≤ p → 0 ≤ q → (hs.code b x y at_ D (p, q, Dq)).map (Lp.subL w z D0) = hs.code b x y at_ D (p, q, Dq)
  | .nil, _, _, _, _, _, _, _, _, _, _, _ => rfl
  | .cons k sl t r, b, x, y, at_, D, p, q, Dq, h, hp, hq => by
    simp only [Hds.code, List.map_append, List.map_cons, List.map_nil]
    rw [Sm.subL_id hw t _ _ _ _ _ (by omega) hp hq, Hds.subL_id hw r _ _ _ _ _ _ _ _ (by omega) hp hq]; rfl
end
mutual
theorem Sm.subG {y : Int} : ∀ (s : Sm) (base D : Int) (tn : Tn), 0 ≤ base → (s.code base D tn).map (subG y) = s.code base D tn
  | .say e, _, _, _, _ => by simp [Sm.code, map_idG (Ex.nng e)]; rfl
  | .set _ e, _, _, _, _ => by simp [Sm.code, map_idG (Ex.nng e)]; rfl
  | .row ps, base, D, tn, h => Sms.subG ps base D tn h
  | .ife e s t, base, D, tn, h => by
    simp only [Sm.code, List.map_append, List.map_cons, List.map_nil, map_idG (Ex.nng e)]
    rw [Sm.subG s _ _ _ (by omega), Sm.subG t _ _ _ (by omega)]
    rw [show Lp.subG y (.go (base + e.len + 1 + s.len + 1 + t.len)) = .go (base + e.len + 1 + s.len + 1 + t.len) from if_neg (by simp; omega)]; rfl
  | .whl e s, base, D, tn, h => by
    simp only [Sm.code, List.map_append, List.map_cons, List.map_nil, map_idG (Ex.nng e)]
    rw [Sm.subG s _ _ _ (by omega)]
    rw [show Lp.subG y (.go base) = .go base from if_neg (by simp; omega)]; rfl
  | .brk, _, _, _, _ => rfl
  | .cnt, _, _, _, _ => rfl
  | .ret e, _, _, _, _ => by simp [Sm.code, map_idG (Ex.nng e)]; rfl
  | .call _ _ ps _, _, _, _, _ => by simp [Sm.code, map_idG (exsCode_nng ps)]; exact ⟨rfl, rfl⟩
  | .rais _ e _, _, _, _, _ => by simp [Sm.code, map_idG (Ex.nng e)]; rfl
  | .again, _, _, _, _ => rfl
  | .tri s hs, base, D, tn, h => by
    simp only [Sm.code, List.map_append, List.map_cons, List.map_nil]
    rw [Sm.subG s _ _ _ h, Hds.subG hs _ _ _ _ _ _ (by omega) (by omega)]
    rw [show Lp.subG y (.go (base + s.len + 1 + hs.len)) = .go (base + s.len + 1 + hs.len) from if_neg (by simp; omega)]
  | .cln s c, base, D, tn, h => by
    simp only [Sm.code, List.map_append, List.map_cons, List.map_nil]
    rw [Sm.subG s _ _ _ h, Sm.subG c _ _ _ (by omega)]; rfl
theorem Sms.subG {y : Int} : ∀ (ps : Sms) (base D : Int) (tn : Tn), 0 ≤ base → (ps.code base D tn).map (subG y) = ps.code base D tn
  | .nil, _, _, _, _ => rfl
  | .cons s r, base, D, tn, h => by
    simp only [Sms.code, List.map_append]
    rw [Sm.subG s _ _ _ h, Sms.subG r _ _ _ (by omega)]
theorem Hds.subG {y : Int} : ∀ (hs : Hds) (b x z at_ D : Int) (tn : Tn), 0 ≤ at_ → 0 ≤ z → (hs.code b x z at_ D tn).map (subG y) = hs.code b x z at_ D tn
  | .nil, _, _, _, _, _, _, _, _ => rfl
  | .cons k sl t r, b, x, z, at_, D, tn, h, hz => by
    simp only [Hds.code, List.map_append, List.map_cons, List.map_nil]
    rw [Sm.subG t _ _ _ (by omega), Hds.subG r _ _ _ _ _ _ (by omega) hz]
    rw [show Lp.subG y (.go z) = .go z from if_neg (by simp; omega)]; rfl
end
/-- handlers with the mark -1, filled in -/
theorem Hds.fill {y : Int} : ∀ (hs : Hds) (b x at_ D : Int) (tn : Tn), 0 ≤ at_ → (hs.code b x (-1) at_ D tn).map (Lp.subG y) = hs.code b x y at_ D tn
  | .nil, _, _, _, _, _, _ => rfl
  | .cons k sl t r, b, x, at_, D, tn, h => by
    simp only [Hds.code, List.map_append, List.map_cons, List.map_nil]
    rw [Sm.subG t _ _ _ (by omega), Hds.fill r _ _ _ _ _ (by omega)]
    rw [show Lp.subG y (.go (-1)) = .go y from if_pos rfl]; rfl

/-! ### the program's way: places of the breaks, filled in behind -/
mutual
def Sm.bks (base : Int) : Sm → List Int
  | .row ps => ps.bks base
  | .ife e s t => s.bks (base + e.len + 1) ++ t.bks (base + e.len + 1 + s.len + 1)
  | .brk => [base]
  | .tri s hs => s.bks base ++ hs.bks (base + s.len + 1)
  | .cln s c => s.bks base ++ c.bks (base + s.len + 2)
  | _ => []
def Sms.bks (base : Int) : Sms → List Int
  | .nil => []
  | .cons s r => s.bks base ++ r.bks (base + s.len)
def Hds.bks (at_ : Int) : Hds → List Int
  | .nil => []
  | .cons _ _ t r => t.bks (at_ + 2) ++ r.bks (at_ + 2 + t.len + 2)
end
def fillAt (row : Rw) (ps : List Int) (l : List Rw) : List Rw := ps.foldl (fun l p => l.set p.toNat row) l
theorem fillAt_app (row : Rw) (ps qs : List Int) (l : List Rw) : fillAt row (ps ++ qs) l = fillAt row qs (fillAt row ps l) := by
  unfold fillAt; rw [List.foldl_append]
mutual
theorem Sm.fill {p z D0 : Int} : ∀ (s : Sm) (base D : Int) (pre post : List Rw), (pre.length : Int) = base →
    fillAt (.leap z D0) (s.bks base) (pre ++ s.code base D (p, 0, D0) ++ post) = pre ++ s.code base D (p, z, D0) ++ post
  | .say e, _, _, _, _, _ => rfl
  | .set _ e, _, _, _, _, _ => rfl
  | .row ps, base, D, pre, post, h => Sms.fill ps base D pre post h
  | .ife e s t, base, D, pre, post, h => by
    have h1 := Sm.fill (p := p) (z := z) (D0 := D0) s (base + e.len + 1) D (pre ++ e.code ++ [.unless (base + e.len + 1 + s.len + 1)]) ([.go (base + e.len + 1 + s.len + 1 + t.len)] ++ t.code (base + e.len + 1 + s.len + 1) D (p, 0, D0) ++ post) (by simp [Ex.code_len]; omega)
    have h2 := Sm.fill (p := p) (z := z) (D0 := D0) t (base + e.len + 1 + s.len + 1) D (pre ++ e.code ++ [.unless (base + e.len + 1 + s.len + 1)] ++ s.code (base + e.len + 1) D (p, z, D0) ++ [.go (base + e.len + 1 + s.len + 1 + t.len)]) post (by simp [Ex.code_len, Sm.code_len]; omega)
    simp only [Sm.bks, Sm.code, fillAt_app, List.append_assoc] at h1 h2 ⊢
    rw [h1, h2]
  | .whl e s, _, _, _, _, _ => rfl
  | .brk, base, D, pre, post, h => by
    have : base.toNat = pre.length := by omega
    simp [Sm.bks, Sm.code, fillAt, this]
  | .cnt, _, _, _, _, _ => rfl
  | .ret e, _, _, _, _, _ => rfl
  | .call _ _ ps _, _, _, _, _, _ => rfl
  | .rais _ e _, _, _, _, _, _ => rfl
  | .again, _, _, _, _, _ => rfl
  | .tri s hs, base, D, pre, post, h => by
    have h1 := Sm.fill (p := p) (z := z) (D0 := D0) s base D pre ([.go (base + s.len + 1 + hs.len)] ++ hs.code base (base + s.len) (base + s.len + 1 + hs.len) (base + s.len + 1) D (p, 0, D0) ++ post) h
    have h2 := Hds.fillB (p := p) (z := z) (D0 := D0) hs base (base + s.len) (base + s.len + 1 + hs.len) (base + s.len + 1) D (pre ++ s.code base D (p, z, D0) ++ [.go (base + s.len + 1 + hs.len)]) post (by simp [Sm.code_len]; omega)
    simp only [Sm.bks, Sm.code, fillAt_app, List.append_assoc] at h1 h2 ⊢
    rw [h1, h2]
  | .cln s c, base, D, pre, post, h => by
    have h1 := Sm.fill (p := p) (z := z) (D0 := D0) s base D pre ([.mend, .cup base (base + s.len + 1) D] ++ c.code (base + s.len + 2) (D + 1) (p, 0, D0) ++ [.resume] ++ post) h
    have h2 := Sm.fill (p := p) (z := z) (D0 := D0) c (base + s.len + 2) (D + 1) (pre ++ s.code base D (p, z, D0) ++ [.mend, .cup base (base + s.len + 1) D]) ([.resume] ++ post) (by simp [Sm.code_len]; omega)
    simp only [Sm.bks, Sm.code, fillAt_app, List.append_assoc] at h1 h2 ⊢
    rw [h1, h2]
theorem Sms.fill {p z D0 : Int} : ∀ (ps : Sms) (base D : Int) (pre post : List Rw), (pre.length : Int) = base →
    fillAt (.leap z D0) (ps.bks base) (pre ++ ps.code base D (p, 0, D0) ++ post) = pre ++ ps.code base D (p, z, D0) ++ post
  | .nil, _, _, _, _, _ => rfl
  | .cons s r, base, D, pre, post, h => by
    have h1 := Sm.fill (p := p) (z := z) (D0 := D0) s base D pre (r.code (base + s.len) D (p, 0, D0) ++ post) h
    have h2 := Sms.fill (p := p) (z := z) (D0 := D0) r (base + s.len) D (pre ++ s.code base D (p, z, D0)) post (by simp [Sm.code_len]; omega)
    simp only [Sms.bks, Sms.code, fillAt_app, List.append_assoc] at h1 h2 ⊢
    rw [h1, h2]
theorem Hds.fillB {p z D0 : Int} : ∀ (hs : Hds) (b x y at_ D : Int) (pre post : List Rw), (pre.length : Int) = at_ →
    fillAt (.leap z D0) (hs.bks at_) (pre ++ hs.code b x y at_ D (p, 0, D0) ++ post) = pre ++ hs.code b x y at_ D (p, z, D0) ++ post
  | .nil, _, _, _, _, _, _, _, _ => rfl
  | .cons k sl t r, b, x, y, at_, D, pre, post, h => by
    have h1 := Sm.fill (p := p) (z := z) (D0 := D0) t (at_ + 2) (D + 1) (pre ++ [.hand b x k D, .set sl]) ([.settled, .go y] ++ r.code b x y (at_ + 2 + t.len + 2) D (p, 0, D0) ++ post) (by simp; omega)
    have h2 := Hds.fillB (p := p) (z := z) (D0 := D0) r b x y (at_ + 2 + t.len + 2) D (pre ++ [.hand b x k D, .set sl] ++ t.code (at_ + 2) (D + 1) (p, z, D0) ++ [.settled, .go y]) post (by simp [Sm.code_len]; omega)
    simp only [Hds.bks, Hds.code, fillAt_app, List.append_assoc] at h1 h2 ⊢
    rw [h1, h2]
end

/-! ### tables -/
structure Tb where
  b : Int
  x : Int
  kd : Option (Option Nat)   -- some: a handler of that kind; none: a cleanup
  p : Int
  D : Int
  deriving DecidableEq
def Tb.d (t : Tb) : PyData := .tuple [.int t.b, .int t.x, .str (match t.kd with | some _ => "handler" | none => "cleanup"), (match t.kd with | some k => kindD k | none => .none), .int t.p, .int t.D]
def tbOf (p : Int) : Rw → List Tb
  | .hand b x k D => [⟨b, x, some k, p, D⟩]
  | .cup b x D => [⟨b, x, none, p, D⟩]
  | _ => []
def tabAt (p : Int) : List Rw → List Tb
  | [] => []
  | r :: rs => tbOf p r ++ tabAt (p + 1) rs
theorem tabAt_app : ∀ (l m : List Rw) (p : Int), tabAt p (l ++ m) = tabAt p l ++ tabAt (p + l.length) m
  | [], m, p => by simp [tabAt]
  | r :: l, m, p => by
    show tbOf p r ++ tabAt (p + 1) (l ++ m) = (tbOf p r ++ tabAt (p + 1) l) ++ _
    rw [tabAt_app l m (p + 1), List.append_assoc]
    have : p + 1 + (l.length : Int) = p + ((r :: l).length : Int) := by simp; omega
    rw [this]
theorem tabAt_len : ∀ (l : List Rw) (p : Int), (tabAt p l).length ≤ l.length
  | [], _ => Nat.le_refl _
  | r :: l, p => by
    have := tabAt_len l (p + 1)
    have h2 : (tbOf p r).length ≤ 1 := by cases r <;> simp [tbOf]
    simp [tabAt]; omega
/-- a function's code, a program's -/
structure Fc where
  many : Nat
  rows : List Rw
def Fc.tab (f : Fc) : List Tb := tabAt 0 f.rows
def Fc.d (f : Fc) : PyData := .tuple [.int (f.many : Int), .tuple (f.rows.map Rw.d), .tuple (f.tab.map Tb.d)]
def bodyRows (s : Sm) : List Rw := s.code 0 0 (0, 0, 0) ++ [.num 0, .ret]
def Pg.code (p : Pg) : List Fc := p.funs.map fun f => ⟨f.1, bodyRows f.2⟩
def codeD (c : List Fc) : PyData := .tuple (c.map Fc.d)

/-! ### rows as data are told apart -/
theorem eqvAll_len {xs ys : List PyData} (h : xs.length ≠ ys.length) : PyData.eqvAll xs ys = false := by
  induction xs generalizing ys with
  | nil => cases ys with
    | nil => exact absurd rfl h
    | cons _ _ => rfl
  | cons x xs ih => cases ys with
    | nil => rfl
    | cons y ys =>
      have := ih (ys := ys) (by simpa using h)
      simp [PyData.eqvAll, this]
theorem Rw.eqv_leap (r : Rw) (w D : Int) : PyData.eqv r.d (Rw.leap w D).d = decide (r = .leap w D) := by
  cases r <;> simp [Rw.d, PyData.eqv, PyData.eqvAll]
  all_goals first
    | rfl
    | (intro h; exact absurd h (by decide))
theorem Rw.eqv_go (r : Rw) (z : Int) : PyData.eqv r.d (Rw.go z).d = decide (r = .go z) := by
  cases r <;> simp [Rw.d, PyData.eqv, PyData.eqvAll]
  all_goals first
    | rfl
    | (intro h; exact absurd h (by decide))
end Lp

/-! Le: for i, x in enumerate(t), t a tuple. -/
namespace Lp
open PySem PySem.Spec PyProof.Rows L2

set_option maxHeartbeats 4000000 in
theorem meets_en1 {v : Value} {ob : Obj} {Hd : Heap → Prop} (B : Begins v ob Hd) :
    Meets (Builtin.«enumerate.__new__» ⟨[.type "enumerate", v], []⟩) (fun _ R s => Hd s.heap ∧
      R (.ok (.ret (.ref (s.heap.push ob).objs.size))) { s with heap := (s.heap.push ob).push { cls := .type "enumerate", data := .fields #[.none, .bool false, .ref s.heap.objs.size, rawInt 0, .none, .none] } }) := by
  refine .of_wp fun P w A R s h => ?_
  obtain ⟨hp, gn, dr, tk, os⟩ := s
  obtain ⟨h1, h2⟩ := h
  have sub := sub_enumerate
  have it1 : ∀ {A2 : Around} {E2 Q2 : Value → Shared → Prop}, Q2 (.ref hp.objs.size) ⟨hp.push ob, gn, dr, tk, os⟩ → wpAny (model P w) A2 (pyIter v) Q2 E2 ⟨hp, gn, dr, tk, os⟩ := fun q => B.iter P w _ _ ⟨hp, gn, dr, tk, os⟩ _ h1 q
  wp_walk using it1
  refine wpAny_stack_any fun z => wpAny_pure ?_
  split
  · rename_i c _ _ _ _ _
    cases (c == Value.type "enumerate") <;>
      (wp_walk using it1
       exact ⟨_, rfl, h2⟩)
  · (wp_walk using it1
     exact ⟨_, rfl, h2⟩)
theorem call_en1 {P : Program} {w : World} {A : Around} {E : Value → Shared → Prop} {s : Shared} {a : Addr} {items : Array Value} {Q : Value → Shared → Prop} (hT : s.heap.IsTuple a items)
    (h : ∀ h', IsEnum h' (s.heap.objs.size + 1) s.heap.objs.size 0 .none → h'.IsTupleIter s.heap.objs.size a 0 → (∀ b o, s.heap.get? b = some o → h'.get? b = some o) → Q (.ref (s.heap.objs.size + 1)) { s with heap := h' }) :
    wpAny (model P w) A (call (.type "enumerate") [.ref a]) Q E s := by
  refine callType_new F.called_enumerate (by decide) (F.typeCall_enumerate_1 _) (F.newCall_enumerate_1 _) (fun o => F.args_object_init_2 o _) F.entry_enumerate_new (meets_en1 (begins_tuple a items)) ⟨hT, ?_⟩
  let o1 : Obj := { cls := .type "tuple_iterator", data := .fields #[.ref a, .int 0 0] }
  let o2 : Obj := { cls := .type "enumerate", data := .fields #[.none, .bool false, .ref s.heap.objs.size, rawInt 0, .none, .none] }
  have sz1 : (s.heap.push o1).objs.size = s.heap.objs.size + 1 := Heap.size_push ..
  show _ ∧ Q (.ref (s.heap.push o1).objs.size) _
  rw [show (s.heap.push { cls := .type "tuple_iterator", data := .fields #[.ref a, .int 0 0] }).objs.size = s.heap.objs.size + 1 from sz1]
  have ge : ((s.heap.push o1).push o2).get? (s.heap.objs.size + 1) = some o2 := by
    rw [← sz1]
    exact Heap.get?_push_size _ rfl
  refine ⟨⟨_, ge, rfl⟩, h _ ge ⟨o1, Heap.get?_push_of_some _ (Heap.get?_push_size _ rfl), rfl, rfl⟩ fun b o q => Heap.get?_push_of_some _ (Heap.get?_push_of_some _ q)⟩
/-- the tuple at a, each item in a new pair -/
def IteT (K : PySem.W.Frag) (a : Addr) : It :=
  ⟨fun i H => ∃ (xs : List V) (x : V), SqT K H a xs ∧ xs[i]? = some x, fun i H v H' => ∃ T x, v = .ref T ∧ H T = none ∧ H' = upd H T (.tup [.int (i : Nat), x]) ∧ ∀ xs, SqT K H a xs → xs[i]? = some x, fun i H => ∃ xs : List V, SqT K H a xs ∧ xs.length ≤ i⟩
theorem turn_enT {P : Program} {w : World} {K : PySem.W.Frag} {elts : List Expr} {kk : Nat} {tpos : Pos} (a e it : Addr) :
    Turn P w K (.Tuple elts kk tpos) (IteT K a) [e, it] e (fun i h => (∃ old, IsEnum h e it ((i : Nat) : Int) old) ∧ h.IsTupleIter it a i ∧ e ≠ it) where
  mem := List.mem_cons_self
  obj := by
    rintro i h ⟨⟨old, he⟩, ⟨o, ho, hc, hd⟩, _⟩ b hb
    rcases List.mem_cons.mp hb with rfl | hb
    · exact ⟨_, he, fun v q => nomatch q⟩
    · rw [List.mem_singleton.mp hb]
      exact ⟨o, ho, fun v q => by rw [hd] at q; cases q⟩
  keep := by
    rintro i h h' ⟨⟨old, he⟩, hi, ne⟩ k
    exact ⟨⟨old, k e List.mem_cons_self _ he⟩, hi.at fun o q => k it (List.mem_cons_of_mem _ List.mem_cons_self) o q, ne⟩
  item := by
    rintro X rfl rfl rfl calm i pins s σ H E I hf ⟨⟨old, he⟩, hit, ne⟩ ⟨xs, x, hq, hx⟩
    obtain ⟨its, rv, tp, hz⟩ := I.tuple hq
    obtain ⟨u, hu, ru⟩ := rv.get hx
    have tp' : s.heap.IsTuple a its.toArray := tp
    have a_it : a ≠ it := by
      rintro rfl
      obtain ⟨o, ho, hc, _⟩ := tp'
      obtain ⟨o2, ho2, hc2, _⟩ := hit
      rw [ho] at ho2; cases ho2
      rw [hc] at hc2
      exact absurd hc2 (by simp)
    have a_e : e ≠ a := by
      rintro rfl
      obtain ⟨o, ho, hc, _⟩ := tp'
      have he' : s.heap.get? e = some _ := he
      rw [ho] at he'
      have hc2 := congrArg (fun z : Option Obj => z.map (·.cls)) he'
      simp only [Option.map_some] at hc2
      rw [hc] at hc2
      exact absurd (Option.some.inj hc2) (by simp)
    have hel : e < s.heap.objs.size := Heap.lt_size he
    have hil : it < s.heap.objs.size := by obtain ⟨_, q, _⟩ := hit; exact Heap.lt_size q
    have hin : X.A.in1.handled = none := I.ok.hd calm
    have hlt : i < its.toArray.size := by
      have := (List.getElem?_eq_some_iff.mp hu).1
      simpa using this
    refine wpAny_pyNext_enum_itemC (Draws.tuple hin it a a_it its.toArray) he ⟨hit, tp'⟩ hlt ne (by simp [ne, a_e]) fun y h' tk hy ho st hT hsz hk => ?_
    have ey : y = u := by
      have h1 : its[i]? = some y := by simpa using hy
      rw [hu] at h1
      exact (Option.some.inj h1).symm
    subst ey
    refine ⟨_, rfl, wpAny_letOwnedTupleGo_enum (s := { s with heap := h', toks := tk + 1 }) ho fun h'' he' sb => ?_⟩
    have hT2 : h''.get? s.heap.objs.size = some { cls := .type "tuple", data := .seq #[.int i tk, y] } := (sb.2 _ (Nat.ne_of_gt hel)).trans hT
    have nw : ObjOk X.prog X.w (upd H s.heap.objs.size (.tup [.int (i : Nat), x])) h'' s.heap.objs.size (.tup [.int (i : Nat), x]) :=
      ⟨by show 2 ≤ sizeLine; decide, [.int i tk, y], .cons ⟨_, rfl⟩ (.cons ru .nil), ⟨_, hT2, rfl, _, rfl⟩⟩
    have I1 : Inv X pins σ (upd H s.heap.objs.size (.tup [.int (i : Nat), x])) { s with heap := h'', toks := tk + 1 } := by
      refine I.turnedNew (ch := [e, it]) (fun b o hb q => ?_) hf (Nat.le_refl _) nw
      have b1 : b ≠ e := fun z => hb (by simp [z])
      have b2 : b ≠ it := fun z => hb (by simp [z])
      exact (sb.2 b b1).trans (hk b o b1 b2 q)
    refine ⟨.ref s.heap.objs.size, _, I1, rfl, ⟨_, x, rfl, I.hok.fresh (Nat.le_refl _), rfl, fun ys hy => by rw [I.tuple_inj hy hq]; exact hx⟩, ⟨⟨y, ?_⟩, st.1.at fun o q => (sb.2 it (Ne.symm ne)).trans q, ne⟩, fun b hb => ?_⟩
    · rw [show ((i + 1 : Nat) : Int) = (i : Int) + 1 by omega]
      exact he'
    · have lt : b < s.heap.objs.size := by
        rcases List.mem_cons.mp hb with rfl | z
        · exact hel
        · rw [List.mem_singleton.mp z]; exact hil
      rw [upd_ne (Nat.ne_of_lt lt)]
      exact (hf b hb).1
  done := by
    rintro X rfl rfl rfl calm i pins s σ H E I hf ⟨⟨old, he⟩, hit, ne⟩ ⟨xs, hq, hx⟩
    obtain ⟨its, rv, tp, hz⟩ := I.tuple hq
    have tp' : s.heap.IsTuple a its.toArray := tp
    obtain ⟨f0, f1, f2, f3, f4, f5⟩ := hf it (by simp)
    have hin : X.A.in1.handled = none := I.ok.hd calm
    have a_it : a ≠ it := by
      rintro rfl
      obtain ⟨o, ho, hc, _⟩ := tp'
      obtain ⟨o2, ho2, hc2, _⟩ := hit
      rw [ho] at ho2; cases ho2
      rw [hc] at hc2
      exact absurd hc2 (by simp)
    have big : its.toArray.size ≤ i := by
      have := rv.length
      simp; omega
    have none_ : its.toArray[i]? = none := Array.getElem?_eq_none big
    refine wpAny_pyNext_enum_endD (n := i) (fp := [it, a]) (P := fun _ _ => True) (St := fun j h => j = i ∧ h.IsTupleIter it a j ∧ h.IsTuple a its.toArray) ?_ he ⟨rfl, hit, tp'⟩ fun h' eb => ⟨rfl, I.turned (t' := s.toks) (fun b o hb q => eb b o hb q) f0 f1 f3 f4 f5⟩
    have D := Draws.tuple (prog := X.prog) (w := X.w) hin it a a_it its.toArray
    exact ⟨fun j h st => D.live j h st.2, fun j h h' st hk => ⟨st.1, D.frame j h h' st.2 hk⟩, fun j s Q E hj st _ => absurd st.1 (Nat.ne_of_lt hj), fun s Q E st hE => wpAny_nextOf_tuple_end hin st.2.1 st.2.2 none_ hE⟩
  self := fun A i s Q E st h => let ⟨⟨_, he⟩, _⟩ := st; wpAny_pyIter_enum he h
def iEnT (K : PySem.W.Frag) (ta : TA) : TI := fun σ H R => ta σ H fun vs H1 => ∃ a xs, vs = [.ref a] ∧ SqT K H1 a xs ∧ R (IteT K a) H1
theorem pi_enT {X : Cx} {e : Expr} {ta : TA} {p pos tpos : Pos} {elts : List Expr} {kk : Nat} (hg : Gl X "enumerate") (hm : X.mg "enumerate" = none) (ha : PA X [e] ta) (hs : starEach [e] X.env = [(false, eval e X.env)] := by rfl) :
    PI X (.Tuple elts kk tpos) (.Call (.Name "enumerate" p) [e] [] pos) (iEnT X.K ta) := by
  constructor
  intro pins s σ H R I h
  refine Call_ (ld_blt I hg hm boot_enumerate (PyProof.Rows.callWith_type1 (thn (ha.run pos pins s σ H _ I h) fun us s1 ⟨vs, H1, I1, r1, a, xs, ex, hq, q⟩ => ?_) hs rfl))
  subst ex
  cases r1 with
  | cons r rr =>
    cases rr
    cases r
    obtain ⟨its, rv, tp, hz⟩ := I1.tuple hq
    refine call_en1 (show s1.heap.IsTuple a its.toArray from tp) fun h' he hit hk => wpAny_pyIter_enum he ?_
    have I2 : Inv X pins σ H1 { s1 with heap := h' } := I1.kept (t' := s1.toks) hk
    refine ⟨_, [s1.heap.objs.size + 1, s1.heap.objs.size], _, _, H1, rfl, I2, turn_enT a (s1.heap.objs.size + 1) s1.heap.objs.size, ⟨⟨.none, he⟩, hit, Nat.succ_ne_self _⟩, fun b hb => ?_, q⟩
    have le : s1.heap.objs.size ≤ b := by
      rcases List.mem_cons.mp hb with rfl | z
      · exact Nat.le_succ _
      · rw [List.mem_singleton.mp z]; exact Nat.le_refl _
    exact I1.fpOk le (I1.hok.fresh le)
/-- the loop: Pv by the turn, the slots, the heap; each turn brings a new pair at T -/
theorem for_enT {K : PySem.W.Frag} {a : Addr} {xs : List V} {g : TG} {tb : TS} {D : Ends} {σ : L2.St} {H : Hp} (Pv : Nat → L2.St → Hp → Prop) (h0 : Pv 0 σ H) (hl : ∀ i σ H, i ≤ xs.length → Pv i σ H → SqT K H a xs)
    (hs : ∀ i x σ H T, xs[i]? = some x → Pv i σ H → H T = none → g (.ref T) σ (upd H T (.tup [.int ((i : Nat) : Int), x])) fun σ2 H2 => tb { D with nx := Pv (i + 1), ct := Pv (i + 1), bk := D.nx } σ2 H2) (hd : ∀ σ H, Pv xs.length σ H → D.nx σ H) :
    ∃ W : Nat → Nat → L2.St → Hp → Prop, (∃ m, W 0 m σ H) ∧ ∀ i m σ H, W i m σ H →
      ((IteT K a).stop i H ∧ D.nx σ H) ∨ ((IteT K a).go i H ∧ ∃ N : L2.St → Hp → Prop, (∀ σ' H', N σ' H' → ∃ m', m' < m ∧ W (i + 1) m' σ' H') ∧ ∀ x H', (IteT K a).yld i H x H' → g x σ H' fun σ2 H2 => tb { D with nx := N, ct := N, bk := D.nx } σ2 H2) := by
  refine ⟨fun i m σ H => m = xs.length - i ∧ i ≤ xs.length ∧ Pv i σ H, ⟨xs.length, rfl, Nat.zero_le _, h0⟩, ?_⟩
  rintro i m σ H ⟨rfl, hi, p⟩
  have hq := hl i σ H hi p
  by_cases lt : i < xs.length
  · refine .inr ⟨⟨xs, xs[i], hq, List.getElem?_eq_getElem lt⟩, Pv (i + 1), fun σ' H' p' => ⟨xs.length - (i + 1), by omega, rfl, lt, p'⟩, ?_⟩
    rintro v H' ⟨T, x, rfl, hT, rfl, hx⟩
    exact hs i x σ H T (hx xs hq) p hT
  · have e : i = xs.length := by omega
    subst e
    exact .inl ⟨⟨xs, hq, Nat.le_refl _⟩, hd σ H p⟩
end Lp

/-! L4a: the law's own coding, and its look at two things alike. -/
namespace Lp
open PySem PySem.Spec PyProof.Rows L2
def t_law_alike (K : PySem.W.Frag) (sp_law_alike : Sp) : TS :=
  tSeq (tIfS (tTest (tOp rIsN (tVar 1) (tC .non))) (tRet (tOp rIsN (tVar 0) (tC .non))) (tNext)) (tSeq (tIfS (tB (tCB (rIsi K) (tCons (tVar 1) (tCons (tC (.ty "bool")) (tNil))))) (tRet (tAndV (tCB (rIsi K) (tCons (tVar 0) (tCons (tC (.ty "bool")) (tNil)))) (tOp rEq (tVar 0) (tVar 1)))) (tNext)) (tSeq (tIfS (tB (tCB (rIsi K) (tCons (tVar 1) (tCons (tC (.ty "int")) (tNil))))) (tRet (tAndV (tCB (rIsi K) (tCons (tVar 0) (tCons (tC (.ty "int")) (tNil)))) (tAndV (tNotV (tCB (rIsi K) (tCons (tVar 0) (tCons (tC (.ty "bool")) (tNil))))) (tOp rEq (tVar 0) (tVar 1))))) (tNext)) (tSeq (tIfS (tB (tCB (rIsi K) (tCons (tVar 1) (tCons (tC (.ty "str")) (tNil))))) (tRet (tAndV (tCB (rIsi K) (tCons (tVar 0) (tCons (tC (.ty "str")) (tNil)))) (tOp rEq (tVar 0) (tVar 1)))) (tNext)) (tSeq (tIfS (tOr (tTest (tOp rNe (tCB (rIsi K) (tCons (tVar 1) (tCons (tC (.ty "tuple")) (tNil)))) (tCB (rIsi K) (tCons (tVar 0) (tCons (tC (.ty "tuple")) (tNil)))))) (tTest (tOp rNe (tCB (rIsi K) (tCons (tVar 1) (tCons (tC (.ty "list")) (tNil)))) (tCB (rIsi K) (tCons (tVar 0) (tCons (tC (.ty "list")) (tNil))))))) (tRet (tC (.bl false))) (tNext)) (tSeq (tIfS (tTest (tOp rNe (tCB (rLenQ K) (tCons (tVar 0) (tNil))) (tCB (rLenQ K) (tCons (tVar 1) (tNil))))) (tRet (tC (.bl false))) (tNext)) (tSeq (tFor (iRng1 (tCons (tCB (rLenQ K) (tCons (tVar 1) (tNil))) (tNil))) (gName 2) (tIfS (tNot (tB (tCall sp_law_alike [] E0 (tCons (tOp (rIx K) (tVar 0) (tVar 2)) (tCons (tOp (rIx K) (tVar 1) (tVar 2)) (tNil)))))) (tRet (tC (.bl false))) (tNext))) (tRet (tC (.bl true)))))))))

def t_law_part_code (K : PySem.W.Frag) (sp_law_part_code : Sp) : TS :=
  tSeq (tIfS (tTest (tOp (rIn K false) (tOp (rIxT K) (tVar 0) (tC (.int 0))) (tTup (tCons (tC (.str "num")) (tCons (tC (.str "var")) (tNil)))))) (tRet (tLst (tCons (tVar 0) (tNil)))) (tNext)) (tRet (tOp rCat (tOp rCat (tCall sp_law_part_code [] E0 (tCons (tOp (rIxT K) (tVar 0) (tC (.int 1))) (tNil))) (tCall sp_law_part_code [] E0 (tCons (tOp (rIxT K) (tVar 0) (tC (.int 2))) (tNil)))) (tLst (tCons (tTup (tCons (tOp (rIxT K) (tVar 0) (tC (.int 0))) (tNil))) (tNil)))))

def t_law_loop_code (K : PySem.W.Frag) (sp_law_part_code : Sp) (sp_law_code : Sp) : TS :=
  tSeq (tAsg (tCall sp_law_part_code [] E0 (tCons (tOp (rIxT K) (tVar 0) (tC (.int 1))) (tNil))) (gName 3)) (tSeq (tAsg (tOp rAdI (tOp rAdI (tVar 1) (tCB (rLenQ K) (tCons (tVar 3) (tNil)))) (tC (.int 2))) (gName 4)) (tSeq (tAsg (tCall sp_law_code [] E0 (tCons (tOp (rIxT K) (tVar 0) (tC (.int 2))) (tCons (tVar 4) (tCons (tVar 2) (tCons (tTup (tCons (tVar 1) (tCons (tOp rSbI (tUn rNeg (tC (.int 1))) (tVar 1)) (tCons (tVar 2) (tNil))))) (tNil)))))) (gName 5)) (tSeq (tAsg (tOp rAdI (tOp rAdI (tVar 4) (tCB (rLenQ K) (tCons (tVar 5) (tNil)))) (tC (.int 1))) (gName 6)) (tSeq (tAsg (tLc (iList K (tVar 5)) (gName 7) (tYes) (tOp (rIxL K) (tLst (tCons (tVar 7) (tCons (tTup (tCons (tC (.str "leap")) (tCons (tVar 6) (tCons (tVar 2) (tNil))))) (tNil)))) (tCB rInt1 (tCons (tOp (rEqD K) (tVar 7) (tTup (tCons (tC (.str "leap")) (tCons (tOp rSbI (tUn rNeg (tC (.int 1))) (tVar 1)) (tCons (tVar 2) (tNil)))))) (tNil)))) [7]) (gName 5)) (tRet (tOp rCat (tOp rCat (tOp rCat (tVar 3) (tLst (tCons (tTup (tCons (tC (.str "unless")) (tCons (tVar 6) (tNil)))) (tCons (tTup (tCons (tC (.str "turn")) (tNil))) (tNil))))) (tVar 5)) (tLst (tCons (tTup (tCons (tC (.str "go")) (tCons (tVar 1) (tNil)))) (tNil)))))))))

def t_law_try_code (K : PySem.W.Frag) (sp_law_code : Sp) : TS :=
  tSeq (tAsg (tCall sp_law_code [] E0 (tCons (tOp (rIxT K) (tVar 0) (tC (.int 1))) (tCons (tVar 1) (tCons (tVar 2) (tCons (tVar 3) (tNil)))))) (gName 4)) (tSeq (tAsg (tOp rAdI (tVar 1) (tCB (rLenQ K) (tCons (tVar 4) (tNil)))) (gName 5)) (tSeq (tAsg (tOp rCat (tVar 4) (tLst (tCons (tTup (tCons (tC (.str "go")) (tCons (tUn rNeg (tC (.int 1))) (tNil)))) (tNil)))) (gName 6)) (tSeq (tFor (iTup K (tOp (rIxT K) (tVar 0) (tC (.int 2)))) (gName 7) (tSeq (tAsg (tOp rCat (tVar 6) (tLst (tCons (tTup (tCons (tC (.str "handler")) (tCons (tVar 1) (tCons (tVar 5) (tCons (tOp (rIxT K) (tVar 7) (tC (.int 0))) (tCons (tVar 2) (tNil))))))) (tCons (tTup (tCons (tC (.str "set")) (tCons (tOp (rIxT K) (tVar 7) (tC (.int 1))) (tNil)))) (tNil))))) (gName 6)) (tSeq (tAsg (tOp rCat (tVar 6) (tCall sp_law_code [] E0 (tCons (tOp (rIxT K) (tVar 7) (tC (.int 2))) (tCons (tOp rAdI (tVar 1) (tCB (rLenQ K) (tCons (tVar 6) (tNil)))) (tCons (tOp rAdI (tVar 2) (tC (.int 1))) (tCons (tVar 3) (tNil))))))) (gName 6)) (tAsg (tOp rCat (tVar 6) (tLst (tCons (tTup (tCons (tC (.str "settled")) (tNil))) (tCons (tTup (tCons (tC (.str "go")) (tCons (tUn rNeg (tC (.int 1))) (tNil)))) (tNil))))) (gName 6))))) (tSeq (tAsg (tOp rAdI (tVar 1) (tCB (rLenQ K) (tCons (tVar 6) (tNil)))) (gName 8)) (tRet (tLc (iList K (tVar 6)) (gName 9) (tYes) (tOp (rIxL K) (tLst (tCons (tVar 9) (tCons (tTup (tCons (tC (.str "go")) (tCons (tVar 8) (tNil)))) (tNil)))) (tCB rInt1 (tCons (tOp (rEqD K) (tVar 9) (tTup (tCons (tC (.str "go")) (tCons (tUn rNeg (tC (.int 1))) (tNil))))) (tNil)))) [9]))))))

def t_law_if_code (K : PySem.W.Frag) (sp_law_part_code : Sp) (sp_law_code : Sp) : TS :=
  tSeq (tAsg (tCall sp_law_part_code [] E0 (tCons (tOp (rIxT K) (tVar 0) (tC (.int 1))) (tNil))) (gName 4)) (tSeq (tAsg (tCall sp_law_code [] E0 (tCons (tOp (rIxT K) (tVar 0) (tC (.int 2))) (tCons (tOp rAdI (tOp rAdI (tVar 1) (tCB (rLenQ K) (tCons (tVar 4) (tNil)))) (tC (.int 1))) (tCons (tVar 2) (tCons (tVar 3) (tNil)))))) (gName 5)) (tSeq (tAsg (tOp rAdI (tOp rAdI (tOp rAdI (tVar 1) (tCB (rLenQ K) (tCons (tVar 4) (tNil)))) (tCB (rLenQ K) (tCons (tVar 5) (tNil)))) (tC (.int 2))) (gName 6)) (tSeq (tAsg (tCall sp_law_code [] E0 (tCons (tOp (rIxT K) (tVar 0) (tC (.int 3))) (tCons (tVar 6) (tCons (tVar 2) (tCons (tVar 3) (tNil)))))) (gName 7)) (tRet (tOp rCat (tOp rCat (tOp rCat (tOp rCat (tVar 4) (tLst (tCons (tTup (tCons (tC (.str "unless")) (tCons (tVar 6) (tNil)))) (tNil)))) (tVar 5)) (tLst (tCons (tTup (tCons (tC (.str "go")) (tCons (tOp rAdI (tVar 6) (tCB (rLenQ K) (tCons (tVar 7) (tNil)))) (tNil)))) (tNil)))) (tVar 7))))))

def t_law_clean_code (K : PySem.W.Frag) (sp_law_code : Sp) : TS :=
  tSeq (tAsg (tOp rCat (tCall sp_law_code [] E0 (tCons (tOp (rIxT K) (tVar 0) (tC (.int 1))) (tCons (tVar 1) (tCons (tVar 2) (tCons (tVar 3) (tNil)))))) (tLst (tCons (tTup (tCons (tC (.str "mend")) (tNil))) (tNil)))) (gName 4)) (tSeq (tAsg (tOp rAdI (tVar 1) (tCB (rLenQ K) (tCons (tVar 4) (tNil)))) (gName 5)) (tSeq (tAsg (tCall sp_law_code [] E0 (tCons (tOp (rIxT K) (tVar 0) (tC (.int 2))) (tCons (tOp rAdI (tVar 5) (tC (.int 1))) (tCons (tOp rAdI (tVar 2) (tC (.int 1))) (tCons (tVar 3) (tNil)))))) (gName 6)) (tRet (tOp rCat (tOp rCat (tOp rCat (tVar 4) (tLst (tCons (tTup (tCons (tC (.str "cleanup")) (tCons (tVar 1) (tCons (tVar 5) (tCons (tVar 2) (tNil)))))) (tNil)))) (tVar 6)) (tLst (tCons (tTup (tCons (tC (.str "resume")) (tNil))) (tNil)))))))

def t_law_plain_code (K : PySem.W.Frag) (sp_law_part_code : Sp) : TS :=
  tSeq (tAsg (tOp (rIxT K) (tVar 0) (tC (.int 0))) (gName 2)) (tSeq (tIfS (tTest (tOp rEq (tVar 2) (tC (.str "break")))) (tRet (tLst (tCons (tTup (tCons (tC (.str "leap")) (tCons (tOp (rIxT K) (tVar 1) (tC (.int 1))) (tCons (tOp (rIxT K) (tVar 1) (tC (.int 2))) (tNil))))) (tNil)))) (tNext)) (tSeq (tIfS (tTest (tOp rEq (tVar 2) (tC (.str "continue")))) (tRet (tLst (tCons (tTup (tCons (tC (.str "leap")) (tCons (tOp (rIxT K) (tVar 1) (tC (.int 0))) (tCons (tOp (rIxT K) (tVar 1) (tC (.int 2))) (tNil))))) (tNil)))) (tNext)) (tSeq (tIfS (tTest (tOp rEq (tVar 2) (tC (.str "again")))) (tRet (tLst (tCons (tVar 0) (tNil)))) (tNext)) (tSeq (tIfS (tTest (tOp rEq (tVar 2) (tC (.str "set")))) (tRet (tOp rCat (tCall sp_law_part_code [] E0 (tCons (tOp (rIxT K) (tVar 0) (tC (.int 2))) (tNil))) (tLst (tCons (tTup (tCons (tC (.str "set")) (tCons (tOp (rIxT K) (tVar 0) (tC (.int 1))) (tNil)))) (tNil))))) (tNext)) (tSeq (tIfS (tTest (tOp rEq (tVar 2) (tC (.str "raise")))) (tRet (tOp rCat (tCall sp_law_part_code [] E0 (tCons (tOp (rIxT K) (tVar 0) (tC (.int 2))) (tNil))) (tLst (tCons (tTup (tCons (tC (.str "raise")) (tCons (tOp (rIxT K) (tVar 0) (tC (.int 1))) (tCons (tOp (rIxT K) (tVar 0) (tC (.int 3))) (tNil))))) (tNil))))) (tNext)) (tSeq (tIfS (tTest (tOp rEq (tVar 2) (tC (.str "call")))) (tSeq (tAsg (tLst (tNil)) (gName 3)) (tSeq (tFor (iTup K (tOp (rIxT K) (tVar 0) (tC (.int 3)))) (gName 4) (tAsg (tOp rCat (tVar 3) (tCall sp_law_part_code [] E0 (tCons (tVar 4) (tNil)))) (gName 3))) (tRet (tOp rCat (tVar 3) (tLst (tCons (tTup (tCons (tC (.str "call")) (tCons (tOp (rIxT K) (tVar 0) (tC (.int 2))) (tCons (tCB (rLenQ K) (tCons (tOp (rIxT K) (tVar 0) (tC (.int 3))) (tNil))) (tCons (tOp (rIxT K) (tVar 0) (tC (.int 4))) (tNil)))))) (tCons (tTup (tCons (tC (.str "set")) (tCons (tOp (rIxT K) (tVar 0) (tC (.int 1))) (tNil)))) (tNil)))))))) (tNext)) (tRet (tOp rCat (tCall sp_law_part_code [] E0 (tCons (tOp (rIxT K) (tVar 0) (tC (.int 1))) (tNil))) (tLst (tCons (tTup (tCons (tVar 2) (tNil))) (tNil)))))))))))

def t_law_code (K : PySem.W.Frag) (sp_law_code : Sp) (sp_law_if_code : Sp) (sp_law_loop_code : Sp) (sp_law_try_code : Sp) (sp_law_clean_code : Sp) (sp_law_plain_code : Sp) : TS :=
  tSeq (tAsg (tOp (rIxT K) (tVar 0) (tC (.int 0))) (gName 4)) (tSeq (tIfS (tTest (tOp rEq (tVar 4) (tC (.str "row")))) (tSeq (tAsg (tLst (tNil)) (gName 5)) (tSeq (tFor (iTup K (tOp (rIxT K) (tVar 0) (tC (.int 1)))) (gName 6) (tAsg (tOp rCat (tVar 5) (tCall sp_law_code [] E0 (tCons (tVar 6) (tCons (tOp rAdI (tVar 1) (tCB (rLenQ K) (tCons (tVar 5) (tNil)))) (tCons (tVar 2) (tCons (tVar 3) (tNil))))))) (gName 5))) (tRet (tVar 5)))) (tNext)) (tSeq (tIfS (tTest (tOp rEq (tVar 4) (tC (.str "if")))) (tRet (tCall sp_law_if_code [] E0 (tCons (tVar 0) (tCons (tVar 1) (tCons (tVar 2) (tCons (tVar 3) (tNil))))))) (tNext)) (tSeq (tIfS (tTest (tOp rEq (tVar 4) (tC (.str "while")))) (tRet (tCall sp_law_loop_code [] E0 (tCons (tVar 0) (tCons (tVar 1) (tCons (tVar 2) (tNil)))))) (tNext)) (tSeq (tIfS (tTest (tOp rEq (tVar 4) (tC (.str "try")))) (tRet (tCall sp_law_try_code [] E0 (tCons (tVar 0) (tCons (tVar 1) (tCons (tVar 2) (tCons (tVar 3) (tNil))))))) (tNext)) (tSeq (tIfS (tTest (tOp rEq (tVar 4) (tC (.str "clean")))) (tRet (tCall sp_law_clean_code [] E0 (tCons (tVar 0) (tCons (tVar 1) (tCons (tVar 2) (tCons (tVar 3) (tNil))))))) (tNext)) (tRet (tCall sp_law_plain_code [] E0 (tCons (tVar 0) (tCons (tVar 3) (tNil))))))))))

def t_law_table (K : PySem.W.Frag) : TS :=
  tSeq (tAsg (tLst (tNil)) (gName 1)) (tSeq (tFor (iRng1 (tCons (tCB (rLenQ K) (tCons (tVar 0) (tNil))) (tNil))) (gName 2) (tSeq (tAsg (tOp (rIxT K) (tVar 0) (tVar 2)) (gName 3)) (tSeq (tIfS (tTest (tOp rEq (tOp (rIxT K) (tVar 3) (tC (.int 0))) (tC (.str "handler")))) (tDrop (tBM K "list" rAppend (tVar 1) (tCons (tTup (tCons (tOp (rIxT K) (tVar 3) (tC (.int 1))) (tCons (tOp (rIxT K) (tVar 3) (tC (.int 2))) (tCons (tC (.str "handler")) (tCons (tOp (rIxT K) (tVar 3) (tC (.int 3))) (tCons (tVar 2) (tCons (tOp (rIxT K) (tVar 3) (tC (.int 4))) (tNil)))))))) (tNil)))) (tNext)) (tIfS (tTest (tOp rEq (tOp (rIxT K) (tVar 3) (tC (.int 0))) (tC (.str "cleanup")))) (tDrop (tBM K "list" rAppend (tVar 1) (tCons (tTup (tCons (tOp (rIxT K) (tVar 3) (tC (.int 1))) (tCons (tOp (rIxT K) (tVar 3) (tC (.int 2))) (tCons (tC (.str "cleanup")) (tCons (tC .non) (tCons (tVar 2) (tCons (tOp (rIxT K) (tVar 3) (tC (.int 3))) (tNil)))))))) (tNil)))) (tNext))))) (tRet (tCB (rTupOf K) (tCons (tVar 1) (tNil)))))

def t_law_coded (K : PySem.W.Frag) (sp_law_code : Sp) (sp_law_table : Sp) : TS :=
  tSeq (tAsg (tLst (tNil)) (gName 1)) (tSeq (tFor (iTup K (tOp (rIxT K) (tVar 0) (tC (.int 1)))) (gName 2) (tSeq (tAsg (tCB (rTupOf K) (tCons (tOp rCat (tCall sp_law_code [] E0 (tCons (tOp (rIxT K) (tVar 2) (tC (.int 1))) (tCons (tC (.int 0)) (tCons (tC (.int 0)) (tCons (tC .non) (tNil)))))) (tLst (tCons (tTup (tCons (tC (.str "num")) (tCons (tC (.int 0)) (tNil)))) (tCons (tTup (tCons (tC (.str "return")) (tNil))) (tNil))))) (tNil))) (gName 3)) (tDrop (tBM K "list" rAppend (tVar 1) (tCons (tTup (tCons (tOp (rIxT K) (tVar 2) (tC (.int 0))) (tCons (tVar 3) (tCons (tCall sp_law_table [] E0 (tCons (tVar 3) (tNil))) (tNil))))) (tNil)))))) (tRet (tCB (rTupOf K) (tCons (tVar 1) (tNil)))))

/-! ### alike -/
mutual
/-- the longest list or tuple within -/
def wid : PyData → Nat
  | .list xs => max xs.length (widAll xs)
  | .tuple xs => max xs.length (widAll xs)
  | .none | .bool _ | .int _ | .str _ | .dict _ => 0
def widAll : List PyData → Nat
  | [] => 0
  | x :: xs => max (wid x) (widAll xs)
end
theorem wid_mem : ∀ {ds : List PyData} {d : PyData}, d ∈ ds → wid d ≤ widAll ds ∧ d.depth ≤ PyData.depthAll ds
  | [], _, h => by cases h
  | e :: r, d, h => by
    rcases List.mem_cons.mp h with rfl | h
    · simp [widAll, PyData.depthAll]; omega
    · have := wid_mem h
      simp [widAll, PyData.depthAll]; omega
def spAlike (K : PySem.W.Frag) (n : Nat) : Sp := fun vs H Q _ => ∃ (x y : V) (d : PyData), vs = [x, y] ∧ Dp K H x d ∧ Dp K H y d ∧ d.depth < n ∧ wid d ≤ 1000000 ∧ Q (.bl true) H
theorem spAlike_zero {K : PySem.W.Frag} (vs : List V) (H : Hp) (Q : VK) (E : XK) : ¬ spAlike K 0 vs H Q E := by
  rintro ⟨x, y, d, _, _, _, h, _⟩
  omega
section
variable {K : PySem.W.Frag} {H : Hp} {a : Addr} {xs : List V}
theorem tyL (h : SqL K H a xs) : TyX K H (.ref a) (.type "list") := by
  rcases h with (h | ⟨o, h⟩) | ⟨o, its, n, hk, hc, _⟩
  · exact .base (.lst h)
  · exact .base (.frz h)
  · exact .kList hk hc
theorem tyT (h : SqT K H a xs) : TyX K H (.ref a) (.type "tuple") := by
  rcases h with (h | ⟨o, h⟩) | ⟨o, its, n, hk, hc, _⟩
  · exact .base (.tup h)
  · exact .fTuple h
  · exact .kTuple hk hc
theorem kit_bb : PySem.W.kitOne K (.type "bool") (.type "bool") = some true := kit_ty (by decide +kernel)
theorem kit_ib : PySem.W.kitOne K (.type "int") (.type "bool") = some false := kit_ty (by decide +kernel)
theorem kit_sb : PySem.W.kitOne K (.type "str") (.type "bool") = some false := kit_ty (by decide +kernel)
theorem kit_lb : PySem.W.kitOne K (.type "list") (.type "bool") = some false := kit_ty (by decide +kernel)
theorem kit_tb : PySem.W.kitOne K (.type "tuple") (.type "bool") = some false := kit_ty (by decide +kernel)
theorem kit_ii : PySem.W.kitOne K (.type "int") (.type "int") = some true := kit_ty (by decide +kernel)
theorem kit_si : PySem.W.kitOne K (.type "str") (.type "int") = some false := kit_ty (by decide +kernel)
theorem kit_li : PySem.W.kitOne K (.type "list") (.type "int") = some false := kit_ty (by decide +kernel)
theorem kit_ti : PySem.W.kitOne K (.type "tuple") (.type "int") = some false := kit_ty (by decide +kernel)
theorem kit_ss : PySem.W.kitOne K (.type "str") (.type "str") = some true := kit_ty (by decide +kernel)
theorem kit_ls : PySem.W.kitOne K (.type "list") (.type "str") = some false := kit_ty (by decide +kernel)
theorem kit_ts : PySem.W.kitOne K (.type "tuple") (.type "str") = some false := kit_ty (by decide +kernel)
theorem kit_tt : PySem.W.kitOne K (.type "tuple") (.type "tuple") = some true := kit_ty (by decide +kernel)
theorem kit_lt : PySem.W.kitOne K (.type "list") (.type "tuple") = some false := kit_ty (by decide +kernel)
theorem kit_tl : PySem.W.kitOne K (.type "tuple") (.type "list") = some false := kit_ty (by decide +kernel)
theorem kit_ll : PySem.W.kitOne K (.type "list") (.type "list") = some true := kit_ty (by decide +kernel)
/-- isinstance of what stands in a slot -/
theorem rIs {σ : L2.St} {i : Nat} {x : V} {t n : String} {b : Bool} {Q : VK} (hs : σ[i]? = some (some x)) (ty : TyX K H x (.type t)) (k : PySem.W.kitOne K (.type t) (.type n) = some b) (q : Q (.bl b) H) :
    tCB (rIsi K) (tCons (tVar i) (tCons (tC (.ty n)) tNil)) σ H Q := ⟨_, hs, x, .ty n, _, _, b, rfl, .ty n, ty, k, q⟩
theorem dpAll_length : ∀ {vs : List V} {ds : List PyData}, DpAll K H vs ds → vs.length = ds.length
  | _, [], h => by cases h; rfl
  | _, d :: ds, h => by
    cases h with
    | cons h1 h2 => simp [dpAll_length h2]
theorem dpAll_get : ∀ {vs : List V} {ds : List PyData} {i : Nat} {d : PyData}, DpAll K H vs ds → ds[i]? = some d → ∃ v, vs[i]? = some v ∧ Dp K H v d
  | _, [], i, d, h, e => by simp at e
  | _, d0 :: ds, 0, d, h, e => by
    cases h with
    | cons h1 h2 => simp at e; subst e; exact ⟨_, rfl, h1⟩
  | _, d0 :: ds, i + 1, d, h, e => by
    cases h with
    | cons h1 h2 =>
      obtain ⟨v, e', t⟩ := dpAll_get (i := i) (d := d) h2 (by simpa using e)
      exact ⟨v, by simpa using e', t⟩
end
abbrev N_law_alike : List Str := ["_law_found", "_law_due", "_law_k"]
theorem rd_alike {K : PySem.W.Frag} {n : Nat} (vs : List V) (H : Hp) (Q : VK) (E : XK) (h : spAlike K (n + 1) vs H Q E) : t_law_alike K (spAlike K n) { nx := fun _ H' => Q .non H', rt := Q } (start N_law_alike vs) H := by
  obtain ⟨x, y, d, rfl, hx, hy, hd, hw, q⟩ := h
  -- what is walked at the end: the places of two lists, two tuples
  have walk : ∀ (a b : Addr) (us ws : List V) (ds : List PyData) (s1 : SqL K H a us ∨ SqT K H a us) (s2 : SqL K H b ws ∨ SqT K H b ws), DpAll K H us ds → DpAll K H ws ds → PyData.depthAll ds < n → widAll ds ≤ 1000000 → ds.length ≤ 1000000 →
      (tSeq (tIfS (tTest (tOp rNe (tCB (rLenQ K) (tCons (tVar 0) (tNil))) (tCB (rLenQ K) (tCons (tVar 1) (tNil))))) (tRet (tC (.bl false))) (tNext)) (tSeq (tFor (iRng1 (tCons (tCB (rLenQ K) (tCons (tVar 1) (tNil))) (tNil))) (gName 2) (tIfS (tNot (tB (tCall (spAlike K n) [] E0 (tCons (tOp (rIx K) (tVar 0) (tVar 2)) (tCons (tOp (rIx K) (tVar 1) (tVar 2)) (tNil)))))) (tRet (tC (.bl false))) (tNext))) (tRet (tC (.bl true))))) { nx := fun _ H' => Q .non H', rt := Q } [some (.ref a), some (.ref b), none] H := by
    intro a b us ws ds s1 s2 h1 h2 hdep hwid hlen
    have l1 := dpAll_length h1; have l2 := dpAll_length h2
    refine ⟨_, rfl, a, us, rfl, s1, _, rfl, b, ws, rfl, s2, rfl, _, rfl, ifF (by rw [dT (by rw [l1, l2])]; rfl) ?_⟩
    refine ⟨_, rfl, b, ws, rfl, s2, _, rfl, by omega, by omega, for_range (lo := 0) (n := ((ws.length : Int)).toNat) (fun i σ H' => H' = H ∧ ∃ v, σ = [some (.ref a), some (.ref b), v]) ⟨rfl, none, rfl⟩ ?_ ?_⟩
    · rintro i σ H' hi ⟨rfl, v, rfl⟩
      have hi2 : i < ds.length := by omega
      have ed : ds[i]? = some ds[i] := List.getElem?_eq_getElem hi2
      obtain ⟨u, hu, du⟩ := dpAll_get h1 ed
      obtain ⟨w, hw', dw⟩ := dpAll_get h2 ed
      have hm := wid_mem (List.getElem_mem hi2)
      have e0 : (0 : Int) + (i : Int) = (i : Int) := by omega
      refine ⟨_, rfl, _, rfl, ?_⟩
      rw [e0]
      have ix1 : ∀ {Q' : VK}, Q' u H' → rIx K (.ref a) (.int (i : Int)) H' Q' := fun {Q'} q' => by
        rcases s1 with s | s
        · exact .inl ⟨a, us, _, u, rfl, rfl, s, atI_nat hu, q'⟩
        · exact .inr (.inl ⟨a, us, _, u, rfl, rfl, s, atI_nat hu, q'⟩)
      have ix2 : ∀ {Q' : VK}, Q' w H' → rIx K (.ref b) (.int (i : Int)) H' Q' := fun {Q'} q' => by
        rcases s2 with s | s
        · exact .inl ⟨b, ws, _, w, rfl, rfl, s, atI_nat hw', q'⟩
        · exact .inr (.inl ⟨b, ws, _, w, rfl, rfl, s, atI_nat hw', q'⟩)
      refine ix1 ⟨_, rfl, _, rfl, ix2 ⟨u, w, ds[i], rfl, du, dw, by omega, by omega, true, rfl, ifF rfl ?_⟩⟩
      exact ⟨rfl, _, rfl⟩
    · rintro σ H' ⟨rfl, v, rfl⟩
      exact q
  cases hx with
  | non =>
    cases hy
    refine ⟨_, rfl, rfl, _, rfl, ifT rfl ⟨_, rfl, rfl, q⟩⟩
  | bl b =>
    cases hy
    refine ⟨_, rfl, rfl, _, rfl, ifF rfl (rIs rfl (.base (.bl _)) kit_bb ⟨_, rfl, ifT rfl (rIs rfl (.base (.bl _)) kit_bb ⟨_, rfl, ifT rfl ⟨_, rfl, _, rfl, rfl, ?_⟩⟩)⟩)⟩
    rw [dT rfl]; exact q
  | int i =>
    cases hy
    refine ⟨_, rfl, rfl, _, rfl, ifF rfl (rIs rfl (.base (.int _)) kit_ib ⟨_, rfl, ifF rfl (rIs rfl (.base (.int _)) kit_ii ⟨_, rfl, ifT rfl (rIs rfl (.base (.int _)) kit_ii ⟨_, rfl, ifT rfl (rIs rfl (.base (.int _)) kit_ib ⟨_, rfl, _, rfl, ifT rfl ⟨_, rfl, _, rfl, rfl, ?_⟩⟩)⟩)⟩)⟩)⟩
    rw [dT rfl]; exact q
  | str z =>
    cases hy
    refine ⟨_, rfl, rfl, _, rfl, ifF rfl (rIs rfl (.base (.str _)) kit_sb ⟨_, rfl, ifF rfl (rIs rfl (.base (.str _)) kit_si ⟨_, rfl, ifF rfl (rIs rfl (.base (.str _)) kit_ss ⟨_, rfl, ifT rfl (rIs rfl (.base (.str _)) kit_ss ⟨_, rfl, ifT rfl ⟨_, rfl, _, rfl, rfl, ?_⟩⟩)⟩)⟩)⟩)⟩
    rw [dT rfl]; exact q
  | @lst a us ds s1 h1 =>
    cases hy with
    | @lst b ws _ s2 h2 =>
      have hd' : PyData.depthAll ds + 1 < n + 1 := by simpa [PyData.depth] using hd
      have hw' : max ds.length (widAll ds) ≤ 1000000 := by simpa [wid] using hw
      refine ⟨_, rfl, rfl, _, rfl, ifF rfl (rIs rfl (tyL s2) kit_lb ⟨_, rfl, ifF rfl (rIs rfl (tyL s2) kit_li ⟨_, rfl, ifF rfl (rIs rfl (tyL s2) kit_ls ⟨_, rfl, ifF rfl ?_⟩)⟩)⟩)⟩
      refine rIs rfl (tyL s2) kit_lt (rIs rfl (tyL s1) kit_lt ⟨rfl, _, rfl, ifF rfl (rIs rfl (tyL s2) kit_ll (rIs rfl (tyL s1) kit_ll ⟨rfl, _, rfl, ifF rfl ?_⟩))⟩)
      exact walk a b us ws ds (.inl s1) (.inl s2) h1 h2 (by omega) (by omega) (by omega)
  | @tup a us ds s1 h1 =>
    cases hy with
    | @tup b ws _ s2 h2 =>
      have hd' : PyData.depthAll ds + 1 < n + 1 := by simpa [PyData.depth] using hd
      have hw' : max ds.length (widAll ds) ≤ 1000000 := by simpa [wid] using hw
      refine ⟨_, rfl, rfl, _, rfl, ifF rfl (rIs rfl (tyT s2) kit_tb ⟨_, rfl, ifF rfl (rIs rfl (tyT s2) kit_ti ⟨_, rfl, ifF rfl (rIs rfl (tyT s2) kit_ts ⟨_, rfl, ifF rfl ?_⟩)⟩)⟩)⟩
      refine rIs rfl (tyT s2) kit_tt (rIs rfl (tyT s1) kit_tt ⟨rfl, _, rfl, ifF rfl (rIs rfl (tyT s2) kit_tl (rIs rfl (tyT s1) kit_tl ⟨rfl, _, rfl, ifF rfl ?_⟩))⟩)
      exact walk a b us ws ds (.inr s1) (.inr s2) h1 h2 (by omega) (by omega) (by omega)
/-! ### new lists of rows -/
/-- a new list of these; all stands -/
def NewL (K : PySem.W.Frag) (H : Hp) (Q : VK) (ds : List PyData) : Prop := ∀ (r : Addr) (vs : List V) (H' : Hp), H r = none → H' r = some (.lst vs) → TpAll K H' vs ds → Same H H' → Q (.ref r) H'
section
variable {K : PySem.W.Frag} {H H1 : Hp} {Q : VK}
theorem NewL.mono {ds : List PyData} (q : NewL K H Q ds) (s : Same H H1) : NewL K H1 Q ds := fun r vs H' hr h t s' => q r vs H' (s.free hr) h t (s.trans s')
theorem Same.new {p : Addr} {o : HO} (h : H p = none) : Same H (upd H p o) := fun b u e => by rw [upd_ne (ne_of_none e h)]; exact e
theorem sqSameL {a : Addr} {xs : List V} (s : Same H H1) (h : SqL K H a xs) : SqL K H1 a xs := s.seq h
/-- two lists in a row -/
theorem cat_new {a b : Addr} {xs ys : List V} {ds es : List PyData} (ha : H a = some (.lst xs)) (hb : H b = some (.lst ys)) (tx : TpAll K H xs ds) (ty : TpAll K H ys es) (hz : ds.length + es.length ≤ 1000000) (q : NewL K H Q (ds ++ es)) : rCat (.ref a) (.ref b) H Q := by
  refine ⟨a, b, xs, ys, rfl, rfl, ha, hb, ?_, fun p hp => ?_⟩
  · rw [tx.length, ty.length]; exact sz_le1 hz
  · exact q p _ _ hp upd_same ((tx.app ty).mono (Tk.new hp)) (Same.new hp)
/-- a comprehension over a list, all stands -/
theorem lc_same {Qd : Hp → Prop} {a D : Addr} {xs : List V} {ds es : List PyData} {te : TE} {slot : Nat} {σ : L2.St} (hs : SqL K H1 a xs) (ht : TpAll K H1 xs ds) (hl : es.length = ds.length) (hD : H1 D = none) (hz : ds.length < 1000000)
    (hw : ∀ x, wipe ((wipe σ [slot]).set slot x) [slot] = wipe σ [slot])
    (step : ∀ (i : Nat) (x : V) (d e : PyData) (H2 : Hp), ds[i]? = some d → es[i]? = some e → Same H1 H2 → Tp K H2 x d → ∀ Q' : VK, (∀ y H3, Same H2 H3 → Tp K H3 y e → Q' y H3) → te ((wipe σ [slot]).set slot (some x)) H2 Q')
    (fin : ∀ (vs : List V) (H' : Hp), H' D = some (.lst vs) → TpAll K H' vs es → Same H1 H' → Qd H') :
    ∃ W : Nat → Nat → Hp → Prop, (∃ m, W 0 m (upd H1 D (.lst []))) ∧ ∀ i m H, W i m H →
      ((Itl K a).stop i H ∧ Qd H) ∨ ((Itl K a).go i H ∧ ∃ Nx : Hp → Prop, (∀ H', Nx H' → ∃ m', m' < m ∧ W (i + 1) m' H') ∧ ∀ x H', (Itl K a).yld i H x H' → gName slot x (wipe σ [slot]) H' fun σ2 H2 => wipe σ2 [slot] = wipe σ [slot] ∧ tYes σ2 H2 fun c H3 =>
        if c = true then te σ2 H3 fun y H4 => ∃ acc, H4 D = some (.lst acc) ∧ acc.length < sizeLine ∧ Nx (upd H4 D (.lst (acc ++ [y]))) else Nx H3) := by
  have lx := ht.length
  refine lc_list (K := K) (a := a) (xs := xs) (Qd := Qd) (fun i H' => ∃ vs, H' D = some (.lst vs) ∧ TpAll K H' vs (es.take i) ∧ Same H1 H')
    ⟨[], upd_same, .nil, Same.new hD⟩ (fun i H' _ ⟨_, _, _, s⟩ => s.seq hs) ?_ ?_
  · rintro i x H2 hx ⟨vs, hv, tv, s2⟩
    obtain ⟨d, hd, td⟩ := ht.get hx
    have hi : i < es.length := by rw [hl]; exact (List.getElem?_eq_some_iff.mp hd).1
    have he : es[i]? = some es[i] := List.getElem?_eq_getElem hi
    refine ⟨hw _, ?_⟩
    show te ((wipe σ [slot]).set slot (some x)) H2 fun y H4 => ∃ acc, H4 D = some (.lst acc) ∧ acc.length < sizeLine ∧ _
    refine step i x d es[i] H2 hd he s2 (td.mono (Tk.same s2)) _ fun y H3 s3 t3 => ?_
    have hv3 := s3 D _ hv
    refine ⟨vs, hv3, ?_, vs ++ [y], upd_same, ?_, fun b u e => by rw [upd_ne (ne_of_none e hD)]; exact s3 b u (s2 b u e)⟩
    · have := tv.length
      rw [List.length_take] at this
      exact sz_lt1 (by omega)
    · rw [List.take_succ, he]
      exact ((tv.mono (Tk.same s3)).snoc t3).mono (Tk.lst hv3)
  · rintro H' ⟨vs, hv, tv, s2⟩
    rw [List.take_of_length_le (by omega)] at tv
    exact fin vs H' hv tv s2
end
/-! ### parts one by one -/
section
variable {K : PySem.W.Frag} {H : Hp} {xs : List V} {i : Nat} {x : V}
theorem drop_at (hx : xs[i]? = some x) : xs.drop i = x :: xs.drop (i + 1) := by
  have hi := (List.getElem?_eq_some_iff.mp hx).1
  rw [List.drop_eq_getElem_cons hi, (List.getElem?_eq_some_iff.mp hx).2]
theorem sms_at {r : Sms} (ht : TpAll K H (xs.drop i) r.ds) (hx : xs[i]? = some x) : ∃ s r', r = .cons s r' ∧ Tp K H x s.d ∧ TpAll K H (xs.drop (i + 1)) r'.ds := by
  rw [drop_at hx] at ht
  cases r with
  | nil => cases ht
  | cons s r' =>
    cases ht with
    | cons h1 h2 => exact ⟨s, r', rfl, h1, h2⟩
theorem sms_end {r : Sms} (ht : TpAll K H (xs.drop xs.length) r.ds) : r = .nil := by
  rw [List.drop_length] at ht
  cases r with
  | nil => rfl
  | cons s r' => cases ht
theorem hds_at {r : Hds} (ht : TpAll K H (xs.drop i) r.ds) (hx : xs[i]? = some x) : ∃ k sl t r', r = .cons k sl t r' ∧ Tp K H x (.tuple [kindD k, .int (sl : Int), t.d]) ∧ TpAll K H (xs.drop (i + 1)) r'.ds := by
  rw [drop_at hx] at ht
  cases r with
  | nil => cases ht
  | cons k sl t r' =>
    cases ht with
    | cons h1 h2 => exact ⟨k, sl, t, r', rfl, h1, h2⟩
theorem hds_end {r : Hds} (ht : TpAll K H (xs.drop xs.length) r.ds) : r = .nil := by
  rw [List.drop_length] at ht
  cases r with
  | nil => rfl
  | cons k sl t r' => cases ht
theorem exs_at {r : List Ex} (ht : TpAll K H (xs.drop i) (r.map Ex.d)) (hx : xs[i]? = some x) : ∃ e r', r = e :: r' ∧ Tp K H x e.d ∧ TpAll K H (xs.drop (i + 1)) (r'.map Ex.d) := by
  rw [drop_at hx] at ht
  cases r with
  | nil => cases ht
  | cons e r' =>
    cases ht with
    | cons h1 h2 => exact ⟨e, r', rfl, h1, h2⟩
theorem exs_end {r : List Ex} (ht : TpAll K H (xs.drop xs.length) (r.map Ex.d)) : r = [] := by
  rw [List.drop_length] at ht
  cases r with
  | nil => rfl
  | cons e r' => cases ht
end
/-! ### _law_part_code -/
def spPartCode (K : PySem.W.Frag) (n : Nat) : Sp := fun vs H Q _ => ∃ (v : V) (e : Ex), vs = [v] ∧ Tp K H v e.d ∧ e.dep ≤ n ∧ e.len ≤ 100000 ∧ NewL K H Q (e.code.map Rw.d)
theorem spPartCode_zero {K : PySem.W.Frag} (vs : List V) (H : Hp) (Q : VK) (E : XK) : ¬ spPartCode K 0 vs H Q E := by
  rintro ⟨v, e, _, _, h, _⟩
  cases e <;> simp [Ex.dep] at h
section
variable {K : PySem.W.Frag}
abbrev N_law_part_code : List Str := ["_law_part_here"]
theorem rd_part_code {n : Nat} (vs : List V) (H : Hp) (Q : VK) (E : XK) (h : spPartCode K (n + 1) vs H Q E) : t_law_part_code K (spPartCode K n) { nx := fun _ H' => Q .non H', rt := Q } (start N_law_part_code vs) H := by
  obtain ⟨v, e, rfl, ht, hd, hz, q⟩ := h
  have leaf : ∀ (a : Addr) (x0 x1 : V), v = .ref a → SqT K H a [x0, x1] → (x0 = .str "num" ∨ x0 = .str "var") → e.code.map Rw.d = [e.d] → t_law_part_code K (spPartCode K n) { nx := fun _ H' => Q .non H', rt := Q } (start N_law_part_code [v]) H := by
    rintro a x0 x1 rfl hT hx he
    refine rd_ixT (j := 0) rfl hT rfl ⟨(by show 2 ≤ sizeLine; decide), fun p hp => ⟨p, _, rfl, .inr (SqT.of upd_same), ?_⟩⟩
    have f1 : flatV x0 = true := by rcases hx with rfl | rfl <;> rfl
    have f2 : inV x0 ([.str "num", .str "var"] : List V) = true := by rcases hx with rfl | rfl <;> rfl
    refine ⟨f1, rfl, true, by rw [if_neg Bool.false_ne_true, f2], ifT rfl ?_⟩
    refine ⟨_, rfl, (by show 1 ≤ sizeLine; decide), fun r hr => ?_⟩
    have s1 : Same H (L2.upd H p (.tup [.str "num", .str "var"])) := Same.new hp
    refine q r _ _ (s1.free hr) upd_same ?_ (s1.trans (Same.new hr))
    rw [he]
    exact .cons ((ht.mono (Tk.same s1)).mono (Tk.new hr)) .nil
  cases e with
  | num k =>
    obtain ⟨a, x0, x1, rfl, hT, h0, h1⟩ := ht.tup2
    exact leaf a x0 x1 rfl hT (.inl h0.strE) rfl
  | var k =>
    obtain ⟨a, x0, x1, rfl, hT, h0, h1⟩ := ht.tup2
    exact leaf a x0 x1 rfl hT (.inr h0.strE) rfl
  | bin o e1 e2 =>
    obtain ⟨a, x0, x1, x2, rfl, hT, h0, h1, h2⟩ := ht.tup3
    cases h0.strE
    have hd' : max e1.dep e2.dep + 1 ≤ n + 1 := hd
    have hz' : e1.len + e2.len + 1 ≤ 100000 := hz
    refine rd_ixT (j := 0) rfl hT rfl ⟨(by show 2 ≤ sizeLine; decide), fun p hp => ⟨p, _, rfl, .inr (SqT.of upd_same), rfl, rfl, false, ?_, ifF rfl ?_⟩⟩
    · rw [if_neg Bool.false_ne_true]; cases o <;> rfl
    have s1 : Same H (L2.upd H p (.tup [.str "num", .str "var"])) := Same.new hp
    refine rd_ixT (j := 1) rfl (s1.sqT hT) rfl ⟨_, e1, rfl, h1.mono (Tk.same s1), by omega, by omega, fun r1 us H1 hr1 hl1 t1 s2 => ?_⟩
    have s12 := s1.trans s2
    refine rd_ixT (j := 2) rfl (s12.sqT hT) rfl ⟨_, e2, rfl, h2.mono (Tk.same s12), by omega, by omega, fun r2 ws H2 hr2 hl2 t2 s3 => ?_⟩
    refine cat_new (K := K) (s3 _ _ hl1) hl2 (t1.mono (Tk.same s3)) t2 (by rw [List.length_map, List.length_map, Ex.code_len, Ex.code_len]; omega) fun r3 ys H3 hr3 hl3 t3 s4 => ?_
    have s14 := (s12.trans s3).trans s4
    refine rd_ixT (j := 0) rfl (s14.sqT hT) rfl ⟨(by show 1 ≤ sizeLine; decide), fun p2 hp2 => ⟨(by show 1 ≤ sizeLine; decide), fun p3 hp3 => ?_⟩⟩
    have s5 : Same H3 (L2.upd (L2.upd H3 p2 (.tup [.str o.s])) p3 (.lst [.ref p2])) := (Same.new hp2).trans (Same.new hp3)
    refine cat_new (K := K) (ds := e1.code.map Rw.d ++ e2.code.map Rw.d) (es := [(Rw.op o).d]) (s5 _ _ hl3) upd_same (t3.mono (Tk.same s5)) (.cons ((Tp.mk hp2 (.cons (.str _) .nil)).mono (Tk.new hp3)) .nil) (by simp [Ex.code_len]; omega) ?_
    rw [show e1.code.map Rw.d ++ e2.code.map Rw.d ++ [(Rw.op o).d] = (Ex.bin o e1 e2).code.map Rw.d by simp [Ex.code]]
    exact q.mono (s14.trans s5)
/-! ### _law_code and what it calls -/
/-- the turn as it is handed: None, or three numbers -/
def tnD : Option Tn → PyData
  | none => .none
  | some t => .tuple [.int t.1, .int t.2.1, .int t.2.2]
def tnOf : Option Tn → Tn
  | none => (0, 0, 0)
  | some t => t
/-- what may be coded: breaks where there is a while, at most so deep and so long; from a place on -/
structure CodeOk (s : Sm) (n : Nat) (tn : Option Tn) (base : Int) : Prop where
  wf : ∃ cs nk hand, s.Wf cs nk tn.isSome hand
  dep : s.dep ≤ n
  len : s.len ≤ 100000
  b0 : 0 ≤ base
  tn0 : ∀ t, tn = some t → 0 ≤ t.1
def spCode (n : Nat) : Sp := fun vs H Q _ => ∃ (v tv : V) (s : Sm) (base D : Int) (tn : Option Tn), vs = [v, .int base, .int D, tv] ∧ Tp K H v s.d ∧ Tp K H tv (tnD tn) ∧ CodeOk s n tn base ∧ NewL K H Q ((s.code base D (tnOf tn)).map Rw.d)
theorem spCode_zero (vs : List V) (H : Hp) (Q : VK) (E : XK) : ¬ spCode (K := K) 0 vs H Q E := by
  rintro ⟨v, tv, s, base, D, tn, _, _, _, h, _⟩
  have := h.dep
  cases s <;> simp [Sm.dep] at this
def spIfCode (n : Nat) : Sp := fun vs H Q _ => ∃ (v tv : V) (e : Ex) (s t : Sm) (base D : Int) (tn : Option Tn), vs = [v, .int base, .int D, tv] ∧ Tp K H v (Sm.ife e s t).d ∧ Tp K H tv (tnD tn) ∧ CodeOk (.ife e s t) (n + 1) tn base ∧ NewL K H Q (((Sm.ife e s t).code base D (tnOf tn)).map Rw.d)
def spLoopCode (n : Nat) : Sp := fun vs H Q _ => ∃ (v : V) (e : Ex) (s : Sm) (base D : Int) (tn : Option Tn), vs = [v, .int base, .int D] ∧ Tp K H v (Sm.whl e s).d ∧ CodeOk (.whl e s) (n + 1) tn base ∧ NewL K H Q (((Sm.whl e s).code base D (tnOf tn)).map Rw.d)
def spTryCode (n : Nat) : Sp := fun vs H Q _ => ∃ (v tv : V) (s : Sm) (hs : Hds) (base D : Int) (tn : Option Tn), vs = [v, .int base, .int D, tv] ∧ Tp K H v (Sm.tri s hs).d ∧ Tp K H tv (tnD tn) ∧ CodeOk (.tri s hs) (n + 1) tn base ∧ NewL K H Q (((Sm.tri s hs).code base D (tnOf tn)).map Rw.d)
def spCleanCode (n : Nat) : Sp := fun vs H Q _ => ∃ (v tv : V) (s c : Sm) (base D : Int) (tn : Option Tn), vs = [v, .int base, .int D, tv] ∧ Tp K H v (Sm.cln s c).d ∧ Tp K H tv (tnD tn) ∧ CodeOk (.cln s c) (n + 1) tn base ∧ NewL K H Q (((Sm.cln s c).code base D (tnOf tn)).map Rw.d)
def Sm.plain : Sm → Bool
  | .row _ | .ife _ _ _ | .whl _ _ | .tri _ _ | .cln _ _ => false
  | _ => true
def spPlainCode : Sp := fun vs H Q _ => ∃ (v tv : V) (s : Sm) (n : Nat) (base D : Int) (tn : Option Tn), vs = [v, tv] ∧ Tp K H v s.d ∧ Tp K H tv (tnD tn) ∧ s.plain = true ∧ CodeOk s n tn base ∧ NewL K H Q ((s.code base D (tnOf tn)).map Rw.d)
theorem Sm.dep_pos : ∀ s : Sm, 1 ≤ s.dep := fun s => by cases s <;> simp [Sm.dep]
theorem ite_int {c : Bool} : (if c = true then (1 : Int) else 0) = if c then 1 else 0 := by cases c <;> rfl
abbrev N_law_if_code : List Str := ["_law_one", "_law_base", "_law_depth", "_law_turn", "_law_head", "_law_yes", "_law_here", "_law_no"]
theorem rd_if_code {n : Nat} (vs : List V) (H : Hp) (Q : VK) (E : XK) (h : spIfCode (K := K) n vs H Q E) : t_law_if_code K (spPartCode K 6) (spCode (K := K) n) { nx := fun _ H' => Q .non H', rt := Q } (start N_law_if_code vs) H := by
  obtain ⟨v, tv, e, s, t, base, D, tn, rfl, ht, htn, ok, q⟩ := h
  obtain ⟨cs, nk, hand, ⟨we, de⟩, ws, wt⟩ := ok.wf
  have hd : max s.dep t.dep + 1 ≤ n + 1 := ok.dep
  have hl : e.len + 1 + s.len + 1 + t.len ≤ 100000 := ok.len
  have b0 := ok.b0
  obtain ⟨a, x0, x1, x2, x3, rfl, hT, h0, h1, h2, h3⟩ := ht.tup4
  refine rd_ixT (j := 1) rfl hT rfl ⟨_, e, rfl, h1, by omega, by omega, fun r1 us H1 hr1 hl1 t1 s1 => ?_⟩
  have lu : (us.length : Int) = e.len := by rw [t1.length, List.length_map, Ex.code_len]
  refine rd_ixT (j := 2) rfl (s1.sqT hT) rfl ⟨_, rfl, _, rfl, r1, us, rfl, .inl (SqL.of hl1), _, _, rfl, rfl, _, _, rfl, rfl, _, rfl, _, rfl, ?_⟩
  refine ⟨x2, tv, s, base + us.length + 1, D, tn, rfl, h2.mono (Tk.same s1), htn.mono (Tk.same s1), ⟨⟨cs, nk, hand, ws⟩, by omega, by omega, by omega, ok.tn0⟩, fun r2 ws' H2 hr2 hl2 t2 s2 => ?_⟩
  have s12 := s1.trans s2
  have hl1' := s2 _ _ hl1
  have lw : (ws'.length : Int) = s.len := by rw [t2.length, List.length_map, Sm.code_len]
  refine ⟨_, rfl, _, rfl, r1, us, rfl, .inl (SqL.of hl1'), _, _, rfl, rfl, _, rfl, r2, ws', rfl, .inl (SqL.of hl2), _, _, rfl, rfl, _, _, rfl, rfl, ?_⟩
  refine rd_ixT (j := 3) rfl (s12.sqT hT) rfl ⟨_, rfl, _, rfl, _, rfl, ?_⟩
  refine ⟨x3, tv, t, base + us.length + ws'.length + 2, D, tn, rfl, h3.mono (Tk.same s12), htn.mono (Tk.same s12), ⟨⟨cs, nk, hand, wt⟩, by omega, by omega, by omega, ok.tn0⟩, fun r3 zs H3 hr3 hl3 t3 s3 => ?_⟩
  have lz : (zs.length : Int) = t.len := by rw [t3.length, List.length_map, Sm.code_len]
  have e1 : base + us.length + 1 = base + e.len + 1 := by omega
  have e2 : base + us.length + ws'.length + 2 = base + e.len + 1 + s.len + 1 := by omega
  rw [e1] at t2; rw [e2] at t3
  have hl1'' := s3 _ _ hl1'
  have hl2' := s3 _ _ hl2
  -- head + [("unless", here)]
  refine ⟨_, rfl, _, rfl, (by show 2 ≤ sizeLine; decide), fun p hp => ⟨(by show 1 ≤ sizeLine; decide), fun p2 hp2 => ?_⟩⟩
  have sA : Same H3 (L2.upd (L2.upd H3 p (.tup [.str "unless", .int (base + us.length + ws'.length + 2)])) p2 (.lst [.ref p])) := (Same.new hp).trans (Same.new hp2)
  refine cat_new (K := K) (ds := e.code.map Rw.d) (es := [(Rw.unless (base + us.length + ws'.length + 2)).d]) (sA _ _ hl1'') upd_same ((t1.mono (Tk.same (s2.trans s3))).mono (Tk.same sA)) (.cons ((Tp.mk hp (.cons (.str _) (.cons (.int _) .nil))).mono (Tk.new hp2)) .nil) (by rw [List.length_map, Ex.code_len]; simp; omega) fun r4 ws4 H4 hr4 hl4 t4 s4 => ?_
  have s34 := sA.trans s4
  refine ⟨_, rfl, cat_new (K := K) hl4 (s34 _ _ hl2') t4 ((t2.mono (Tk.same s3)).mono (Tk.same s34)) (by simp [Ex.code_len, Sm.code_len]; omega) fun r5 ws5 H5 hr5 hl5 t5 s5 => ?_⟩
  have s35 := s34.trans s5
  refine ⟨_, rfl, _, rfl, r3, zs, rfl, .inl (SqL.of (s35 _ _ hl3)), _, _, rfl, rfl, (by show 2 ≤ sizeLine; decide), fun p3 hp3 => ⟨(by show 1 ≤ sizeLine; decide), fun p4 hp4 => ?_⟩⟩
  have sB : Same H5 (L2.upd (L2.upd H5 p3 (.tup [.str "go", .int (base + us.length + ws'.length + 2 + zs.length)])) p4 (.lst [.ref p3])) := (Same.new hp3).trans (Same.new hp4)
  refine cat_new (K := K) (es := [(Rw.go (base + us.length + ws'.length + 2 + zs.length)).d]) (sB _ _ hl5) upd_same (t5.mono (Tk.same sB)) (.cons ((Tp.mk hp3 (.cons (.str _) (.cons (.int _) .nil))).mono (Tk.new hp4)) .nil) (by simp [Ex.code_len, Sm.code_len]; omega) fun r6 ws6 H6 hr6 hl6 t6 s6 => ?_
  have s36 := (s35.trans sB).trans s6
  refine ⟨_, rfl, cat_new (K := K) hl6 (s36 _ _ hl3) t6 (t3.mono (Tk.same s36)) (by simp [Ex.code_len, Sm.code_len]; omega) ?_⟩
  have e3 : base + us.length + ws'.length + 2 + zs.length = base + e.len + 1 + s.len + 1 + t.len := by omega
  rw [e3, e2]
  rw [show e.code.map Rw.d ++ [(Rw.unless (base + e.len + 1 + s.len + 1)).d] ++ (s.code (base + e.len + 1) D (tnOf tn)).map Rw.d ++ [(Rw.go (base + e.len + 1 + s.len + 1 + t.len)).d] ++ (t.code (base + e.len + 1 + s.len + 1) D (tnOf tn)).map Rw.d = ((Sm.ife e s t).code base D (tnOf tn)).map Rw.d by simp [Sm.code]]
  exact q.mono ((s12.trans s3).trans s36)
theorem shaped_rw (r : Rw) : SeqAt.shaped r.d = true := by
  cases r with
  | op o => cases o <;> decide +kernel
  | hand b x kd D => cases kd <;> simp [SeqAt.shaped, Rw.d, kindD, PyData.canLay0, PyData.canLayAll0, PyData.depth, PyData.depthAll] <;> decide +kernel
  | _ => simp [SeqAt.shaped, Rw.d, PyData.canLay0, PyData.canLayAll0, PyData.depth, PyData.depthAll] <;> decide +kernel
/-- [row, other][int(row == mark)] where all three are rows -/
theorem pick_row {σ : L2.St} {H2 : Hp} {x : V} {r r' mk : Rw} {i : Nat} {tb tm : TE} {Q' : VK} (hx : σ[i]? = some (some x)) (tx : Tp K H2 x r.d)
    (hb : ∀ (H3 : Hp) (Q2 : VK), Same H2 H3 → (∀ p H4, Same H3 H4 → Tp K H4 (.ref p) r'.d → Q2 (.ref p) H4) → tb σ H3 Q2)
    (hm : ∀ (H3 : Hp) (Q2 : VK), Same H2 H3 → (∀ p H4, Same H3 H4 → Tp K H4 (.ref p) mk.d → Q2 (.ref p) H4) → tm σ H3 Q2) (eqv : PyData.eqv r.d mk.d = decide (r = mk))
    (q : ∀ y H3, Same H2 H3 → Tp K H3 y (if r = mk then r' else r).d → Q' y H3) :
    tOp (rIxL K) (tLst (tCons (tVar i) (tCons tb tNil))) (tCB rInt1 (tCons (tOp (rEqD K) (tVar i) tm) tNil)) σ H2 Q' := by
  refine ⟨_, hx, hb H2 _ (Same.refl _) fun p H3 s3 t3 => ⟨(by show 2 ≤ sizeLine; decide), fun l hl => ?_⟩⟩
  have s4 : Same H2 (L2.upd H3 l (.lst [x, .ref p])) := s3.trans (Same.new hl)
  refine ⟨_, hx, hm _ _ s4 fun p2 H5 s5 t5 => ⟨r.d, mk.d, (tx.mono (Tk.same (s4.trans s5))).dp, t5.dp, shaped_rw r, shaped_rw mk, .inr ⟨_, rfl, ?_⟩⟩⟩
  rw [eqv]
  have hl5 := s5 l _ upd_same
  by_cases c : r = mk
  · rw [if_pos (dT c)]
    have z := q (.ref p) H5 (s4.trans s5)
    rw [if_pos c] at z
    exact ⟨l, _, 1, .ref p, rfl, rfl, SqL.of hl5, rfl, z (t3.mono (Tk.same ((Same.new hl).trans s5)))⟩
  · rw [if_neg (by rw [dF c]; decide)]
    have z := q x H5 (s4.trans s5)
    rw [if_neg c] at z
    exact ⟨l, _, 0, x, rfl, rfl, SqL.of hl5, rfl, z (tx.mono (Tk.same (s4.trans s5)))⟩
abbrev N_law_loop_code : List Str := ["_law_one", "_law_base", "_law_depth", "_law_head", "_law_start", "_law_inner", "_law_leave", "_law_row"]
theorem rd_loop_code {n : Nat} (vs : List V) (H : Hp) (Q : VK) (E : XK) (h : spLoopCode (K := K) n vs H Q E) : t_law_loop_code K (spPartCode K 6) (spCode (K := K) n) { nx := fun _ H' => Q .non H', rt := Q } (start N_law_loop_code vs) H := by
  obtain ⟨v, e, s, base, D, tn, rfl, ht, ok, q⟩ := h
  obtain ⟨cs, nk, hand, ⟨we, de⟩, ws⟩ := ok.wf
  have hd : s.dep + 1 ≤ n + 1 := ok.dep
  have hl : e.len + 2 + s.len + 1 ≤ 100000 := ok.len
  have b0 := ok.b0
  obtain ⟨a, x0, x1, x2, rfl, hT, h0, h1, h2⟩ := ht.tup3
  refine rd_ixT (j := 1) rfl hT rfl ⟨_, e, rfl, h1, by omega, by omega, fun r1 us H1 hr1 hl1 t1 s1 => ?_⟩
  have lu : (us.length : Int) = e.len := by rw [t1.length, List.length_map, Ex.code_len]
  refine ⟨_, rfl, _, rfl, r1, us, rfl, .inl (SqL.of hl1), _, _, rfl, rfl, _, _, rfl, rfl, ?_⟩
  refine rd_ixT (j := 2) rfl (s1.sqT hT) rfl ⟨_, rfl, _, rfl, _, rfl, _, rfl, _, rfl, _, _, rfl, rfl, _, rfl, (by show 3 ≤ sizeLine; decide), fun p hp => ?_⟩
  have sp : Same H1 (L2.upd H1 p (.tup [.int base, .int (-1 - base), .int D])) := Same.new hp
  have eS : base + us.length + 2 = base + e.len + 2 := by omega
  refine ⟨x2, .ref p, s, base + us.length + 2, D, some (base, -1 - base, D), rfl, (h2.mono (Tk.same s1)).mono (Tk.same sp), Tp.mk hp (.cons (.int _) (.cons (.int _) (.cons (.int _) .nil))), ⟨⟨cs, nk, hand, ws⟩, by omega, by omega, by omega, fun t z => by cases z; exact b0⟩, fun r2 ws' H2 hr2 hl2 t2 s2 => ?_⟩
  rw [eS] at t2
  have s12 := (s1.trans sp).trans s2
  have lw : (ws'.length : Int) = s.len := by rw [t2.length, List.length_map, Sm.code_len]
  refine ⟨_, rfl, _, rfl, r2, ws', rfl, .inl (SqL.of hl2), _, _, rfl, rfl, _, _, rfl, rfl, ?_⟩
  -- the look at each row
  have eZ : base + us.length + 2 + ws'.length + 1 = base + e.len + 2 + s.len + 1 := by omega
  refine ⟨_, rfl, r2, rfl, ⟨_, SqL.of hl2⟩, fun L hL => ?_⟩
  refine lc_same (K := K) (es := ((s.code (base + e.len + 2) D (base, base + e.len + 2 + s.len + 1, D)).map Rw.d)) (SqL.of hl2) t2 (by simp [Sm.code_len]) hL (by simp [Sm.code_len]; omega) ?hw ?_ ?_
  case hw => exact fun _ => rfl
  · intro i x d f H3 hd hf s3 tx Q' q'
    rw [List.getElem?_map] at hd hf
    have hfill := Sm.subL (w := -1 - base) (z := base + e.len + 2 + s.len + 1) (p := base) (D0 := D) (by omega) b0 s (base + e.len + 2) D (by omega)
    rw [← hfill, List.getElem?_map] at hf
    cases er : (s.code (base + e.len + 2) D (tnOf (some (base, -1 - base, D))))[i]? with
    | none => rw [er] at hd; cases hd
    | some r =>
      have er' : (s.code (base + e.len + 2) D (base, -1 - base, D))[i]? = some r := er
      rw [er] at hd; rw [er'] at hf
      obtain rfl : r.d = d := Option.some.inj hd
      obtain rfl : (subL (-1 - base) (base + e.len + 2 + s.len + 1) D r).d = f := Option.some.inj hf
      refine pick_row (r := r) (r' := .leap (base + e.len + 2 + s.len + 1) D) (mk := .leap (-1 - base) D) rfl tx ?_ ?_ (Rw.eqv_leap _ _ _) q'
      · intro H4 Q2 s4 k
        refine ⟨_, rfl, _, rfl, (by show 3 ≤ sizeLine; decide), fun p3 hp3 => k p3 _ (Same.new hp3) ?_⟩
        rw [← eZ]
        exact Tp.mk hp3 (.cons (.str _) (.cons (.int _) (.cons (.int _) .nil)))
      · intro H4 Q2 s4 k
        exact ⟨_, rfl, _, rfl, _, _, rfl, rfl, _, rfl, (by show 3 ≤ sizeLine; decide), fun p3 hp3 => k p3 _ (Same.new hp3) (Tp.mk hp3 (.cons (.str _) (.cons (.int _) (.cons (.int _) .nil))))⟩
  · intro zs H3 hL3 tz s3
    have s13 := s12.trans s3
    have hl1' := ((sp.trans s2).trans s3) _ _ hl1
    refine ⟨_, rfl, _, rfl, (by show 2 ≤ sizeLine; decide), fun p1 hp1 => ⟨(by show 1 ≤ sizeLine; decide), fun p2 hp2 => ⟨(by show 2 ≤ sizeLine; decide), fun p3 hp3 => ?_⟩⟩⟩
    have sA : Same H3 (L2.upd (L2.upd (L2.upd H3 p1 (.tup [.str "unless", .int (base + us.length + 2 + ws'.length + 1)])) p2 (.tup [.str "turn"])) p3 (.lst [.ref p1, .ref p2])) := ((Same.new hp1).trans (Same.new hp2)).trans (Same.new hp3)
    have tA : TpAll K (L2.upd (L2.upd (L2.upd H3 p1 (.tup [.str "unless", .int (base + us.length + 2 + ws'.length + 1)])) p2 (.tup [.str "turn"])) p3 (.lst [.ref p1, .ref p2])) [.ref p1, .ref p2] [(Rw.unless (base + us.length + 2 + ws'.length + 1)).d, Rw.turn.d] :=
      .cons (((Tp.mk hp1 (.cons (.str _) (.cons (.int _) .nil))).mono (Tk.new hp2)).mono (Tk.new hp3)) (.cons ((Tp.mk hp2 (.cons (.str _) .nil)).mono (Tk.new hp3)) .nil)
    refine cat_new (K := K) (sA _ _ hl1') upd_same ((t1.mono (Tk.same ((sp.trans s2).trans s3))).mono (Tk.same sA)) tA (by simp [Ex.code_len]; omega) fun r4 ws4 H4 hr4 hl4 t4 s4 => ?_
    have s34 := sA.trans s4
    refine ⟨_, rfl, cat_new (K := K) hl4 (s34 _ _ hL3) t4 (tz.mono (Tk.same s34)) (by simp [Ex.code_len, Sm.code_len]; omega) fun r5 ws5 H5 hr5 hl5 t5 s5 => ?_⟩
    refine ⟨_, rfl, (by show 2 ≤ sizeLine; decide), fun p4 hp4 => ⟨(by show 1 ≤ sizeLine; decide), fun p5 hp5 => ?_⟩⟩
    have sB : Same H5 (L2.upd (L2.upd H5 p4 (.tup [.str "go", .int base])) p5 (.lst [.ref p4])) := (Same.new hp4).trans (Same.new hp5)
    refine cat_new (K := K) (es := [(Rw.go base).d]) (sB _ _ hl5) upd_same (t5.mono (Tk.same sB)) (.cons ((Tp.mk hp4 (.cons (.str _) (.cons (.int _) .nil))).mono (Tk.new hp5)) .nil) (by simp [Ex.code_len, Sm.code_len]; omega) ?_
    rw [eZ, show e.code.map Rw.d ++ [(Rw.unless (base + e.len + 2 + s.len + 1)).d, Rw.turn.d] ++ (s.code (base + e.len + 2) D (base, base + e.len + 2 + s.len + 1, D)).map Rw.d ++ [(Rw.go base).d] = ((Sm.whl e s).code base D (tnOf tn)).map Rw.d by simp [Sm.code]]
    exact q.mono (((s13.trans s34).trans s5).trans sB)
abbrev N_law_clean_code : List Str := ["_law_one", "_law_base", "_law_depth", "_law_turn", "_law_inner", "_law_end", "_law_last"]
theorem rd_clean_code {n : Nat} (vs : List V) (H : Hp) (Q : VK) (E : XK) (h : spCleanCode (K := K) n vs H Q E) : t_law_clean_code K (spCode (K := K) n) { nx := fun _ H' => Q .non H', rt := Q } (start N_law_clean_code vs) H := by
  obtain ⟨v, tv, s, c, base, D, tn, rfl, ht, htn, ok, q⟩ := h
  obtain ⟨cs, nk, hand, ws, wc⟩ := ok.wf
  have hd : max s.dep c.dep + 1 ≤ n + 1 := ok.dep
  have hl : s.len + 2 + c.len + 1 ≤ 100000 := ok.len
  have b0 := ok.b0
  obtain ⟨a, x0, x1, x2, rfl, hT, h0, h1, h2⟩ := ht.tup3
  refine rd_ixT (j := 1) rfl hT rfl ⟨_, rfl, _, rfl, _, rfl, ?_⟩
  refine ⟨x1, tv, s, base, D, tn, rfl, h1, htn, ⟨⟨cs, nk, hand, ws⟩, by omega, by omega, b0, ok.tn0⟩, fun r1 us H1 hr1 hl1 t1 s1 => ?_⟩
  have lu : (us.length : Int) = s.len := by rw [t1.length, List.length_map, Sm.code_len]
  refine ⟨(by show 1 ≤ sizeLine; decide), fun p1 hp1 => ⟨(by show 1 ≤ sizeLine; decide), fun p2 hp2 => ?_⟩⟩
  have sA : Same H1 (L2.upd (L2.upd H1 p1 (.tup [.str "mend"])) p2 (.lst [.ref p1])) := (Same.new hp1).trans (Same.new hp2)
  refine cat_new (K := K) (es := [Rw.mend.d]) (sA _ _ hl1) upd_same (t1.mono (Tk.same sA)) (.cons ((Tp.mk hp1 (.cons (.str _) .nil)).mono (Tk.new hp2)) .nil) (by simp [Sm.code_len]; omega) fun r2 ws2 H2 hr2 hl2 t2 s2 => ?_
  have s12 := (s1.trans sA).trans s2
  have lw : (ws2.length : Int) = s.len + 1 := by rw [t2.length]; simp [Sm.code_len]
  refine ⟨_, rfl, _, rfl, r2, ws2, rfl, .inl (SqL.of hl2), _, _, rfl, rfl, ?_⟩
  refine rd_ixT (j := 2) rfl (s12.sqT hT) rfl ⟨_, rfl, _, _, rfl, rfl, _, rfl, _, _, rfl, rfl, _, rfl, ?_⟩
  have eB : base + ws2.length + 1 = base + s.len + 2 := by omega
  refine ⟨x2, tv, c, base + ws2.length + 1, D + 1, tn, rfl, h2.mono (Tk.same s12), htn.mono (Tk.same s12), ⟨⟨cs, nk, hand, wc⟩, by omega, by omega, by omega, ok.tn0⟩, fun r3 ws3 H3 hr3 hl3 t3 s3 => ?_⟩
  rw [eB] at t3
  refine ⟨_, rfl, _, rfl, _, rfl, _, rfl, (by show 4 ≤ sizeLine; decide), fun p3 hp3 => ⟨(by show 1 ≤ sizeLine; decide), fun p4 hp4 => ?_⟩⟩
  have sB : Same H3 (L2.upd (L2.upd H3 p3 (.tup [.str "cleanup", .int base, .int (base + ws2.length), .int D])) p4 (.lst [.ref p3])) := (Same.new hp3).trans (Same.new hp4)
  refine cat_new (K := K) (es := [(Rw.cup base (base + ws2.length) D).d]) (sB _ _ (s3 _ _ hl2)) upd_same ((t2.mono (Tk.same s3)).mono (Tk.same sB)) (.cons ((Tp.mk hp3 (.cons (.str _) (.cons (.int _) (.cons (.int _) (.cons (.int _) .nil))))).mono (Tk.new hp4)) .nil) (by simp [Sm.code_len]; omega) fun r4 ws4 H4 hr4 hl4 t4 s4 => ?_
  have s34 := sB.trans s4
  refine ⟨_, rfl, cat_new (K := K) hl4 (s34 _ _ hl3) t4 (t3.mono (Tk.same s34)) (by simp [Sm.code_len]; omega) fun r5 ws5 H5 hr5 hl5 t5 s5 => ?_⟩
  refine ⟨(by show 1 ≤ sizeLine; decide), fun p5 hp5 => ⟨(by show 1 ≤ sizeLine; decide), fun p6 hp6 => ?_⟩⟩
  have sC : Same H5 (L2.upd (L2.upd H5 p5 (.tup [.str "resume"])) p6 (.lst [.ref p5])) := (Same.new hp5).trans (Same.new hp6)
  refine cat_new (K := K) (es := [Rw.resume.d]) (sC _ _ hl5) upd_same (t5.mono (Tk.same sC)) (.cons ((Tp.mk hp5 (.cons (.str _) .nil)).mono (Tk.new hp6)) .nil) (by simp [Sm.code_len]; omega) ?_
  have eX : base + ws2.length = base + s.len + 1 := by omega
  rw [eX, show (s.code base D (tnOf tn)).map Rw.d ++ [Rw.mend.d] ++ [(Rw.cup base (base + s.len + 1) D).d] ++ (c.code (base + s.len + 2) (D + 1) (tnOf tn)).map Rw.d ++ [Rw.resume.d] = ((Sm.cln s c).code base D (tnOf tn)).map Rw.d by simp [Sm.code]]
  exact q.mono ((((s12.trans s3).trans s34).trans s5).trans sC)
abbrev N_law_try_code : List Str := ["_law_one", "_law_base", "_law_depth", "_law_turn", "_law_inner", "_law_end", "_law_rows", "_law_handler_here", "_law_leave", "_law_row"]
theorem rd_try_code {n : Nat} (vs : List V) (H : Hp) (Q : VK) (E : XK) (h : spTryCode (K := K) n vs H Q E) : t_law_try_code K (spCode (K := K) n) { nx := fun _ H' => Q .non H', rt := Q } (start N_law_try_code vs) H := by
  obtain ⟨v, tv, s, hs, base, D, tn, rfl, ht, htn, ok, q⟩ := h
  obtain ⟨cs, nk, hand, ws, wh⟩ := ok.wf
  have hd : max s.dep hs.dep + 1 ≤ n + 1 := ok.dep
  have hl : s.len + 1 + hs.len ≤ 100000 := ok.len
  have b0 := ok.b0
  obtain ⟨a, x0, x1, x2, rfl, hT, h0, h1, h2⟩ := ht.tup3
  obtain ⟨ah, hxs, rfl, hTh, hth⟩ := h2.tupE
  refine rd_ixT (j := 1) rfl hT rfl ⟨_, rfl, _, rfl, _, rfl, ?_⟩
  refine ⟨x1, tv, s, base, D, tn, rfl, h1, htn, ⟨⟨cs, nk, hand, ws⟩, by omega, by omega, b0, ok.tn0⟩, fun r1 us H1 hr1 hl1 t1 s1 => ?_⟩
  have lu : (us.length : Int) = s.len := by rw [t1.length, List.length_map, Sm.code_len]
  refine ⟨_, rfl, _, rfl, r1, us, rfl, .inl (SqL.of hl1), _, _, rfl, rfl, _, rfl, _, rfl, (by show 2 ≤ sizeLine; decide), fun p1 hp1 => ⟨(by show 1 ≤ sizeLine; decide), fun p2 hp2 => ?_⟩⟩
  have sA : Same H1 (L2.upd (L2.upd H1 p1 (.tup [.str "go", .int (-1)])) p2 (.lst [.ref p1])) := (Same.new hp1).trans (Same.new hp2)
  refine cat_new (K := K) (es := [(Rw.go (-1)).d]) (sA _ _ hl1) upd_same (t1.mono (Tk.same sA)) (.cons ((Tp.mk hp1 (.cons (.str _) (.cons (.int _) .nil))).mono (Tk.new hp2)) .nil) (by simp [Sm.code_len]; omega) fun r2 ws2 H2 hr2 hl2 t2 s2 => ?_
  have s12 := (s1.trans sA).trans s2
  have eX : base + us.length = base + s.len := by omega
  -- the handlers, one by one
  refine rd_ixT (j := 2) rfl (s12.sqT hT) rfl ⟨ah, rfl, ⟨_, s12.sqT hTh⟩, for_tup (K := K) (a := ah) (xs := hxs) (fun i σ H' => ∃ (r : Hds) (pre : List Rw) (rr : Addr) (rv : List V) (v7 : Option V),
      σ = [some (.ref a), some (.int base), some (.int D), some tv, some (.ref r1), some (.int (base + us.length)), some (.ref rr), v7, none, none] ∧ Same H H' ∧ H' rr = some (.lst rv) ∧ TpAll K H' rv (((s.code base D (tnOf tn)) ++ [Rw.go (-1)] ++ pre).map Rw.d) ∧
      TpAll K H' (hxs.drop i) r.ds ∧ r.Wf cs nk tn.isSome ∧ r.dep ≤ n ∧ pre.length + r.len = hs.len ∧ pre ++ r.code base (base + s.len) (-1) (base + s.len + 1 + pre.length) D (tnOf tn) = hs.code base (base + s.len) (-1) (base + s.len + 1) D (tnOf tn))
    ⟨hs, [], r2, ws2, none, rfl, s12, hl2, by rw [List.append_nil, List.map_append]; exact t2, by rw [List.drop_zero]; exact hth.mono (Tk.same s12), wh, by omega, by simp, by simp⟩ (fun i σ H' _ ⟨_, _, _, _, _, _, s', _⟩ => s'.sqT hTh) ?_ ?_⟩
  · rintro i x σ H3 hx ⟨r, pre, rr, rv, v7, rfl, s3, hrr, trv, tr, wr, dr, lr, er⟩
    obtain ⟨k, sl, t, r', rfl, tx, tr'⟩ := hds_at tr hx
    obtain ⟨ax, y0, y1, y2, rfl, hTx, k0, k1, k2⟩ := tx.tup3
    cases k1.intE
    obtain ⟨wk, wsl, wt, wr'⟩ : (∀ j, k = some j → j < nk) ∧ sl < 8 ∧ t.Wf cs nk tn.isSome true ∧ r'.Wf cs nk tn.isSome := wr
    have dr2 : max t.dep r'.dep ≤ n := dr
    have lr2 : pre.length + (2 + t.len + 2 + r'.len) = hs.len := lr
    have lrv : (rv.length : Int) = s.len + 1 + pre.length := by rw [trv.length]; simp [Sm.code_len]; omega
    -- the two rows ahead
    refine ⟨_, rfl, _, rfl, _, rfl, rd_ixT (j := 0) rfl hTx rfl ⟨_, rfl, (by show 5 ≤ sizeLine; decide), fun p3 hp3 => ?_⟩⟩
    have sx1 : Same H3 (L2.upd H3 p3 (.tup [.str "handler", .int base, .int (base + us.length), y0, .int D])) := Same.new hp3
    refine rd_ixT (j := 1) rfl (sx1.sqT hTx) rfl ⟨(by show 2 ≤ sizeLine; decide), fun p4 hp4 => ⟨(by show 2 ≤ sizeLine; decide), fun p5 hp5 => ?_⟩⟩
    have sB : Same H3 (L2.upd (L2.upd (L2.upd H3 p3 (.tup [.str "handler", .int base, .int (base + us.length), y0, .int D])) p4 (.tup [.str "set", .int (sl : Int)])) p5 (.lst [.ref p3, .ref p4])) := (sx1.trans (Same.new hp4)).trans (Same.new hp5)
    have tB : TpAll K (L2.upd (L2.upd (L2.upd H3 p3 (.tup [.str "handler", .int base, .int (base + us.length), y0, .int D])) p4 (.tup [.str "set", .int (sl : Int)])) p5 (.lst [.ref p3, .ref p4])) [.ref p3, .ref p4] [(Rw.hand base (base + s.len) k D).d, (Rw.set sl).d] := by
      rw [← eX]
      exact .cons (((Tp.mk hp3 (.cons (.str _) (.cons (.int _) (.cons (.int _) (.cons k0 (.cons (.int _) .nil)))))).mono (Tk.new hp4)).mono (Tk.new hp5)) (.cons ((Tp.mk hp4 (.cons (.str _) (.cons (.int _) .nil))).mono (Tk.new hp5)) .nil)
    refine cat_new (K := K) (sB _ _ hrr) upd_same (trv.mono (Tk.same sB)) tB (by simp [Sm.code_len]; omega) fun r4 ws4 H4 hr4 hl4 t4 s4 => ?_
    have s34 := sB.trans s4
    have l4 : (ws4.length : Int) = s.len + 1 + pre.length + 2 := by rw [t4.length]; simp [Sm.code_len]; omega
    -- the handler's own
    refine ⟨_, rfl, rd_ixT (j := 2) rfl (s34.sqT hTx) rfl ⟨_, rfl, _, rfl, r4, ws4, rfl, .inl (SqL.of hl4), _, _, rfl, rfl, _, rfl, _, _, rfl, rfl, _, rfl, ?_⟩⟩
    have eB : base + ws4.length = base + s.len + 1 + pre.length + 2 := by omega
    refine ⟨y2, tv, t, base + ws4.length, D + 1, tn, rfl, k2.mono (Tk.same s34), htn.mono (Tk.same (s3.trans s34)), ⟨⟨cs, nk, true, wt⟩, by omega, by omega, by omega, ok.tn0⟩, fun r5 ws5 H5 hr5 hl5 t5 s5 => ?_⟩
    rw [eB] at t5
    refine cat_new (K := K) (s5 _ _ hl4) hl5 (t4.mono (Tk.same s5)) t5 (by simp [Sm.code_len]; omega) fun r6 ws6 H6 hr6 hl6 t6 s6 => ?_
    refine ⟨_, rfl, (by show 1 ≤ sizeLine; decide), fun p6 hp6 => ⟨_, rfl, (by show 2 ≤ sizeLine; decide), fun p7 hp7 => ⟨(by show 2 ≤ sizeLine; decide), fun p8 hp8 => ?_⟩⟩⟩
    have sC : Same H6 (L2.upd (L2.upd (L2.upd H6 p6 (.tup [.str "settled"])) p7 (.tup [.str "go", .int (-1)])) p8 (.lst [.ref p6, .ref p7])) := ((Same.new hp6).trans (Same.new hp7)).trans (Same.new hp8)
    have tC : TpAll K (L2.upd (L2.upd (L2.upd H6 p6 (.tup [.str "settled"])) p7 (.tup [.str "go", .int (-1)])) p8 (.lst [.ref p6, .ref p7])) [.ref p6, .ref p7] [Rw.settled.d, (Rw.go (-1)).d] :=
      .cons (((Tp.mk hp6 (.cons (.str _) .nil)).mono (Tk.new hp7)).mono (Tk.new hp8)) (.cons ((Tp.mk hp7 (.cons (.str _) (.cons (.int _) .nil))).mono (Tk.new hp8)) .nil)
    refine cat_new (K := K) (sC _ _ hl6) upd_same (t6.mono (Tk.same sC)) tC (by simp [Sm.code_len]; omega) fun r7 ws7 H7 hr7 hl7 t7 s7 => ?_
    have sZ := (((s34.trans s5).trans s6).trans sC).trans s7
    refine ⟨r', pre ++ ([Rw.hand base (base + s.len) k D, Rw.set sl] ++ t.code (base + s.len + 1 + pre.length + 2) (D + 1) (tnOf tn) ++ [Rw.settled, Rw.go (-1)]), r7, ws7, _, rfl, s3.trans sZ, hl7, ?_, tr'.mono (Tk.same sZ), wr', by omega, by simp [Sm.code_len]; omega, ?_⟩
    · rw [show ((s.code base D (tnOf tn)) ++ [Rw.go (-1)] ++ (pre ++ ([Rw.hand base (base + s.len) k D, Rw.set sl] ++ t.code (base + s.len + 1 + pre.length + 2) (D + 1) (tnOf tn) ++ [Rw.settled, Rw.go (-1)]))).map Rw.d = ((s.code base D (tnOf tn)) ++ [Rw.go (-1)] ++ pre).map Rw.d ++ [(Rw.hand base (base + s.len) k D).d, (Rw.set sl).d] ++ (t.code (base + s.len + 1 + pre.length + 2) (D + 1) (tnOf tn)).map Rw.d ++ [Rw.settled.d, (Rw.go (-1)).d] by simp]
      exact t7
    · rw [← er]
      have e9 : base + s.len + 1 + ((pre ++ ([Rw.hand base (base + s.len) k D, Rw.set sl] ++ t.code (base + s.len + 1 + pre.length + 2) (D + 1) (tnOf tn) ++ [Rw.settled, Rw.go (-1)])).length : Int) = base + s.len + 1 + pre.length + 2 + t.len + 2 := by simp [Sm.code_len]; omega
      rw [e9]
      simp [Hds.code]
  · rintro σ H3 ⟨r, pre, rr, rv, v7, rfl, s3, hrr, trv, tr, wr, dr, lr, er⟩
    cases hds_end tr
    have er' : pre = hs.code base (base + s.len) (-1) (base + s.len + 1) D (tnOf tn) := by simpa [Hds.code] using er
    have lr' : pre.length = hs.len := by simpa [Hds.len] using lr
    have lrv : (rv.length : Int) = s.len + 1 + hs.len := by rw [trv.length]; simp [Sm.code_len]; omega
    refine ⟨_, rfl, _, rfl, rr, rv, rfl, .inl (SqL.of hrr), _, _, rfl, rfl, ?_⟩
    have eZ : base + rv.length = base + s.len + 1 + hs.len := by omega
    refine ⟨_, rfl, rr, rfl, ⟨_, SqL.of hrr⟩, fun L hL => ?_⟩
    have hfill : ((s.code base D (tnOf tn)) ++ [Rw.go (-1)] ++ pre).map (subG (base + s.len + 1 + hs.len)) = (Sm.tri s hs).code base D (tnOf tn) := by
      rw [er', List.map_append, List.map_append, Sm.subG s _ _ _ b0, Hds.fill hs _ _ _ _ _ (by omega)]
      rw [show [Rw.go (-1)].map (subG (base + s.len + 1 + hs.len)) = [.go (base + s.len + 1 + hs.len)] from congrArg (fun z => [z]) (if_pos rfl)]
      simp [Sm.code]
    refine lc_same (K := K) (es := ((Sm.tri s hs).code base D (tnOf tn)).map Rw.d) (SqL.of hrr) trv (by simp [Sm.code_len, Sm.len]; omega) hL (by simp [Sm.code_len]; omega) ?hw ?_ ?_
    case hw => exact fun _ => rfl
    · intro i x d f H4 hd hf s4 tx Q' q'
      rw [List.getElem?_map] at hd hf
      rw [← hfill, List.getElem?_map] at hf
      cases er2 : ((s.code base D (tnOf tn)) ++ [Rw.go (-1)] ++ pre)[i]? with
      | none => rw [er2] at hd; cases hd
      | some rw_ =>
        rw [er2] at hd hf
        obtain rfl : rw_.d = d := Option.some.inj hd
        obtain rfl : (subG (base + s.len + 1 + hs.len) rw_).d = f := Option.some.inj hf
        refine pick_row (r := rw_) (r' := .go (base + s.len + 1 + hs.len)) (mk := .go (-1)) rfl tx ?_ ?_ (Rw.eqv_go _ _) q'
        · intro H5 Q2 s5 k
          refine ⟨_, rfl, (by show 2 ≤ sizeLine; decide), fun p3 hp3 => k p3 _ (Same.new hp3) ?_⟩
          rw [← eZ]
          exact Tp.mk hp3 (.cons (.str _) (.cons (.int _) .nil))
        · intro H5 Q2 s5 k
          exact ⟨_, rfl, (by show 2 ≤ sizeLine; decide), fun p3 hp3 => k p3 _ (Same.new hp3) (Tp.mk hp3 (.cons (.str _) (.cons (.int _) .nil)))⟩
    · intro zs H4 hL4 tz s4
      exact q L zs H4 ((s3.free hL)) hL4 tz (s3.trans s4)
abbrev N_law_plain_code : List Str := ["_law_one", "_law_turn", "_law_word", "_law_rows", "_law_part_here"]
/-- an expression's rows, and one more -/
theorem part_and {σ : L2.St} {H : Hp} {Q2 : VK} {e : Ex} {x : V} {r : Rw} {te tr : TE} (te_ : ∀ Q' : VK, Q' x H → te σ H Q') (tx : Tp K H x e.d) (de : e.dep ≤ 5) (hl : e.len ≤ 100000)
    (tr_ : ∀ (H1 : Hp) (Q' : VK), Same H H1 → (∀ p H2, Same H1 H2 → Tp K H2 (.ref p) r.d → Q' (.ref p) H2) → tr σ H1 Q') (q : NewL K H Q2 (e.code.map Rw.d ++ [r.d])) :
    tOp rCat (tCall (spPartCode K 6) [] E0 (tCons te tNil)) (tLst (tCons tr tNil)) σ H Q2 := by
  refine te_ _ ⟨x, e, rfl, tx, by omega, by omega, fun r1 us H1 hr1 hl1 t1 s1 => ?_⟩
  refine tr_ H1 _ s1 fun p H2 s2 tp => ⟨(by show 1 ≤ sizeLine; decide), fun p2 hp2 => ?_⟩
  have s3 : Same H1 (L2.upd H2 p2 (.lst [.ref p])) := s2.trans (Same.new hp2)
  exact cat_new (K := K) (s3 _ _ hl1) upd_same (t1.mono (Tk.same s3)) (.cons (tp.mono (Tk.new hp2)) .nil) (by simp [Ex.code_len]; omega) (q.mono (s1.trans s3))
theorem rd_plain_code (vs : List V) (H : Hp) (Q : VK) (E : XK) (h : spPlainCode (K := K) vs H Q E) : t_law_plain_code K (spPartCode K 6) { nx := fun _ H' => Q .non H', rt := Q } (start N_law_plain_code vs) H := by
  obtain ⟨v, tv, s, n, base, D, tn, rfl, ht, htn, pl, ok, q⟩ := h
  obtain ⟨cs, nk, hand, ws⟩ := ok.wf
  have hl := ok.len
  cases s with
  | row _ => cases pl
  | ife _ _ _ => cases pl
  | whl _ _ => cases pl
  | tri _ _ => cases pl
  | cln _ _ => cases pl
  | brk =>
    obtain ⟨a, x0, rfl, hT, h0⟩ := ht.tup1
    cases h0.strE
    cases tn with
    | none => exact absurd ws (by simp [Sm.Wf])
    | some t =>
      obtain ⟨c, y0, y1, y2, rfl, hTc, k0, k1, k2⟩ := htn.tup3
      cases k0.intE; cases k1.intE; cases k2.intE
      refine rd_ixT (j := 0) rfl hT rfl ?_
      refine r_ifT (pb_is (pb_eqS rfl) rfl) ?_
      refine rd_ixT (j := 1) rfl hTc rfl (rd_ixT (j := 2) rfl hTc rfl ⟨(by show 3 ≤ sizeLine; decide), fun p hp => ⟨(by show 1 ≤ sizeLine; decide), fun p2 hp2 => ?_⟩⟩)
      exact q p2 _ _ ((Same.new hp).free hp2) upd_same (.cons ((Tp.mk hp (.cons (.str _) (.cons (.int _) (.cons (.int _) .nil)))).mono (Tk.new hp2)) .nil) ((Same.new hp).trans (Same.new hp2))
  | cnt =>
    obtain ⟨a, x0, rfl, hT, h0⟩ := ht.tup1
    cases h0.strE
    cases tn with
    | none => exact absurd ws (by simp [Sm.Wf])
    | some t =>
      obtain ⟨c, y0, y1, y2, rfl, hTc, k0, k1, k2⟩ := htn.tup3
      cases k0.intE; cases k1.intE; cases k2.intE
      refine rd_ixT (j := 0) rfl hT rfl (r_ifF (pb_is (pb_eqS rfl) rfl) (r_ifT (pb_is (pb_eqS rfl) rfl) ?_))
      refine rd_ixT (j := 0) rfl hTc rfl (rd_ixT (j := 2) rfl hTc rfl ⟨(by show 3 ≤ sizeLine; decide), fun p hp => ⟨(by show 1 ≤ sizeLine; decide), fun p2 hp2 => ?_⟩⟩)
      exact q p2 _ _ ((Same.new hp).free hp2) upd_same (.cons ((Tp.mk hp (.cons (.str _) (.cons (.int _) (.cons (.int _) .nil)))).mono (Tk.new hp2)) .nil) ((Same.new hp).trans (Same.new hp2))
  | again =>
    obtain ⟨a, x0, rfl, hT, h0⟩ := id ht.tup1
    cases h0.strE
    refine rd_ixT (j := 0) rfl hT rfl (r_ifF (pb_is (pb_eqS rfl) rfl) (r_ifF (pb_is (pb_eqS rfl) rfl) (r_ifT (pb_is (pb_eqS rfl) rfl) ?_)))
    refine ⟨_, rfl, (by show 1 ≤ sizeLine; decide), fun p hp => ?_⟩
    exact q p _ _ hp upd_same (.cons (ht.mono (Tk.new hp)) .nil) (Same.new hp)
  | set k e =>
    obtain ⟨a, x0, x1, x2, rfl, hT, h0, h1, h2⟩ := ht.tup3
    cases h0.strE; cases h1.intE
    have hl' : e.len + 1 ≤ 100000 := hl
    refine rd_ixT (j := 0) rfl hT rfl (r_ifF (pb_is (pb_eqS rfl) rfl) (r_ifF (pb_is (pb_eqS rfl) rfl) (r_ifF (pb_is (pb_eqS rfl) rfl) (r_ifT (pb_is (pb_eqS rfl) rfl) ?_))))
    refine part_and (e := e) (x := x2) (r := .set k) (fun Q' q' => rd_ixT (j := 2) rfl hT rfl q') h2 ws.2.2 (by omega) (fun H1 Q' s1 k1 => rd_ixT (j := 1) rfl (s1.sqT hT) rfl ⟨(by show 2 ≤ sizeLine; decide), fun p hp => k1 p _ (Same.new hp) (Tp.mk hp (.cons (.str _) (.cons (.int _) .nil)))⟩) ?_
    rw [show e.code.map Rw.d ++ [(Rw.set k).d] = ((Sm.set k e).code base D (tnOf tn)).map Rw.d by simp [Sm.code]]
    exact q
  | rais kd e m =>
    obtain ⟨a, x0, x1, x2, x3, rfl, hT, h0, h1, h2, h3⟩ := ht.tup4
    cases h0.strE; cases h1.intE; cases h3.intE
    have hl' : e.len + 1 ≤ 100000 := hl
    refine rd_ixT (j := 0) rfl hT rfl (r_ifF (pb_is (pb_eqS rfl) rfl) (r_ifF (pb_is (pb_eqS rfl) rfl) (r_ifF (pb_is (pb_eqS rfl) rfl) (r_ifF (pb_is (pb_eqS rfl) rfl) (r_ifT (pb_is (pb_eqS rfl) rfl) ?_)))))
    refine part_and (e := e) (x := x2) (r := .rais kd m) (fun Q' q' => rd_ixT (j := 2) rfl hT rfl q') h2 ws.2.1.2 (by omega) (fun H1 Q' s1 k1 => rd_ixT (j := 1) rfl (s1.sqT hT) rfl (rd_ixT (j := 3) rfl (s1.sqT hT) rfl ⟨(by show 3 ≤ sizeLine; decide), fun p hp => k1 p _ (Same.new hp) (Tp.mk hp (.cons (.str _) (.cons (.int _) (.cons (.int _) .nil))))⟩)) ?_
    rw [show e.code.map Rw.d ++ [(Rw.rais kd m).d] = ((Sm.rais kd e m).code base D (tnOf tn)).map Rw.d by simp [Sm.code]]
    exact q
  | say e =>
    obtain ⟨a, x0, x1, rfl, hT, h0, h1⟩ := ht.tup2
    cases h0.strE
    have hl' : e.len + 1 ≤ 100000 := hl
    refine rd_ixT (j := 0) rfl hT rfl (r_ifF (pb_is (pb_eqS rfl) rfl) (r_ifF (pb_is (pb_eqS rfl) rfl) (r_ifF (pb_is (pb_eqS rfl) rfl) (r_ifF (pb_is (pb_eqS rfl) rfl) (r_ifF (pb_is (pb_eqS rfl) rfl) (r_ifF (pb_is (pb_eqS rfl) rfl) ?_))))))
    refine part_and (e := e) (x := x1) (r := .say) (fun Q' q' => rd_ixT (j := 1) rfl hT rfl q') h1 ws.2 (by omega) (fun H1 Q' s1 k1 => ⟨_, rfl, (by show 1 ≤ sizeLine; decide), fun p hp => k1 p _ (Same.new hp) (Tp.mk hp (.cons (.str _) .nil))⟩) ?_
    rw [show e.code.map Rw.d ++ [Rw.say.d] = ((Sm.say e).code base D (tnOf tn)).map Rw.d by simp [Sm.code]]
    exact q
  | ret e =>
    obtain ⟨a, x0, x1, rfl, hT, h0, h1⟩ := ht.tup2
    cases h0.strE
    have hl' : e.len + 1 ≤ 100000 := hl
    refine rd_ixT (j := 0) rfl hT rfl (r_ifF (pb_is (pb_eqS rfl) rfl) (r_ifF (pb_is (pb_eqS rfl) rfl) (r_ifF (pb_is (pb_eqS rfl) rfl) (r_ifF (pb_is (pb_eqS rfl) rfl) (r_ifF (pb_is (pb_eqS rfl) rfl) (r_ifF (pb_is (pb_eqS rfl) rfl) ?_))))))
    refine part_and (e := e) (x := x1) (r := .ret) (fun Q' q' => rd_ixT (j := 1) rfl hT rfl q') h1 ws.2 (by omega) (fun H1 Q' s1 k1 => ⟨_, rfl, (by show 1 ≤ sizeLine; decide), fun p hp => k1 p _ (Same.new hp) (Tp.mk hp (.cons (.str _) .nil))⟩) ?_
    rw [show e.code.map Rw.d ++ [Rw.ret.d] = ((Sm.ret e).code base D (tnOf tn)).map Rw.d by simp [Sm.code]]
    exact q
  | call k f ps m =>
    obtain ⟨a, x0, x1, x2, x3, x4, rfl, hT, h0, h1, h2, h3, h4⟩ := ht.tup5
    cases h0.strE; cases h1.intE; cases h2.intE; cases h4.intE
    obtain ⟨pa, pxs, rfl, hTp, htp⟩ := h3.tupE
    have hl' : exsLen ps + 2 ≤ 100000 := hl
    obtain ⟨_, _, _, wps, _⟩ := ws
    refine rd_ixT (j := 0) rfl hT rfl (r_ifF (pb_is (pb_eqS rfl) rfl) (r_ifF (pb_is (pb_eqS rfl) rfl) (r_ifF (pb_is (pb_eqS rfl) rfl) (r_ifF (pb_is (pb_eqS rfl) rfl) (r_ifF (pb_is (pb_eqS rfl) rfl) (r_ifT (pb_is (pb_eqS rfl) rfl) ?_))))))
    refine ⟨(by show 0 ≤ sizeLine; decide), fun p hp => ?_⟩
    have s0 : Same H (L2.upd H p (.lst [])) := Same.new hp
    refine rd_ixT (j := 3) rfl (s0.sqT hT) rfl ⟨pa, rfl, ⟨_, s0.sqT hTp⟩, for_tup (K := K) (a := pa) (xs := pxs) (fun i σ H' => ∃ (r : List Ex) (pre : List Rw) (rr : Addr) (rv : List V) (v4 : Option V),
        σ = [some (.ref a), some tv, some (.str "call"), some (.ref rr), v4] ∧ Same H H' ∧ H' rr = some (.lst rv) ∧ TpAll K H' rv (pre.map Rw.d) ∧ TpAll K H' (pxs.drop i) (r.map Ex.d) ∧ (∀ e ∈ r, e.dep ≤ 5) ∧ pre.length + exsLen r = exsLen ps ∧ pre ++ exsCode r = exsCode ps)
      ⟨ps, [], p, [], none, rfl, s0, upd_same, .nil, by rw [List.drop_zero]; exact htp.mono (Tk.same s0), fun e he => (wps e he).2, by simp, by simp⟩ (fun i σ H' _ ⟨_, _, _, _, _, _, s', _⟩ => s'.sqT hTp) ?_ ?_⟩
    · rintro i x σ H3 hx ⟨r, pre, rr, rv, v4, rfl, s3, hrr, trv, tr, dr, lr, er⟩
      obtain ⟨e, r', rfl, tx, tr'⟩ := exs_at tr hx
      have lr2 : pre.length + (e.len + exsLen r') = exsLen ps := lr
      refine ⟨_, rfl, _, rfl, x, e, rfl, tx, by have := dr e List.mem_cons_self; omega, by omega, fun r1 us H4 hr1 hl1 t1 s4 => ?_⟩
      refine cat_new (K := K) (s4 _ _ hrr) hl1 (trv.mono (Tk.same s4)) t1 (by simp [Ex.code_len]; omega) fun r2 us2 H5 hr2 hl2 t2 s5 => ?_
      have sZ := s4.trans s5
      exact ⟨r', pre ++ e.code, r2, us2, _, rfl, s3.trans sZ, hl2, by rw [List.map_append]; exact t2, tr'.mono (Tk.same sZ), fun z hz => dr z (List.mem_cons_of_mem _ hz), by simp [Ex.code_len]; omega, by rw [← er]; simp [exsCode]⟩
    · rintro σ H3 ⟨r, pre, rr, rv, v4, rfl, s3, hrr, trv, tr, dr, lr, er⟩
      cases exs_end tr
      have er' : pre = exsCode ps := by simpa [exsCode] using er
      have lp : pxs.length = ps.length := by have := htp.length; rw [List.length_map] at this; exact this
      refine ⟨_, rfl, rd_ixT (j := 2) rfl (s3.sqT hT) rfl (rd_ixT (j := 3) rfl (s3.sqT hT) rfl ⟨pa, pxs, rfl, .inr (s3.sqT hTp), rd_ixT (j := 4) rfl (s3.sqT hT) rfl ⟨(by show 4 ≤ sizeLine; decide), fun p1 hp1 => ?_⟩⟩)⟩
      have s4 : Same H3 (L2.upd H3 p1 (.tup [.str "call", .int (f : Int), .int (pxs.length : Int), .int m])) := Same.new hp1
      refine rd_ixT (j := 1) rfl ((s3.trans s4).sqT hT) rfl ⟨(by show 2 ≤ sizeLine; decide), fun p2 hp2 => ⟨(by show 2 ≤ sizeLine; decide), fun p3 hp3 => ?_⟩⟩
      have s5 : Same H3 (L2.upd (L2.upd (L2.upd H3 p1 (.tup [.str "call", .int (f : Int), .int (pxs.length : Int), .int m])) p2 (.tup [.str "set", .int (k : Int)])) p3 (.lst [.ref p1, .ref p2])) := (s4.trans (Same.new hp2)).trans (Same.new hp3)
      refine cat_new (K := K) (ds := (exsCode ps).map Rw.d) (es := [(Rw.call f ps.length m).d, (Rw.set k).d]) (s5 _ _ hrr) upd_same (by rw [← er']; exact trv.mono (Tk.same s5)) (.cons ?_ (.cons ?_ .nil)) (by simp [exsCode_len]; omega) ?_
      · rw [← lp]
        exact ((Tp.mk hp1 (.cons (.str _) (.cons (.int _) (.cons (.int _) (.cons (.int _) .nil))))).mono (Tk.new hp2)).mono (Tk.new hp3)
      · exact (Tp.mk hp2 (.cons (.str _) (.cons (.int _) .nil))).mono (Tk.new hp3)
      · rw [show (exsCode ps).map Rw.d ++ [(Rw.call f ps.length m).d, (Rw.set k).d] = ((Sm.call k f ps m).code base D (tnOf tn)).map Rw.d by simp [Sm.code]]
        exact q.mono (s3.trans s5)
abbrev N_law_code : List Str := ["_law_one", "_law_base", "_law_depth", "_law_turn", "_law_word", "_law_rows", "_law_part_here"]
theorem rd_code {n : Nat} (vs : List V) (H : Hp) (Q : VK) (E : XK) (h : spCode (K := K) (n + 1) vs H Q E) : t_law_code K (spCode (K := K) n) (spIfCode (K := K) n) (spLoopCode (K := K) n) (spTryCode (K := K) n) (spCleanCode (K := K) n) (spPlainCode (K := K)) { nx := fun _ H' => Q .non H', rt := Q } (start N_law_code vs) H := by
  obtain ⟨v, tv, s, base, D, tn, rfl, ht, htn, ok, q⟩ := h
  have word : ∀ (a : Addr) (xs : List V) (w : Str), v = .ref a → SqT K H a xs → xs[0]? = some (.str w) → (V.str w ≠ .str "row" ∧ V.str w ≠ .str "if" ∧ V.str w ≠ .str "while" ∧ V.str w ≠ .str "try" ∧ V.str w ≠ .str "clean") → s.plain = true → t_law_code K (spCode (K := K) n) (spIfCode (K := K) n) (spLoopCode (K := K) n) (spTryCode (K := K) n) (spCleanCode (K := K) n) (spPlainCode (K := K)) { nx := fun _ H' => Q .non H', rt := Q } (start N_law_code [v, .int base, .int D, tv]) H := by
    rintro a xs w rfl hT hw ⟨n1, n2, n3, n4, n5⟩ pl
    refine rd_ixT (j := 0) rfl hT hw (r_ifF (pb_is (pb_eqS rfl) (dF n1)) (r_ifF (pb_is (pb_eqS rfl) (dF n2)) (r_ifF (pb_is (pb_eqS rfl) (dF n3)) (r_ifF (pb_is (pb_eqS rfl) (dF n4)) (r_ifF (pb_is (pb_eqS rfl) (dF n5)) ?_)))))
    exact ⟨_, rfl, _, rfl, _, tv, s, n + 1, base, D, tn, rfl, ht, htn, pl, ok, q⟩
  cases s with
  | say e =>
    obtain ⟨a, x0, x1, rfl, hT, h0, h1⟩ := id ht.tup2
    cases h0.strE
    exact word a _ "say" rfl hT rfl (by decide) rfl
  | set k e =>
    obtain ⟨a, x0, x1, x2, rfl, hT, h0, h1, h2⟩ := id ht.tup3
    cases h0.strE
    exact word a _ "set" rfl hT rfl (by decide) rfl
  | brk =>
    obtain ⟨a, x0, rfl, hT, h0⟩ := id ht.tup1
    cases h0.strE
    exact word a _ "break" rfl hT rfl (by decide) rfl
  | cnt =>
    obtain ⟨a, x0, rfl, hT, h0⟩ := id ht.tup1
    cases h0.strE
    exact word a _ "continue" rfl hT rfl (by decide) rfl
  | again =>
    obtain ⟨a, x0, rfl, hT, h0⟩ := id ht.tup1
    cases h0.strE
    exact word a _ "again" rfl hT rfl (by decide) rfl
  | ret e =>
    obtain ⟨a, x0, x1, rfl, hT, h0, h1⟩ := id ht.tup2
    cases h0.strE
    exact word a _ "return" rfl hT rfl (by decide) rfl
  | call k f ps m =>
    obtain ⟨a, x0, x1, x2, x3, x4, rfl, hT, h0, h1, h2, h3, h4⟩ := id ht.tup5
    cases h0.strE
    exact word a _ "call" rfl hT rfl (by decide) rfl
  | rais kd e m =>
    obtain ⟨a, x0, x1, x2, x3, rfl, hT, h0, h1, h2, h3⟩ := id ht.tup4
    cases h0.strE
    exact word a _ "raise" rfl hT rfl (by decide) rfl
  | ife e s t =>
    obtain ⟨a, x0, x1, x2, x3, rfl, hT, h0, h1, h2, h3⟩ := id ht.tup4
    cases h0.strE
    refine rd_ixT (j := 0) rfl hT rfl (r_ifF (pb_is (pb_eqS rfl) rfl) (r_ifT (pb_is (pb_eqS rfl) rfl) ?_))
    exact ⟨_, rfl, _, rfl, _, rfl, _, rfl, _, tv, e, s, t, base, D, tn, rfl, ht, htn, ok, q⟩
  | whl e s =>
    obtain ⟨a, x0, x1, x2, rfl, hT, h0, h1, h2⟩ := id ht.tup3
    cases h0.strE
    refine rd_ixT (j := 0) rfl hT rfl (r_ifF (pb_is (pb_eqS rfl) rfl) (r_ifF (pb_is (pb_eqS rfl) rfl) (r_ifT (pb_is (pb_eqS rfl) rfl) ?_)))
    exact ⟨_, rfl, _, rfl, _, rfl, _, e, s, base, D, tn, rfl, ht, ok, q⟩
  | tri s hs =>
    obtain ⟨a, x0, x1, x2, rfl, hT, h0, h1, h2⟩ := id ht.tup3
    cases h0.strE
    refine rd_ixT (j := 0) rfl hT rfl (r_ifF (pb_is (pb_eqS rfl) rfl) (r_ifF (pb_is (pb_eqS rfl) rfl) (r_ifF (pb_is (pb_eqS rfl) rfl) (r_ifT (pb_is (pb_eqS rfl) rfl) ?_))))
    exact ⟨_, rfl, _, rfl, _, rfl, _, rfl, _, tv, s, hs, base, D, tn, rfl, ht, htn, ok, q⟩
  | cln s c =>
    obtain ⟨a, x0, x1, x2, rfl, hT, h0, h1, h2⟩ := id ht.tup3
    cases h0.strE
    refine rd_ixT (j := 0) rfl hT rfl (r_ifF (pb_is (pb_eqS rfl) rfl) (r_ifF (pb_is (pb_eqS rfl) rfl) (r_ifF (pb_is (pb_eqS rfl) rfl) (r_ifF (pb_is (pb_eqS rfl) rfl) (r_ifT (pb_is (pb_eqS rfl) rfl) ?_)))))
    exact ⟨_, rfl, _, rfl, _, rfl, _, rfl, _, tv, s, c, base, D, tn, rfl, ht, htn, ok, q⟩
  | row ps =>
    obtain ⟨a, x0, x1, rfl, hT, h0, h1⟩ := id ht.tup2
    cases h0.strE
    obtain ⟨pa, pxs, rfl, hTp, htp⟩ := h1.tupE
    obtain ⟨cs, nk, hand, ws⟩ := ok.wf
    have hd : ps.dep + 1 ≤ n + 1 := ok.dep
    have hl : ps.len ≤ 100000 := ok.len
    have b0 := ok.b0
    refine rd_ixT (j := 0) rfl hT rfl (r_ifT (pb_is (pb_eqS rfl) rfl) ⟨(by show 0 ≤ sizeLine; decide), fun p hp => ?_⟩)
    have s0 : Same H (L2.upd H p (.lst [])) := Same.new hp
    refine rd_ixT (j := 1) rfl (s0.sqT hT) rfl ⟨pa, rfl, ⟨_, s0.sqT hTp⟩, for_tup (K := K) (a := pa) (xs := pxs) (fun i σ H' => ∃ (r : Sms) (pre : List Rw) (rr : Addr) (rv : List V) (v6 : Option V),
        σ = [some (.ref a), some (.int base), some (.int D), some tv, some (.str "row"), some (.ref rr), v6] ∧ H rr = none ∧ Same H H' ∧ H' rr = some (.lst rv) ∧ TpAll K H' rv (pre.map Rw.d) ∧ TpAll K H' (pxs.drop i) r.ds ∧ r.Wf cs nk tn.isSome hand ∧ r.dep ≤ n ∧ pre.length + r.len = ps.len ∧ pre ++ r.code (base + pre.length) D (tnOf tn) = ps.code base D (tnOf tn))
      ⟨ps, [], p, [], none, rfl, hp, s0, upd_same, .nil, by rw [List.drop_zero]; exact htp.mono (Tk.same s0), ws, by omega, by simp, by simp⟩ (fun i σ H' _ ⟨_, _, _, _, _, _, _, s', _⟩ => s'.sqT hTp) ?_ ?_⟩
    · rintro i x σ H3 hx ⟨r, pre, rr, rv, v6, rfl, hnn, s3, hrr, trv, tr, wr, dr, lr, er⟩
      obtain ⟨s, r', rfl, tx, tr'⟩ := sms_at tr hx
      obtain ⟨w1, w2⟩ : s.Wf cs nk tn.isSome hand ∧ r'.Wf cs nk tn.isSome hand := wr
      have dr2 : max s.dep r'.dep ≤ n := dr
      have lr2 : pre.length + (s.len + r'.len) = ps.len := lr
      have lrv : rv.length = pre.length := by rw [trv.length, List.length_map]
      refine ⟨_, rfl, _, rfl, _, rfl, _, rfl, rr, rv, rfl, .inl (SqL.of hrr), _, _, rfl, rfl, _, rfl, _, rfl, ?_⟩
      rw [lrv]
      refine ⟨x, tv, s, base + pre.length, D, tn, rfl, tx, htn.mono (Tk.same s3), ⟨⟨cs, nk, hand, w1⟩, by omega, by omega, by omega, ok.tn0⟩, fun r1 us H4 hr1 hl1 t1 s4 => ?_⟩
      refine cat_new (K := K) (s4 _ _ hrr) hl1 (trv.mono (Tk.same s4)) t1 (by simp [Sm.code_len]; omega) fun r2 us2 H5 hr2 hl2 t2 s5 => ?_
      have sZ := s4.trans s5
      refine ⟨r', pre ++ s.code (base + pre.length) D (tnOf tn), r2, us2, _, rfl, (s3.trans s4).free hr2, s3.trans sZ, hl2, by rw [List.map_append]; exact t2, tr'.mono (Tk.same sZ), w2, by omega, by simp [Sm.code_len]; omega, ?_⟩
      rw [← er]
      have e9 : base + ((pre ++ s.code (base + pre.length) D (tnOf tn)).length : Int) = base + pre.length + s.len := by simp [Sm.code_len]; omega
      rw [e9]
      simp [Sms.code]
    · rintro σ H3 ⟨r, pre, rr, rv, v6, rfl, hnn, s3, hrr, trv, tr, wr, dr, lr, er⟩
      cases sms_end tr
      have er' : pre = ps.code base D (tnOf tn) := by simpa [Sms.code] using er
      refine ⟨_, rfl, q rr rv H3 hnn hrr (by rw [show (Sm.row ps).code base D (tnOf tn) = ps.code base D (tnOf tn) from rfl, ← er']; exact trv) s3⟩
/-! ### _law_table, _law_coded -/
/-- a new tuple of these; all stands -/
def NewT (K : PySem.W.Frag) (H : Hp) (Q : VK) (d : PyData) : Prop := ∀ (v : V) (H' : Hp), Tp K H' v d → Same H H' → Q v H'
def spTable : Sp := fun vs H Q _ => ∃ (v : V) (rows : List Rw), vs = [v] ∧ Tp K H v (.tuple (rows.map Rw.d)) ∧ rows.length ≤ 200000 ∧ NewT K H Q (.tuple ((tabAt 0 rows).map Tb.d))
theorem tab_take {rows : List Rw} {i : Nat} {r : Rw} (h : rows[i]? = some r) : tabAt 0 (rows.take (i + 1)) = tabAt 0 (rows.take i) ++ tbOf (i : Int) r := by
  have hi := (List.getElem?_eq_some_iff.mp h).1
  rw [List.take_succ, h]
  show tabAt 0 (rows.take i ++ [r]) = _
  rw [tabAt_app, List.length_take, Nat.min_eq_left (by omega)]
  simp [tabAt]
/-- what a row adds to a table, by its data -/
theorem row_word (r : Rw) : (∃ b x k D, r = .hand b x k D) ∨ (∃ b x D, r = .cup b x D) ∨ ((∀ p, tbOf p r = []) ∧ ∃ w ds, r.d = .tuple (.str w :: ds) ∧ V.str w ≠ .str "handler" ∧ V.str w ≠ .str "cleanup") := by
  cases r with
  | hand b x k D => exact .inl ⟨b, x, k, D, rfl⟩
  | cup b x D => exact .inr (.inl ⟨b, x, D, rfl⟩)
  | op o => exact .inr (.inr ⟨fun _ => rfl, o.s, _, rfl, by cases o <;> decide, by cases o <;> decide⟩)
  | _ => exact .inr (.inr ⟨fun _ => rfl, _, _, rfl, by decide, by decide⟩)
abbrev N_law_table : List Str := ["_law_rows", "_law_table_here", "_law_k", "_law_row"]
theorem rd_table (vs : List V) (H : Hp) (Q : VK) (E : XK) (h : spTable (K := K) vs H Q E) : t_law_table K { nx := fun _ H' => Q .non H', rt := Q } (start N_law_table vs) H := by
  obtain ⟨v, rows, rfl, ht, hz, q⟩ := h
  obtain ⟨a, xs, rfl, hT, hts⟩ := ht.tupE
  have lx : xs.length = rows.length := by rw [hts.length, List.length_map]
  refine ⟨(by show 0 ≤ sizeLine; decide), fun p hp => ?_⟩
  have s0 : Same H (L2.upd H p (.lst [])) := Same.new hp
  refine ⟨_, rfl, a, xs, rfl, .inr (s0.sqT hT), _, rfl, by omega, by omega, for_range (lo := 0) (n := ((xs.length : Int)).toNat) (fun i σ H' => ∃ (tv : List V) (v2 v3 : Option V), σ = [some (.ref a), some (.ref p), v2, v3] ∧ Same H H' ∧ H' p = some (.lst tv) ∧ TpAll K H' tv ((tabAt 0 (rows.take i)).map Tb.d))
    ⟨[], none, none, rfl, s0, upd_same, by simp [tabAt]; exact .nil⟩ ?_ ?_⟩
  · rintro i σ H1 hi ⟨tv, v2, v3, rfl, s1, hp1, tt⟩
    have hi2 : i < rows.length := by omega
    have er : rows[i]? = some rows[i] := List.getElem?_eq_getElem hi2
    have ed : (rows.map Rw.d)[i]? = some (rows[i]).d := by rw [List.getElem?_map, er]; rfl
    obtain ⟨x, hx, tx⟩ := hts.get' ed
    have tx1 := tx.mono (Tk.same s1)
    have e0 : (0 : Int) + (i : Int) = (i : Int) := by omega
    have etk := tab_take er
    have ltv : tv.length < 1000000 := by
      have h1 := tt.length
      rw [List.length_map] at h1
      have h2 := tabAt_len (rows.take i) 0
      rw [List.length_take] at h2
      omega
    rw [e0]
    have fin : ∀ (t : Tb) (ws : List V) (ds : List PyData), tbOf (i : Int) rows[i] = [t] → t.d = .tuple ds → ∀ (H2 : Hp), Same H1 H2 → TpAll K H2 ws ds → ∀ p2, H2 p2 = none → H2 p = some (.lst tv) → ∃ (tv' : List V) (v2 v3 : Option V), [some (V.ref a), some (.ref p), some (.int (i : Int)), some x] = [some (.ref a), some (.ref p), v2, v3] ∧ Same H (L2.upd (L2.upd H2 p2 (.tup ws)) p (.lst (tv ++ [.ref p2]))) ∧
        (L2.upd (L2.upd H2 p2 (.tup ws)) p (.lst (tv ++ [.ref p2]))) p = some (.lst tv') ∧ TpAll K (L2.upd (L2.upd H2 p2 (.tup ws)) p (.lst (tv ++ [.ref p2]))) tv' ((tabAt 0 (rows.take (i + 1))).map Tb.d) := by
      intro t ws ds et ed2 H2 s2 tw p2 hp2 hpp
      have s3 : Same H1 (L2.upd H2 p2 (.tup ws)) := s2.trans (Same.new hp2)
      refine ⟨tv ++ [.ref p2], _, _, rfl, fun b u e => by rw [upd_ne (ne_of_none e hp)]; exact s3 b u (s1 b u e), upd_same, ?_⟩
      rw [etk, et, List.map_append]
      have : Tp K (L2.upd H2 p2 (.tup ws)) (.ref p2) t.d := by rw [ed2]; exact Tp.mk hp2 tw
      exact ((tt.mono (Tk.same s3)).snoc this).mono (Tk.lst (by rw [upd_ne (ne_of_none hpp hp2)]; exact hpp))
    refine ⟨_, rfl, _, rfl, a, xs, _, x, rfl, rfl, s1.sqT hT, atI_nat hx, ?_⟩
    rcases row_word rows[i] with ⟨b, y, k, D, e⟩ | ⟨b, y, D, e⟩ | ⟨enil, w, ds, e, n1, n2⟩
    · rw [e] at tx1
      obtain ⟨ax, y0, y1, y2, y3, y4, rfl, hTx, k0, k1, k2, k3, k4⟩ := tx1.tup5
      cases k0.strE; cases k1.intE; cases k2.intE; cases k4.intE
      refine rd_ixT (j := 0) rfl hTx rfl ⟨rfl, _, rfl, ifT rfl ?_⟩
      refine ⟨_, rfl, .inl ⟨rfl, _, SqL.of hp1⟩, rd_ixT (j := 1) rfl hTx rfl (rd_ixT (j := 2) rfl hTx rfl (rd_ixT (j := 3) rfl hTx rfl ⟨_, rfl, rd_ixT (j := 4) rfl hTx rfl ⟨(by show 6 ≤ sizeLine; decide), fun p2 hp2 => ?_⟩⟩))⟩
      have pp : L2.upd H1 p2 (.tup [.int b, .int y, .str "handler", y3, .int (i : Int), .int D]) p = some (.lst tv) := by rw [upd_ne (ne_of_none hp1 hp2)]; exact hp1
      refine ⟨p, tv, _, rfl, rfl, pp, sz_lt1 ltv, ?_⟩
      obtain ⟨tv', w2, w3, z1, z2, z3, z4⟩ := fin ⟨b, y, some k, i, D⟩ [.int b, .int y, .str "handler", y3, .int (i : Int), .int D] _ (by rw [e]; rfl) rfl H1 (Same.refl _) (.cons (.int _) (.cons (.int _) (.cons (.str _) (.cons k3 (.cons (.int _) (.cons (.int _) .nil)))))) p2 hp2 hp1
      -- the second look: not a cleanup
      refine rd_ixT (j := 0) rfl (Tk.sqT (Tk.trans (Tk.new hp2) (Tk.lst pp)) hTx) rfl ⟨rfl, _, rfl, ifF rfl ?_⟩
      exact ⟨tv', w2, w3, z1, z2, z3, z4⟩
    · rw [e] at tx1
      obtain ⟨ax, y0, y1, y2, y3, rfl, hTx, k0, k1, k2, k3⟩ := tx1.tup4
      cases k0.strE; cases k1.intE; cases k2.intE; cases k3.intE
      refine rd_ixT (j := 0) rfl hTx rfl ⟨rfl, _, rfl, ifF rfl ?_⟩
      refine rd_ixT (j := 0) rfl hTx rfl ⟨rfl, _, rfl, ifT rfl ?_⟩
      refine ⟨_, rfl, .inl ⟨rfl, _, SqL.of hp1⟩, rd_ixT (j := 1) rfl hTx rfl (rd_ixT (j := 2) rfl hTx rfl ⟨_, rfl, rd_ixT (j := 3) rfl hTx rfl ⟨(by show 6 ≤ sizeLine; decide), fun p2 hp2 => ?_⟩⟩)⟩
      have pp : L2.upd H1 p2 (.tup [.int b, .int y, .str "cleanup", .non, .int (i : Int), .int D]) p = some (.lst tv) := by rw [upd_ne (ne_of_none hp1 hp2)]; exact hp1
      refine ⟨p, tv, _, rfl, rfl, pp, sz_lt1 ltv, ?_⟩
      exact fin ⟨b, y, none, i, D⟩ [.int b, .int y, .str "cleanup", .non, .int (i : Int), .int D] _ (by rw [e]; rfl) rfl H1 (Same.refl _) (.cons (.int _) (.cons (.int _) (.cons (.str _) (.cons .non (.cons (.int _) (.cons (.int _) .nil)))))) p2 hp2 hp1
    · rw [e] at tx1
      obtain ⟨ax, ys, rfl, hTx, tys⟩ := tx1.tupE
      obtain ⟨y0, yr, rfl, k0, _⟩ := tys.consE
      cases k0.strE
      refine rd_ixT (j := 0) rfl hTx rfl ⟨rfl, _, rfl, ifF (dF n1) ?_⟩
      refine rd_ixT (j := 0) rfl hTx rfl ⟨rfl, _, rfl, ifF (dF n2) ?_⟩
      exact ⟨tv, _, _, rfl, s1, hp1, by rw [etk, enil, List.append_nil]; exact tt⟩
  · rintro σ H1 ⟨tv, v2, v3, rfl, s1, hp1, tt⟩
    rw [List.take_of_length_le (by omega)] at tt
    refine ⟨_, rfl, p, tv, rfl, .inl ⟨SqL.of hp1, fun p2 hp2 => ?_⟩⟩
    exact q (.ref p2) _ (Tp.mk hp2 tt) (s1.trans (Same.new hp2))
/-- a program that may be coded -/
structure PgC (p : Pg) (n : Nat) : Prop where
  body : ∀ f ∈ p.funs, CodeOk f.2 n none 0
  few : p.funs.length ≤ 1000
def spCodedL (n : Nat) : Sp := fun vs H Q _ => ∃ (v : V) (p : Pg), vs = [v] ∧ Tp K H v p.d ∧ PgC p n ∧ NewT K H Q (codeD p.code)
abbrev N_law_coded : List Str := ["_law_program_here", "_law_code_here", "_law_function", "_law_rows"]
theorem rd_law_coded {n : Nat} (vs : List V) (H : Hp) (Q : VK) (E : XK) (h : spCodedL (K := K) n vs H Q E) : t_law_coded K (spCode (K := K) n) (spTable (K := K)) { nx := fun _ H' => Q .non H', rt := Q } (start N_law_coded vs) H := by
  obtain ⟨v, p, rfl, ht, ok, q⟩ := h
  obtain ⟨a, x0, x1, rfl, hT, h0, h1⟩ := ht.tup2
  obtain ⟨fa, fxs, rfl, hTf, htf⟩ := h1.tupE
  have lx : fxs.length = p.funs.length := by rw [htf.length, List.length_map]
  refine ⟨(by show 0 ≤ sizeLine; decide), fun c hc => ?_⟩
  have s0 : Same H (L2.upd H c (.lst [])) := Same.new hc
  refine rd_ixT (j := 1) rfl (s0.sqT hT) rfl ⟨fa, rfl, ⟨_, s0.sqT hTf⟩, for_tup (K := K) (a := fa) (xs := fxs) (fun i σ H' => ∃ (cv : List V) (v2 v3 : Option V), σ = [some (.ref a), some (.ref c), v2, v3] ∧ Same H H' ∧ H' c = some (.lst cv) ∧ TpAll K H' cv ((p.code.take i).map Fc.d))
    ⟨[], none, none, rfl, s0, upd_same, .nil⟩ (fun i σ H' _ ⟨_, _, _, _, s', _⟩ => s'.sqT hTf) ?_ ?_⟩
  · rintro i x σ H1 hx ⟨cv, v2, v3, rfl, s1, hc1, tc⟩
    obtain ⟨d, hd, td⟩ := htf.get hx
    rw [List.getElem?_map] at hd
    cases ef : p.funs[i]? with
    | none => rw [ef] at hd; cases hd
    | some f =>
      rw [ef] at hd
      obtain rfl : funD f = d := Option.some.inj hd
      obtain ⟨ax, y0, y1, rfl, hTx, k0, k1⟩ := td.tup2
      cases k0.intE
      have okf := ok.body f (List.mem_of_getElem? ef)
      have hlen : f.2.len ≤ 100000 := okf.len
      have ilt : i < 1000 := by
        have := (List.getElem?_eq_some_iff.mp ef).1
        have := ok.few
        omega
      refine rd_ixT (j := 1) rfl (s1.sqT hTx) rfl ⟨y1, .non, f.2, 0, 0, none, rfl, k1.mono (Tk.same s1), .non, okf, fun r us H2 hr hl2 t2 s2 => ⟨(by show 2 ≤ sizeLine; decide), fun p1 hp1 => ⟨(by show 1 ≤ sizeLine; decide), fun p2 hp2 => ⟨(by show 2 ≤ sizeLine; decide), fun p3 hp3 => ?_⟩⟩⟩⟩
      have s3 : Same H2 (L2.upd (L2.upd (L2.upd H2 p1 (.tup [.str "num", .int 0])) p2 (.tup [.str "return"])) p3 (.lst [.ref p1, .ref p2])) := ((Same.new hp1).trans (Same.new hp2)).trans (Same.new hp3)
      refine cat_new (K := K) (es := [(Rw.num 0).d, Rw.ret.d]) (s3 _ _ hl2) upd_same (t2.mono (Tk.same s3)) (.cons (((Tp.mk hp1 (.cons (.str _) (.cons (.int _) .nil))).mono (Tk.new hp2)).mono (Tk.new hp3)) (.cons ((Tp.mk hp2 (.cons (.str _) .nil)).mono (Tk.new hp3)) .nil)) (by simp [Sm.code_len]; omega) fun r4 ws4 H4 hr4 hl4 t4 s4 => ?_
      have s14 := (s2.trans s3).trans s4
      refine ⟨r4, ws4, rfl, .inl ⟨SqL.of hl4, fun p5 hp5 => ?_⟩⟩
      have s5 : Same H1 (L2.upd H4 p5 (.tup ws4)) := s14.trans (Same.new hp5)
      have tR : Tp K (L2.upd H4 p5 (.tup ws4)) (.ref p5) (.tuple ((bodyRows f.2).map Rw.d)) := by
        rw [show (bodyRows f.2).map Rw.d = (f.2.code 0 0 (tnOf none)).map Rw.d ++ [(Rw.num 0).d, Rw.ret.d] by simp [bodyRows, tnOf]]
        exact Tp.mk hp5 t4
      refine ⟨_, rfl, .inl ⟨rfl, _, SqL.of (s5 _ _ hc1)⟩, rd_ixT (j := 0) rfl ((s1.trans s5).sqT hTx) rfl ⟨_, rfl, _, rfl, .ref p5, bodyRows f.2, rfl, tR, by simp [bodyRows, Sm.code_len]; omega, fun w H6 t6 s6 => ⟨(by show 3 ≤ sizeLine; decide), fun p7 hp7 => ?_⟩⟩⟩
      have hc6 := s6 _ _ (s5 _ _ hc1)
      have hc7 : L2.upd H6 p7 (.tup [.int (f.1 : Int), .ref p5, w]) c = some (.lst cv) := by rw [upd_ne (ne_of_none hc6 hp7)]; exact hc6
      have lcv : cv.length < 1000000 := by
        have := tc.length
        rw [List.length_map, List.length_take] at this
        omega
      have sZ : Same H1 (L2.upd H6 p7 (.tup [.int (f.1 : Int), .ref p5, w])) := (s5.trans s6).trans (Same.new hp7)
      refine ⟨c, cv, _, rfl, rfl, hc7, sz_lt1 lcv, cv ++ [.ref p7], _, _, rfl, fun b u e => by rw [upd_ne (ne_of_none e hc)]; exact sZ b u (s1 b u e), upd_same, ?_⟩
      have ec : p.code[i]? = some ⟨f.1, bodyRows f.2⟩ := by unfold Pg.code; rw [List.getElem?_map, ef]; rfl
      rw [List.take_succ, ec, List.map_append]
      exact ((tc.mono (Tk.same sZ)).snoc (Tp.mk hp7 (.cons (.int _) (.cons (tR.mono (Tk.same s6)) (.cons t6 .nil))))).mono (Tk.lst hc7)
  · rintro σ H1 ⟨cv, v2, v3, rfl, s1, hc1, tc⟩
    rw [List.take_of_length_le (by unfold Pg.code; rw [List.length_map]; omega)] at tc
    refine ⟨_, rfl, c, cv, rfl, .inl ⟨SqL.of hc1, fun p2 hp2 => ?_⟩⟩
    exact q (.ref p2) _ (Tp.mk hp2 tc) (s1.trans (Same.new hp2))
end
end Lp

/-! L4b: the program's coding: Coder, table_of, coded. -/
namespace Lp
open PySem PySem.Spec PyProof.Rows L2
def t_Coder_init (K : PySem.W.Frag) : TS :=
  tSeq (sFld K (tVar 0) (tLst (tNil)) "made") (sFld K (tVar 0) (tLst (tNil)) "turns")

def t_Coder_put (K : PySem.W.Frag) : TS :=
  tSeq (tDrop (tBM K "list" rAppend (tFld K (tVar 0) "made") (tCons (tVar 1) (tNil)))) (tRet (tOp rSbI (tCB (rLenQ K) (tCons (tFld K (tVar 0) "made") (tNil))) (tC (.int 1))))

def t_Coder_part (K : PySem.W.Frag) (C_Coder : Addr) (sp_Coder_put : Sp) (sp_Coder_part : Sp) : TS :=
  tIfS (tTest (tOp (rIn K false) (tOp (rIxT K) (tVar 1) (tC (.int 0))) (tTup (tCons (tC (.str "num")) (tCons (tC (.str "var")) (tNil)))))) (tDrop (tMeth C_Coder "put" sp_Coder_put [] E0 (tVar 0) (tCons (tVar 1) (tNil)))) (tSeq (tDrop (tMeth C_Coder "part" sp_Coder_part [] E0 (tVar 0) (tCons (tOp (rIxT K) (tVar 1) (tC (.int 1))) (tNil)))) (tSeq (tDrop (tMeth C_Coder "part" sp_Coder_part [] E0 (tVar 0) (tCons (tOp (rIxT K) (tVar 1) (tC (.int 2))) (tNil)))) (tDrop (tMeth C_Coder "put" sp_Coder_put [] E0 (tVar 0) (tCons (tTup (tCons (tOp (rIxT K) (tVar 1) (tC (.int 0))) (tNil))) (tNil))))))

/-- what the top has of the class -/
structure CoTxt (K : PySem.W.Frag) (C : Addr) : Prop where
  cl : Cls K C
  made : NoAttr K C "made"
  turns : NoAttr K C "turns"
def cfs (m t : Addr) : List (Str × V) := [("made", .ref m), ("turns", .ref t)]
theorem cfs_made {m t : Addr} : (cfs m t).lookup ("made" : Str) = some (.ref m) := rfl
theorem cfs_turns {m t : Addr} : (cfs m t).lookup ("turns" : Str) = some (.ref t) := rfl
/-- the innermost while under way: its list, its breaks' list, top, depth, the breaks so far -/
structure Wh where
  u : Addr
  pl : Addr
  top : Int
  D : Int
  ps : List Int
def addW (l : List Int) (w : Option Wh) : Option Wh := w.map fun w => { w with ps := w.ps ++ l }
def tnW : Option Wh → Tn
  | none => (0, 0, 0)
  | some w => (w.top, 0, w.D)
theorem tnW_add {l : List Int} {w : Option Wh} : tnW (addW l w) = tnW w := by cases w <;> rfl
theorem addW_nil {w : Option Wh} : addW [] w = w := by cases w <;> simp [addW]
theorem addW_app {l l' : List Int} {w : Option Wh} : addW l' (addW l w) = addW (l ++ l') w := by cases w <;> simp [addW]
theorem addW_some {l : List Int} {w : Option Wh} : (addW l w).isSome = w.isSome := by cases w <;> rfl
/-- what may be changed -/
def BW (m t : Addr) (w : Option Wh) : Addr → Prop := fun a => a = m ∨ a = t ∨ ∃ x, w = some x ∧ a = x.pl
theorem BW_add {m t : Addr} {l : List Int} {w : Option Wh} : BW m t (addW l w) = BW m t w := by
  cases w with
  | none => rfl
  | some w =>
    funext a
    simp [BW, addW]
structure TurnAt (H : Hp) (m t : Addr) (ts : List V) (w : Option Wh) : Prop where
  turns : H t = some (.lst ts)
  tm : t ≠ m
  wh : ∀ x, w = some x → (∃ r, ts = r ++ [.ref x.u]) ∧ H x.u = some (.lst [.int x.top, .int x.D, .ref x.pl]) ∧ H x.pl = some (.lst (x.ps.map V.int)) ∧ x.u ≠ m ∧ x.u ≠ t ∧ x.pl ≠ m ∧ x.pl ≠ t ∧ x.pl ≠ x.u
structure CoSt (K : PySem.W.Frag) (C dx : Addr) (H : Hp) (c m t : Addr) (ts : List V) (w : Option Wh) (R : List Rw) : Prop where
  ins : H c = some (.ins C dx (cfs m t))
  made : ∃ us, H m = some (.lst us) ∧ TpAll K H us (R.map Rw.d)
  trn : TurnAt H m t ts w
  psl : ∀ x, w = some x → x.ps.length ≤ R.length
section
variable {K : PySem.W.Frag} {C dx : Addr} {H H' H1 H2 : Hp} {c m t : Addr} {ts : List V} {w : Option Wh} {R : List Rw}
theorem CoSt.noTup (s : CoSt K C dx H c m t ts w R) : NoTup (BW m t w) H := by
  rintro a (rfl | rfl | ⟨x, rfl, rfl⟩)
  · obtain ⟨us, h, _⟩ := s.made
    exact ⟨_, h, (fun _ z => by cases z), (fun _ _ z => by cases z)⟩
  · exact ⟨_, s.trn.turns, (fun _ z => by cases z), (fun _ _ z => by cases z)⟩
  · exact ⟨_, (s.trn.wh x rfl).2.2.1, (fun _ z => by cases z), (fun _ _ z => by cases z)⟩
theorem CoSt.tk (s : CoSt K C dx H c m t ts w R) (k : Kp (BW m t w) H H') : Tk H H' := k.tk s.noTup
theorem CoSt.tk1 (s : CoSt K C dx H c m t ts w R) (k : Kp (fun x => x = m) H H') : Tk H H' := by
  obtain ⟨us, h, _⟩ := s.made
  exact k.tk1 h
theorem CoSt.cm (s : CoSt K C dx H c m t ts w R) : c ≠ m := by
  obtain ⟨us, h2, _⟩ := s.made
  exact ne_of s.ins h2 (by intro z; cases z)
theorem CoSt.ct (s : CoSt K C dx H c m t ts w R) : c ≠ t := ne_of s.ins s.trn.turns (by intro z; cases z)
theorem CoSt.lst {R' : List Rw} (s : CoSt K C dx H c m t ts w R) (e : R = R') : CoSt K C dx H c m t ts w R' := e ▸ s
theorem CoSt.move {B : Addr → Prop} {R' : List Rw} {us' : List V} (s : CoSt K C dx H c m t ts w R) (k : Kp B H H') (nc : ¬ B c) (nw : ∀ x, w = some x → ¬ B x.u ∧ ¬ B x.pl) (hm : H' m = some (.lst us')) (ht : H' t = some (.lst ts)) (tp : TpAll K H' us' (R'.map Rw.d)) (hl : R.length ≤ R'.length) : CoSt K C dx H' c m t ts w R' := by
  refine ⟨k _ _ s.ins nc, ⟨us', hm, tp⟩, ⟨ht, s.trn.tm, fun x hx => ?_⟩, fun x hx => Nat.le_trans (s.psl x hx) hl⟩
  obtain ⟨h1, h2, h3, h4⟩ := s.trn.wh x hx
  exact ⟨h1, k _ _ h2 (nw x hx).1, k _ _ h3 (nw x hx).2, h4⟩
/-- m and t alone have changed, and t is as it was -/
theorem CoSt.back {R' : List Rw} {us' : List V} (s : CoSt K C dx H c m t ts w R) (k : Kp (fun a => a = m ∨ a = t) H H') (hm : H' m = some (.lst us')) (ht : H' t = some (.lst ts)) (tp : TpAll K H' us' (R'.map Rw.d)) (hl : R.length ≤ R'.length) : CoSt K C dx H' c m t ts w R' :=
  s.move k (fun z => z.elim s.cm s.ct) (fun x hx => by
    obtain ⟨_, _, _, h4, h5, h6, h7, _⟩ := s.trn.wh x hx
    exact ⟨fun z => z.elim h4 h5, fun z => z.elim h6 h7⟩) hm ht tp hl
/-- m alone has changed -/
theorem CoSt.setM {R' : List Rw} {us' : List V} (s : CoSt K C dx H c m t ts w R) (k : Kp (fun x => x = m) H H') (hm : H' m = some (.lst us')) (tp : TpAll K H' us' (R'.map Rw.d)) (hl : R.length ≤ R'.length) : CoSt K C dx H' c m t ts w R' :=
  s.back (k.mono fun _ => .inl) hm (k _ _ s.trn.turns s.trn.tm) tp hl
/-- nothing of it has changed -/
theorem CoSt.same (s : CoSt K C dx H c m t ts w R) (k : Same H H') : CoSt K C dx H' c m t ts w R := by
  obtain ⟨us, h, ht⟩ := s.made
  exact s.setM (Kp.same k) (k _ _ h) (ht.mono (Tk.same k)) (Nat.le_refl _)
/-- p is none of its objects -/
structure Apart (p c m t : Addr) (w : Option Wh) : Prop where
  nc : c ≠ p
  nm : m ≠ p
  nt : t ≠ p
  nw : ∀ x, w = some x → x.u ≠ p ∧ x.pl ≠ p
theorem CoSt.apart (s : CoSt K C dx H c m t ts w R) {p : Addr} (hp : H p = none) : Apart p c m t w := by
  obtain ⟨us, h, _⟩ := s.made
  refine ⟨ne_of_none s.ins hp, ne_of_none h hp, ne_of_none s.trn.turns hp, fun x hx => ?_⟩
  obtain ⟨_, h2, h3, _⟩ := s.trn.wh x hx
  exact ⟨ne_of_none h2 hp, ne_of_none h3 hp⟩
theorem Apart.add {p : Addr} {l : List Int} (a : Apart p c m t w) : Apart p c m t (addW l w) := by
  refine ⟨a.nc, a.nm, a.nt, fun x hx => ?_⟩
  cases w with
  | none => cases hx
  | some y => cases hx; exact a.nw y rfl
theorem CoSt.other {p : Addr} {l : List V} {o : HO} (s : CoSt K C dx H c m t ts w R) (hp : H p = some (.lst l)) (a : Apart p c m t w) : CoSt K C dx (L2.upd H p o) c m t ts w R := by
  obtain ⟨us, h, ht⟩ := s.made
  refine s.move (B := fun x => x = p) (Kp.upd rfl) a.nc a.nw (by rw [upd_ne a.nm]; exact h) (by rw [upd_ne a.nt]; exact s.trn.turns) (ht.mono (Tk.lst hp)) (Nat.le_refl _)
theorem BWm {a : Addr} (h : a = m) : BW m t w a := .inl h
theorem KpW (k : Kp (fun x => x = m) H H') : Kp (BW m t w) H H' := k.mono fun _ => BWm
theorem Kp.narrow {B : Addr → Prop} {p : Addr} (k1 : Kp B H H1) (hp : H1 p = none) (k2 : Kp (fun a => B a ∨ a = p) H1 H2) : Kp B H H2 := fun a o e n => k2 a o (k1 a o e n) fun z => z.elim n (ne_of_none (k1 a o e n) hp)
end
theorem TpAll.set {K : PySem.W.Frag} {H : Hp} : ∀ {vs : List V} {ds : List PyData} {j : Nat} {v : V} {d : PyData}, TpAll K H vs ds → Tp K H v d → TpAll K H (vs.set j v) (ds.set j d)
  | _, _, _, _, _, .nil, _ => .nil
  | _, _, 0, _, _, .cons _ h, h' => .cons h' h
  | _, _, j + 1, _, _, .cons h0 h, h' => .cons h0 (TpAll.set h h')
/-! ### the breaks' places; the handlers' goes -/
mutual
theorem Sm.bks_in : ∀ (s : Sm) (b : Int), ∀ p ∈ s.bks b, b ≤ p ∧ p < b + s.len
  | .row ps, b, p, h => Sms.bks_in ps b p h
  | .ife e s t, b, p, h => by
    show b ≤ p ∧ p < b + ((e.len + 1 + s.len + 1 + t.len : Nat) : Int)
    rcases List.mem_append.mp h with h | h
    · have := Sm.bks_in s _ p h; omega
    · have := Sm.bks_in t _ p h; omega
  | .brk, b, p, h => by
    have : p = b := by simpa [Sm.bks] using h
    show b ≤ p ∧ p < b + ((1 : Nat) : Int)
    omega
  | .tri s hs, b, p, h => by
    show b ≤ p ∧ p < b + ((s.len + 1 + hs.len : Nat) : Int)
    rcases List.mem_append.mp h with h | h
    · have := Sm.bks_in s _ p h; omega
    · have := Hds.bks_in hs _ p h; omega
  | .cln s c, b, p, h => by
    show b ≤ p ∧ p < b + ((s.len + 2 + c.len + 1 : Nat) : Int)
    rcases List.mem_append.mp h with h | h
    · have := Sm.bks_in s _ p h; omega
    · have := Sm.bks_in c _ p h; omega
  | .say _, _, _, h => nomatch h
  | .set _ _, _, _, h => nomatch h
  | .whl _ _, _, _, h => nomatch h
  | .cnt, _, _, h => nomatch h
  | .ret _, _, _, h => nomatch h
  | .call _ _ _ _, _, _, h => nomatch h
  | .rais _ _ _, _, _, h => nomatch h
  | .again, _, _, h => nomatch h
theorem Sms.bks_in : ∀ (s : Sms) (b : Int), ∀ p ∈ s.bks b, b ≤ p ∧ p < b + s.len
  | .nil, _, _, h => nomatch h
  | .cons s r, b, p, h => by
    show b ≤ p ∧ p < b + ((s.len + r.len : Nat) : Int)
    rcases List.mem_append.mp h with h | h
    · have := Sm.bks_in s _ p h; omega
    · have := Sms.bks_in r _ p h; omega
theorem Hds.bks_in : ∀ (s : Hds) (b : Int), ∀ p ∈ s.bks b, b ≤ p ∧ p < b + s.len
  | .nil, _, _, h => nomatch h
  | .cons k x t r, b, p, h => by
    show b ≤ p ∧ p < b + ((2 + t.len + 2 + r.len : Nat) : Int)
    rcases List.mem_append.mp h with h | h
    · have := Sm.bks_in t _ p h; omega
    · have := Hds.bks_in r _ p h; omega
end
mutual
theorem Sm.bks_len : ∀ (s : Sm) (b : Int), (s.bks b).length ≤ s.len
  | .row ps, b => Sms.bks_len ps b
  | .ife e s t, b => by
    have := Sm.bks_len s (b + e.len + 1); have := Sm.bks_len t (b + e.len + 1 + s.len + 1)
    simp only [Sm.bks, Sm.len, List.length_append]; omega
  | .brk, b => Nat.le_refl _
  | .tri s hs, b => by
    have := Sm.bks_len s b; have := Hds.bks_len hs (b + s.len + 1)
    simp only [Sm.bks, Sm.len, List.length_append]; omega
  | .cln s c, b => by
    have := Sm.bks_len s b; have := Sm.bks_len c (b + s.len + 2)
    simp only [Sm.bks, Sm.len, List.length_append]; omega
  | .say _, _ => Nat.zero_le _
  | .set _ _, _ => Nat.zero_le _
  | .whl _ _, _ => Nat.zero_le _
  | .cnt, _ => Nat.zero_le _
  | .ret _, _ => Nat.zero_le _
  | .call _ _ _ _, _ => Nat.zero_le _
  | .rais _ _ _, _ => Nat.zero_le _
  | .again, _ => Nat.zero_le _
theorem Sms.bks_len : ∀ (s : Sms) (b : Int), (s.bks b).length ≤ s.len
  | .nil, _ => Nat.zero_le _
  | .cons s r, b => by
    have := Sm.bks_len s b; have := Sms.bks_len r (b + s.len)
    simp only [Sms.bks, Sms.len, List.length_append]; omega
theorem Hds.bks_len : ∀ (s : Hds) (b : Int), (s.bks b).length ≤ s.len
  | .nil, _ => Nat.zero_le _
  | .cons k x t r, b => by
    have := Sm.bks_len t (b + 2); have := Hds.bks_len r (b + 2 + t.len + 2)
    simp only [Hds.bks, Hds.len, List.length_append]; omega
end
def Hds.gos (at_ : Int) : Hds → List Int
  | .nil => []
  | .cons _ _ t r => (at_ + 2 + t.len + 1) :: r.gos (at_ + 2 + t.len + 2)
theorem Hds.gos_in : ∀ (s : Hds) (b : Int), ∀ p ∈ s.gos b, b ≤ p ∧ p < b + s.len
  | .nil, _, _, h => nomatch h
  | .cons k x t r, b, p, h => by
    show b ≤ p ∧ p < b + ((2 + t.len + 2 + r.len : Nat) : Int)
    rcases List.mem_cons.mp h with h | h
    · omega
    · have := Hds.gos_in r _ p h; omega
theorem Hds.gos_len : ∀ (s : Hds) (b : Int), (s.gos b).length ≤ s.len
  | .nil, _ => Nat.zero_le _
  | .cons k x t r, b => by
    have := Hds.gos_len r (b + 2 + t.len + 2)
    simp only [Hds.gos, Hds.len, List.length_cons]; omega
theorem set_mid {α : Type} {A B : List α} {x y : α} {n : Nat} (h : A.length = n) : (A ++ x :: B).set n y = A ++ y :: B := by
  subst h; simp
theorem Hds.fillG {b x z D : Int} {tn : Tn} : ∀ (hs : Hds) (at_ : Int) (pre post : List Rw), (pre.length : Int) = at_ →
    fillAt (.go z) (hs.gos at_) (pre ++ hs.code b x 0 at_ D tn ++ post) = pre ++ hs.code b x z at_ D tn ++ post
  | .nil, _, _, _, _ => rfl
  | .cons k sl t r, at_, pre, post, h => by
    have h1 : (pre ++ (Hds.cons k sl t r).code b x 0 at_ D tn ++ post).set (at_ + 2 + t.len + 1).toNat (.go z) = (pre ++ ([.hand b x k D, .set sl] ++ t.code (at_ + 2) (D + 1) tn ++ [.settled, .go z])) ++ r.code b x 0 (at_ + 2 + t.len + 2) D tn ++ post := by
      have e : pre ++ (Hds.cons k sl t r).code b x 0 at_ D tn ++ post = (pre ++ ([.hand b x k D, .set sl] ++ t.code (at_ + 2) (D + 1) tn ++ [.settled])) ++ .go 0 :: (r.code b x 0 (at_ + 2 + t.len + 2) D tn ++ post) := by simp [Hds.code]
      rw [e, set_mid (by simp [Sm.code_len]; omega)]
      simp
    have h2 := Hds.fillG r (b := b) (x := x) (z := z) (D := D) (tn := tn) (at_ + 2 + t.len + 2) (pre ++ ([.hand b x k D, .set sl] ++ t.code (at_ + 2) (D + 1) tn ++ [.settled, .go z])) post (by simp [Sm.code_len]; omega)
    show fillAt (.go z) (r.gos _) ((pre ++ (Hds.cons k sl t r).code b x 0 at_ D tn ++ post).set (at_ + 2 + t.len + 1).toNat (.go z)) = _
    rw [h1, h2]
    simp [Hds.code]
theorem fillAt_length (row : Rw) : ∀ (ps : List Int) (l : List Rw), (fillAt row ps l).length = l.length
  | [], _ => rfl
  | p :: ps, l => by
    show (fillAt row ps (l.set p.toNat row)).length = _
    rw [fillAt_length row ps, List.length_set]
theorem fillAt_take (row : Rw) {ps : List Int} {i : Nat} {p : Int} (h : ps[i]? = some p) (l : List Rw) : fillAt row (ps.take (i + 1)) l = (fillAt row (ps.take i) l).set p.toNat row := by
  rw [List.take_succ, h, fillAt_app]; rfl
/-! ### put, part -/
def spCoInit (C : Addr) : Sp := fun vs H Q _ => ∃ (c dx : Addr), vs = [.ref c] ∧ H c = some (.ins C dx []) ∧ ∀ (m t : Addr) (H' : Hp), H m = none → H t = none → t ≠ m → H' c = some (.ins C dx (cfs m t)) → H' m = some (.lst []) → H' t = some (.lst []) → Kp (fun x => x = c) H H' → Q .non H'
structure PutP (C : Addr) (vs : List V) (H : Hp) (Q : VK) : Prop where
  ex : ∃ (c m t dx : Addr) (x : V) (us : List V), vs = [.ref c, x] ∧ H c = some (.ins C dx (cfs m t)) ∧ H m = some (.lst us) ∧ us.length ≤ 500000 ∧ Q (.int (us.length : Int)) (upd H m (.lst (us ++ [x])))
def spPut (C : Addr) : Sp := fun vs H Q _ => PutP C vs H Q
structure PartP (K : PySem.W.Frag) (C : Addr) (n : Nat) (vs : List V) (H : Hp) (Q : VK) : Prop where
  ex : ∃ (c m t dx : Addr) (v : V) (e : Ex) (us : List V) (R : List Rw), vs = [.ref c, v] ∧ H c = some (.ins C dx (cfs m t)) ∧ Tp K H v e.d ∧ e.dep ≤ n ∧ H m = some (.lst us) ∧ TpAll K H us (R.map Rw.d) ∧ R.length + e.len ≤ 500000 ∧
  ∀ (us' : List V) (H' : Hp), H' m = some (.lst us') → TpAll K H' us' ((R ++ e.code).map Rw.d) → Kp (fun x => x = m) H H' → Q .non H'
def spPartC (K : PySem.W.Frag) (C : Addr) (n : Nat) : Sp := fun vs H Q _ => PartP K C n vs H Q
theorem spPartC_zero {K : PySem.W.Frag} {C : Addr} (vs : List V) (H : Hp) (Q : VK) (E : XK) : ¬ spPartC K C 0 vs H Q E := by
  rintro ⟨⟨c, m, t, dx, v, e, us, R, _, _, _, h, _⟩⟩
  cases e <;> simp [Ex.dep] at h
section
variable {K : PySem.W.Frag} {C : Addr}
/-- self.f of a Coder in a slot -/
theorem rFld {σ : L2.St} {H : Hp} {i : Nat} {c m t dx : Addr} {Q : VK} {f : Str} {v : V} (hs : σ[i]? = some (some (.ref c))) (hc : H c = some (.ins C dx (cfs m t))) (cl : Cls K C) (n : NoAttr K C f) (l : (cfs m t).lookup f = some v) (q : Q v H) : tFld K (tVar i) f σ H Q :=
  ⟨_, hs, c, C, dx, _, v, rfl, hc, cl, n, l, q⟩
/-- self.m(..) of a Coder in a slot -/
theorem rMeth {σ : L2.St} {H : Hp} {i : Nat} {c m t dx : Addr} {Q : VK} {f : Str} {sp : Sp} {ta : TA} (hs : σ[i]? = some (some (.ref c))) (hc : H c = some (.ins C dx (cfs m t))) (l : (cfs m t).lookup f = none) (q : ta σ H fun vs H2 => sp (.ref c :: (vs ++ [])) H2 Q E0) : tMeth C f sp [] E0 (tVar i) ta σ H Q :=
  ⟨_, hs, c, dx, _, rfl, hc, l, q⟩
theorem rd_co_init (T : CoTxt K C) (vs : List V) (H : Hp) (Q : VK) (E : XK) (h : spCoInit C vs H Q E) : t_Coder_init K { nx := fun _ H' => Q .non H', rt := Q } (start ["self"] vs) H := by
  obtain ⟨c, dx, rfl, hc, q⟩ := h
  refine ⟨(by show 0 ≤ sizeLine; decide), fun m hm => ⟨_, rfl, c, C, dx, [], rfl, by rw [upd_ne (ne_of_none hc hm)]; exact hc, T.cl, T.made, (by show 0 < 1000; decide), (by show 0 ≤ sizeLine; decide), fun t ht => ?_⟩⟩
  have cm : c ≠ m := ne_of_none hc hm
  have c1 : (L2.upd (L2.upd H m (.lst [])) c (.ins C dx (putF "made" (.ref m) []))) c = some (.ins C dx (putF "made" (.ref m) [])) := upd_same
  have ct : c ≠ t := ne_of_none c1 ht
  have m1 : (L2.upd (L2.upd H m (.lst [])) c (.ins C dx (putF "made" (.ref m) []))) m = some (.lst []) := by rw [upd_ne cm.symm, upd_same]
  have mt : m ≠ t := ne_of_none m1 ht
  have htH : H t = none := by
    have z := ht
    rw [upd_ne ct.symm, upd_ne mt.symm] at z
    exact z
  refine ⟨_, rfl, c, C, dx, _, rfl, by rw [upd_ne ct]; exact c1, T.cl, T.turns, (by show 1 < 1000; decide), ?_⟩
  refine q m t _ hm htH mt.symm (by rw [upd_same]; rfl) (by rw [upd_ne cm.symm, upd_ne mt]; exact m1) (by rw [upd_ne ct.symm, upd_same]) ?_
  intro a o e n
  have am : a ≠ m := ne_of_none e hm
  have at_ : a ≠ t := ne_of_none e htH
  rw [upd_ne n, upd_ne at_, upd_ne n, upd_ne am]
  exact e
theorem rd_put (T : CoTxt K C) (vs : List V) (H : Hp) (Q : VK) (E : XK) (h : spPut C vs H Q E) : t_Coder_put K { nx := fun _ H' => Q .non H', rt := Q } (start ["self", "row"] vs) H := by
  obtain ⟨c, m, t, dx, x, us, rfl, hc, hm, hz, q⟩ := h.ex
  refine ⟨_, rfl, c, C, dx, _, _, rfl, hc, T.cl, T.made, cfs_made, .inl ⟨rfl, _, SqL.of hm⟩, _, rfl, m, us, x, rfl, rfl, hm, sz_lt1 (by omega), ?_⟩
  have cm : c ≠ m := ne_of hc hm (by intro z; cases z)
  have hc1 : L2.upd H m (.lst (us ++ [x])) c = some (.ins C dx (cfs m t)) := by rw [upd_ne cm]; exact hc
  refine ⟨_, rfl, c, C, dx, _, _, rfl, hc1, T.cl, T.made, cfs_made, m, us ++ [x], rfl, .inl (SqL.of upd_same), _, _, rfl, rfl, ?_⟩
  have e : (((us ++ [x]).length : Nat) : Int) - 1 = (us.length : Int) := by simp
  show Q (.int ((((us ++ [x]).length : Nat) : Int) - 1)) _
  rw [e]
  exact q
theorem rd_part (T : CoTxt K C) {n : Nat} (vs : List V) (H : Hp) (Q : VK) (E : XK) (h : spPartC K C (n + 1) vs H Q E) : t_Coder_part K C (spPut C) (spPartC K C n) { nx := fun _ H' => Q .non H', rt := Q } (start ["self", "part"] vs) H := by
  obtain ⟨c, m, t, dx, v, e, us, R, rfl, hc, ht, hd, hm, hts, hz, q⟩ := h.ex
  have lu : us.length = R.length := by rw [hts.length, List.length_map]
  have leaf : ∀ (a : Addr) (x0 x1 : V), v = .ref a → SqT K H a [x0, x1] → (x0 = .str "num" ∨ x0 = .str "var") → e.code.map Rw.d = [e.d] → e.len = 1 → t_Coder_part K C (spPut C) (spPartC K C n) { nx := fun _ H' => Q .non H', rt := Q } (start ["self", "part"] [.ref c, v]) H := by
    rintro a x0 x1 rfl hT hx he hl
    refine rd_ixT (j := 0) rfl hT rfl ⟨(by show 2 ≤ sizeLine; decide), fun p hp => ⟨p, _, rfl, .inr (SqT.of upd_same), ?_⟩⟩
    have f1 : flatV x0 = true := by rcases hx with rfl | rfl <;> rfl
    have f2 : inV x0 ([.str "num", .str "var"] : List V) = true := by rcases hx with rfl | rfl <;> rfl
    refine ⟨f1, rfl, true, by rw [if_neg Bool.false_ne_true, f2], ifT rfl ?_⟩
    have s1 : Same H (L2.upd H p (.tup [.str "num", .str "var"])) := Same.new hp
    refine rMeth rfl (s1 _ _ hc) rfl ⟨_, rfl, c, m, t, dx, .ref a, us, rfl, s1 _ _ hc, s1 _ _ hm, by omega, ?_⟩
    have hm1 := s1 _ _ hm
    refine q (us ++ [.ref a]) _ upd_same ?_ ((Kp.same s1).trans (Kp.upd rfl))
    rw [List.map_append, he]
    exact ((hts.mono (Tk.same s1)).snoc (ht.mono (Tk.same s1))).mono (Tk.lst hm1)
  cases e with
  | num k =>
    obtain ⟨a, x0, x1, rfl, hT, h0, h1⟩ := ht.tup2
    exact leaf a x0 x1 rfl hT (.inl h0.strE) rfl rfl
  | var k =>
    obtain ⟨a, x0, x1, rfl, hT, h0, h1⟩ := ht.tup2
    exact leaf a x0 x1 rfl hT (.inr h0.strE) rfl rfl
  | bin o e1 e2 =>
    obtain ⟨a, x0, x1, x2, rfl, hT, h0, h1, h2⟩ := ht.tup3
    cases h0.strE
    have hd' : max e1.dep e2.dep + 1 ≤ n + 1 := hd
    have hz' : R.length + (e1.len + e2.len + 1) ≤ 500000 := hz
    refine rd_ixT (j := 0) rfl hT rfl ⟨(by show 2 ≤ sizeLine; decide), fun p hp => ⟨p, _, rfl, .inr (SqT.of upd_same), rfl, rfl, false, ?_, ifF rfl ?_⟩⟩
    · rw [if_neg Bool.false_ne_true]; cases o <;> rfl
    have s1 : Same H (L2.upd H p (.tup [.str "num", .str "var"])) := Same.new hp
    have cm : c ≠ m := ne_of hc hm (by intro z; cases z)
    refine rMeth rfl (s1 _ _ hc) rfl (rd_ixT (j := 1) rfl (s1.sqT hT) rfl ⟨c, m, t, dx, x1, e1, us, R, rfl, s1 _ _ hc, h1.mono (Tk.same s1), by omega, s1 _ _ hm, hts.mono (Tk.same s1), by omega, fun us1 H1 hm1 ht1 kp1 => ?_⟩)
    have tk1 : Tk H H1 := (Tk.same s1).trans (kp1.tk1 (s1 _ _ hm))
    have hc1 := kp1 _ _ (s1 _ _ hc) cm
    refine rMeth rfl hc1 rfl (rd_ixT (j := 2) rfl (tk1.sqT hT) rfl ⟨c, m, t, dx, x2, e2, us1, R ++ e1.code, rfl, hc1, h2.mono tk1, by omega, hm1, ht1, by simp [Ex.code_len]; omega, fun us2 H2 hm2 ht2 kp2 => ?_⟩)
    have tk2 := tk1.trans (kp2.tk1 hm1)
    have hc2 := kp2 _ _ hc1 cm
    refine rMeth rfl hc2 rfl (rd_ixT (j := 0) rfl (tk2.sqT hT) rfl ⟨(by show 1 ≤ sizeLine; decide), fun p2 hp2 => ?_⟩)
    have hm3 : L2.upd H2 p2 (.tup [.str o.s]) m = some (.lst us2) := by rw [upd_ne (ne_of_none hm2 hp2)]; exact hm2
    have hc3 : L2.upd H2 p2 (.tup [.str o.s]) c = some (.ins C dx (cfs m t)) := by rw [upd_ne (ne_of_none hc2 hp2)]; exact hc2
    have l2 : us2.length = R.length + e1.len + e2.len := by rw [ht2.length]; simp [Ex.code_len]; omega
    refine ⟨c, m, t, dx, .ref p2, us2, rfl, hc3, hm3, by omega, ?_⟩
    refine q (us2 ++ [.ref p2]) _ upd_same ?_ ((((Kp.same s1).trans kp1).trans kp2).trans ((Kp.new hp2).trans (Kp.upd rfl)))
    rw [show (R ++ (Ex.bin o e1 e2).code).map Rw.d = (R ++ e1.code ++ e2.code).map Rw.d ++ [(Rw.op o).d] by simp [Ex.code]]
    exact ((ht2.mono (Tk.new hp2)).snoc (Tp.mk hp2 (.cons (.str _) .nil))).mono (Tk.lst hm3)
end
end Lp

/-! L4c: the program's coding: lay and what it asks. -/
namespace Lp
open PySem PySem.Spec PyProof.Rows L2
def t_Coder_plain (K : PySem.W.Frag) (C_Coder : Addr) (sp_Coder_part : Sp) (sp_Coder_put : Sp) : TS :=
  tSeq (tAsg (tOp (rIxT K) (tVar 1) (tC (.int 0))) (gName 2)) (tIfS (tTest (tOp rEq (tVar 2) (tC (.str "call")))) (tSeq (tFor (iTup K (tOp (rIxT K) (tVar 1) (tC (.int 3)))) (gName 3) (tDrop (tMeth C_Coder "part" sp_Coder_part [] E0 (tVar 0) (tCons (tVar 3) (tNil))))) (tSeq (tDrop (tMeth C_Coder "put" sp_Coder_put [] E0 (tVar 0) (tCons (tTup (tCons (tC (.str "call")) (tCons (tOp (rIxT K) (tVar 1) (tC (.int 2))) (tCons (tCB (rLenQ K) (tCons (tOp (rIxT K) (tVar 1) (tC (.int 3))) (tNil))) (tCons (tOp (rIxT K) (tVar 1) (tC (.int 4))) (tNil)))))) (tNil)))) (tDrop (tMeth C_Coder "put" sp_Coder_put [] E0 (tVar 0) (tCons (tTup (tCons (tC (.str "set")) (tCons (tOp (rIxT K) (tVar 1) (tC (.int 1))) (tNil)))) (tNil)))))) (tIfS (tTest (tOp rEq (tVar 2) (tC (.str "again")))) (tDrop (tMeth C_Coder "put" sp_Coder_put [] E0 (tVar 0) (tCons (tVar 1) (tNil)))) (tIfS (tTest (tOp rEq (tVar 2) (tC (.str "raise")))) (tSeq (tDrop (tMeth C_Coder "part" sp_Coder_part [] E0 (tVar 0) (tCons (tOp (rIxT K) (tVar 1) (tC (.int 2))) (tNil)))) (tDrop (tMeth C_Coder "put" sp_Coder_put [] E0 (tVar 0) (tCons (tTup (tCons (tC (.str "raise")) (tCons (tOp (rIxT K) (tVar 1) (tC (.int 1))) (tCons (tOp (rIxT K) (tVar 1) (tC (.int 3))) (tNil))))) (tNil))))) (tIfS (tTest (tOp rEq (tVar 2) (tC (.str "set")))) (tSeq (tDrop (tMeth C_Coder "part" sp_Coder_part [] E0 (tVar 0) (tCons (tOp (rIxT K) (tVar 1) (tC (.int 2))) (tNil)))) (tDrop (tMeth C_Coder "put" sp_Coder_put [] E0 (tVar 0) (tCons (tTup (tCons (tC (.str "set")) (tCons (tOp (rIxT K) (tVar 1) (tC (.int 1))) (tNil)))) (tNil))))) (tSeq (tDrop (tMeth C_Coder "part" sp_Coder_part [] E0 (tVar 0) (tCons (tOp (rIxT K) (tVar 1) (tC (.int 1))) (tNil)))) (tDrop (tMeth C_Coder "put" sp_Coder_put [] E0 (tVar 0) (tCons (tTup (tCons (tVar 2) (tNil))) (tNil)))))))))

section
variable {K : PySem.W.Frag} {C dx : Addr} {H H' H1 H2 : Hp} {c m t : Addr} {ts : List V} {w : Option Wh} {R : List Rw} {Q : VK} {E : XK} {σ : L2.St}
theorem pPut {x : V} {r : Rw} (s : CoSt K C dx H c m t ts w R) (hx : Tp K H x r.d) (hz : R.length ≤ 500000)
    (q : ∀ H3, CoSt K C dx H3 c m t ts w (R ++ [r]) → Kp (fun x => x = m) H H3 → Q (.int (R.length : Int)) H3) : spPut C [.ref c, x] H Q E0 := by
  obtain ⟨us, hm, tus⟩ := s.made
  have lu : us.length = R.length := by rw [tus.length, List.length_map]
  refine ⟨c, m, t, dx, x, us, rfl, s.ins, hm, by omega, ?_⟩
  rw [lu]
  refine q _ (s.setM (Kp.upd rfl) upd_same ?_ (by simp)) (Kp.upd rfl)
  rw [List.map_append]
  exact (tus.snoc hx).mono (Tk.lst hm)
theorem pPart {v : V} {e : Ex} {n : Nat} (s : CoSt K C dx H c m t ts w R) (hv : Tp K H v e.d) (hd : e.dep ≤ n) (hz : R.length + e.len ≤ 500000)
    (q : ∀ H3, CoSt K C dx H3 c m t ts w (R ++ e.code) → Kp (fun x => x = m) H H3 → Q .non H3) : spPartC K C n [.ref c, v] H Q E0 := by
  obtain ⟨us, hm, tus⟩ := s.made
  exact ⟨c, m, t, dx, v, e, us, R, rfl, s.ins, hv, hd, hm, tus, hz, fun us' H3 hm3 t3 k3 => q H3 (s.setM k3 hm3 t3 (by simp)) k3⟩
theorem CoSt.ln (s : CoSt K C dx H c m t ts w R) : ∃ us, H m = some (.lst us) ∧ us.length = R.length := by
  obtain ⟨us, hm, tus⟩ := s.made
  exact ⟨us, hm, by rw [tus.length, List.length_map]⟩
theorem CoSt.pset {k : Int} (s : CoSt K C dx H c m t ts w R) (h0 : 0 ≤ k) (hk : k < R.length) : ∃ us, H m = some (.lst us) ∧ ixN us.length k = some k.toNat ∧
    ∀ (x : V) (r : Rw), Tp K H x r.d → CoSt K C dx (L2.upd H m (.lst (us.set k.toNat x))) c m t ts w (R.set k.toNat r) := by
  obtain ⟨us, hm, tus⟩ := s.made
  have lu : us.length = R.length := by rw [tus.length, List.length_map]
  refine ⟨us, hm, ?_, fun x r hx => s.setM (Kp.upd rfl) upd_same ?_ (by simp)⟩
  · have := ixN_n (n := us.length) (j := k.toNat) (by omega)
    rwa [Int.toNat_of_nonneg h0] at this
  · rw [List.map_set]
    exact (tus.set hx).mono (Tk.lst hm)
theorem pTurn {x : Wh} {j : Nat} {v : V} (T : CoTxt K C) (s : CoSt K C dx H c m t ts (some x) R) (hs : σ[0]? = some (some (.ref c))) (e : [V.int x.top, .int x.D, .ref x.pl][j]? = some v) (q : Q v H) :
    tOp (rIxL K) (tOp (rIxL K) (tFld K (tVar 0) "turns") (tUn rNeg (tC (.int 1)))) (tC (.int (j : Int))) σ H Q := by
  obtain ⟨⟨r, hr⟩, hu, _⟩ := s.trn.wh x rfl
  refine ⟨_, hs, c, C, dx, _, _, rfl, s.ins, T.cl, T.turns, cfs_turns, _, rfl, t, ts, -1, .ref x.u, rfl, rfl, SqL.of s.trn.turns, ?_, x.u, _, _, v, rfl, rfl, SqL.of hu, atI_nat e, q⟩
  rw [hr]; exact atI_last _ _
/-- what a statement's coding is asked and told -/
structure LayP (K : PySem.W.Frag) (C : Addr) (P : Sm → Prop) (n : Nat) (vs : List V) (H : Hp) (Q : VK) : Prop where
  ex : ∃ (c dx m t : Addr) (ts : List V) (w : Option Wh) (R : List Rw) (v : V) (s : Sm) (D : Int) (cs : List Nat) (nk : Nat) (hand : Bool), vs = [.ref c, v, .int D] ∧ CoSt K C dx H c m t ts w R ∧ Tp K H v s.d ∧ s.Wf cs nk w.isSome hand ∧ s.dep ≤ n ∧ ts.length + n ≤ 900 ∧ R.length + s.len ≤ 100000 ∧ P s ∧
  ∀ H', CoSt K C dx H' c m t ts (addW (s.bks R.length) w) (R ++ s.code R.length D (tnW w)) → Kp (BW m t w) H H' → Q .non H'
def spLay (K : PySem.W.Frag) (C : Addr) (P : Sm → Prop) (n : Nat) : Sp := fun vs H Q _ => LayP K C P n vs H Q
theorem spLay_zero {P : Sm → Prop} (vs : List V) (H : Hp) (Q : VK) (E : XK) : ¬ spLay K C P 0 vs H Q E := by
  rintro ⟨⟨c, dx, m, t, ts, w, R, v, s, D, cs, nk, hand, _, _, _, _, h, _⟩⟩
  have := s.dep_pos
  omega
theorem pLay {P : Sm → Prop} {n : Nat} {v : V} {s : Sm} {D B : Int} {cs : List Nat} {nk : Nat} {hand : Bool} (st : CoSt K C dx H c m t ts w R) (hv : Tp K H v s.d) (wf : s.Wf cs nk w.isSome hand) (hd : s.dep ≤ n) (ht : ts.length + n ≤ 900) (hz : R.length + s.len ≤ 100000) (hP : P s) (hB : (R.length : Int) = B)
    (q : ∀ H', CoSt K C dx H' c m t ts (addW (s.bks B) w) (R ++ s.code B D (tnW w)) → Kp (BW m t w) H H' → Q .non H') : spLay K C P n [.ref c, v, .int D] H Q E0 := by
  subst hB
  exact ⟨c, dx, m, t, ts, w, R, v, s, D, cs, nk, hand, rfl, st, hv, wf, hd, ht, hz, hP, q⟩
structure PlainP (K : PySem.W.Frag) (C : Addr) (vs : List V) (H : Hp) (Q : VK) : Prop where
  ex : ∃ (c dx m t : Addr) (ts : List V) (w : Option Wh) (R : List Rw) (v : V) (s : Sm) (cs : List Nat) (nk : Nat) (turn hand : Bool), vs = [.ref c, v] ∧ CoSt K C dx H c m t ts w R ∧ Tp K H v s.d ∧ s.Wf cs nk turn hand ∧ s.plain = true ∧ s ≠ .brk ∧ s ≠ .cnt ∧ R.length + s.len ≤ 100000 ∧
  ∀ H', CoSt K C dx H' c m t ts w (R ++ s.code 0 0 (0, 0, 0)) → Kp (fun x => x = m) H H' → Q .non H'
def spPlain (K : PySem.W.Frag) (C : Addr) : Sp := fun vs H Q _ => PlainP K C vs H Q
end
section
variable {K : PySem.W.Frag} {C : Addr}
abbrev N_plain : List Str := ["self", "one", "word", "part"]
theorem rd_plain (T : CoTxt K C) (vs : List V) (H : Hp) (Q : VK) (E : XK) (h : spPlain K C vs H Q E) : t_Coder_plain K C (spPartC K C 6) (spPut C) { nx := fun _ H' => Q .non H', rt := Q } (start N_plain vs) H := by
  obtain ⟨c, dx, m, t, ts, w, R, v, s, cs, nk, turn, hand, rfl, st, ht, wf, hp, nb, nc, hz, q⟩ := h.ex
  cases s with
  | say e =>
    obtain ⟨a, x0, x1, rfl, hT, h0, h1⟩ := ht.tup2
    cases h0.strE
    obtain ⟨_, de⟩ : e.Wf ∧ e.dep ≤ 5 := wf
    have hl : R.length + (e.len + 1) ≤ 100000 := hz
    refine rd_ixT (j := 0) rfl hT rfl (r_ifF (pb_is (pb_eqS rfl) rfl) (r_ifF (pb_is (pb_eqS rfl) rfl) (r_ifF (pb_is (pb_eqS rfl) rfl) (r_ifF (pb_is (pb_eqS rfl) rfl) ?_))))
    refine rMeth rfl st.ins rfl (rd_ixT (j := 1) rfl hT rfl (pPart st h1 (by omega) (by omega) fun H1 s1 k1 => ?_))
    refine rMeth rfl s1.ins rfl ⟨_, rfl, (by show 1 ≤ sizeLine; decide), fun p hp => pPut (r := .say) (s1.same (Same.new hp)) (Tp.mk hp (.cons (.str _) .nil)) (by simp [Ex.code_len]; omega) fun H2 s2 k2 => ?_⟩
    exact q H2 (s2.lst (by simp [Sm.code])) (k1.trans ((Kp.new hp).trans k2))
  | ret e =>
    obtain ⟨a, x0, x1, rfl, hT, h0, h1⟩ := ht.tup2
    cases h0.strE
    obtain ⟨_, de⟩ : e.Wf ∧ e.dep ≤ 5 := wf
    have hl : R.length + (e.len + 1) ≤ 100000 := hz
    refine rd_ixT (j := 0) rfl hT rfl (r_ifF (pb_is (pb_eqS rfl) rfl) (r_ifF (pb_is (pb_eqS rfl) rfl) (r_ifF (pb_is (pb_eqS rfl) rfl) (r_ifF (pb_is (pb_eqS rfl) rfl) ?_))))
    refine rMeth rfl st.ins rfl (rd_ixT (j := 1) rfl hT rfl (pPart st h1 (by omega) (by omega) fun H1 s1 k1 => ?_))
    refine rMeth rfl s1.ins rfl ⟨_, rfl, (by show 1 ≤ sizeLine; decide), fun p hp => pPut (r := .ret) (s1.same (Same.new hp)) (Tp.mk hp (.cons (.str _) .nil)) (by simp [Ex.code_len]; omega) fun H2 s2 k2 => ?_⟩
    exact q H2 (s2.lst (by simp [Sm.code])) (k1.trans ((Kp.new hp).trans k2))
  | set k e =>
    obtain ⟨a, x0, x1, x2, rfl, hT, h0, h1, h2⟩ := ht.tup3
    cases h0.strE; cases h1.intE
    obtain ⟨_, _, de⟩ : k < 8 ∧ e.Wf ∧ e.dep ≤ 5 := wf
    have hl : R.length + (e.len + 1) ≤ 100000 := hz
    refine rd_ixT (j := 0) rfl hT rfl (r_ifF (pb_is (pb_eqS rfl) rfl) (r_ifF (pb_is (pb_eqS rfl) rfl) (r_ifF (pb_is (pb_eqS rfl) rfl) (r_ifT (pb_is (pb_eqS rfl) rfl) ?_))))
    refine rMeth rfl st.ins rfl (rd_ixT (j := 2) rfl hT rfl (pPart st h2 (by omega) (by omega) fun H1 s1 k1 => ?_))
    refine rMeth rfl s1.ins rfl (rd_ixT (j := 1) rfl ((st.tk1 k1).sqT hT) rfl ⟨(by show 2 ≤ sizeLine; decide), fun p hp => pPut (r := .set k) (s1.same (Same.new hp)) (Tp.mk hp (.cons (.str _) (.cons (.int _) .nil))) (by simp [Ex.code_len]; omega) fun H2 s2 k2 => ?_⟩)
    exact q H2 (s2.lst (by simp [Sm.code])) (k1.trans ((Kp.new hp).trans k2))
  | rais kd e mm =>
    obtain ⟨a, x0, x1, x2, x3, rfl, hT, h0, h1, h2, h3⟩ := ht.tup4
    cases h0.strE; cases h1.intE; cases h3.intE
    obtain ⟨_, ⟨_, de⟩, _⟩ : kd < nk ∧ (e.Wf ∧ e.dep ≤ 5) ∧ 0 ≤ mm ∧ mm < 1000 := wf
    have hl : R.length + (e.len + 1) ≤ 100000 := hz
    refine rd_ixT (j := 0) rfl hT rfl (r_ifF (pb_is (pb_eqS rfl) rfl) (r_ifF (pb_is (pb_eqS rfl) rfl) (r_ifT (pb_is (pb_eqS rfl) rfl) ?_)))
    refine rMeth rfl st.ins rfl (rd_ixT (j := 2) rfl hT rfl (pPart st h2 (by omega) (by omega) fun H1 s1 k1 => ?_))
    refine rMeth rfl s1.ins rfl (rd_ixT (j := 1) rfl ((st.tk1 k1).sqT hT) rfl (rd_ixT (j := 3) rfl ((st.tk1 k1).sqT hT) rfl ⟨(by show 3 ≤ sizeLine; decide), fun p hp => pPut (r := .rais kd mm) (s1.same (Same.new hp)) (Tp.mk hp (.cons (.str _) (.cons (.int _) (.cons (.int _) .nil)))) (by simp [Ex.code_len]; omega) fun H2 s2 k2 => ?_⟩))
    exact q H2 (s2.lst (by simp [Sm.code])) (k1.trans ((Kp.new hp).trans k2))
  | again =>
    obtain ⟨a, x0, rfl, hT, h0⟩ := id ht.tup1
    cases h0.strE
    have hl : R.length + 1 ≤ 100000 := hz
    refine rd_ixT (j := 0) rfl hT rfl (r_ifF (pb_is (pb_eqS rfl) rfl) (r_ifT (pb_is (pb_eqS rfl) rfl) ?_))
    refine rMeth rfl st.ins rfl ⟨_, rfl, pPut (r := .again) st ht (by omega) fun H2 s2 k2 => ?_⟩
    exact q H2 s2 k2
  | call k f ps mm =>
    obtain ⟨a, x0, x1, x2, x3, x4, rfl, hT, h0, h1, h2, h3, h4⟩ := ht.tup5
    cases h0.strE; cases h1.intE; cases h2.intE; cases h4.intE
    obtain ⟨pa, pxs, rfl, hTp, htp⟩ := h3.tupE
    obtain ⟨_, _, lp, wps, _⟩ : k < 8 ∧ cs[f]? = some ps.length ∧ ps.length ≤ 3 ∧ (∀ e ∈ ps, e.Wf ∧ e.dep ≤ 5) ∧ 0 ≤ mm ∧ mm < 1000 := wf
    have lpx : pxs.length = ps.length := by rw [htp.length, List.length_map]
    have hl : R.length + (exsLen ps + 2) ≤ 100000 := hz
    refine rd_ixT (j := 0) rfl hT rfl (r_ifT (pb_is (pb_eqS rfl) rfl) (rd_ixT (j := 3) rfl hT rfl ⟨pa, rfl, ⟨_, hTp⟩, for_tup (K := K) (a := pa) (xs := pxs) (fun i σ H' => ∃ (r : List Ex) (pre : List Rw) (v3 : Option V), σ = [some (.ref c), some (.ref a), some (.str "call"), v3] ∧ CoSt K C dx H' c m t ts w (R ++ pre) ∧ Kp (fun x => x = m) H H' ∧ TpAll K H (pxs.drop i) (r.map Ex.d) ∧ (∀ e ∈ r, e.dep ≤ 5) ∧ pre.length + exsLen r = exsLen ps ∧ pre ++ exsCode r = exsCode ps)
      ⟨ps, [], none, rfl, st.lst (by simp), Kp.refl _ _, by rw [List.drop_zero]; exact htp, fun e he => (wps e he).2, by simp, by simp⟩ (fun i σ H' _ ⟨_, _, _, _, _, k', _⟩ => (st.tk1 k').sqT hTp) ?_ ?_⟩))
    · rintro i x σ H1 hx ⟨r, pre, v3, rfl, s1, k1, tr, dr, lr, er⟩
      obtain ⟨e, r', rfl, tx, tr'⟩ := exs_at tr hx
      have lr2 : pre.length + (e.len + exsLen r') = exsLen ps := lr
      refine rMeth rfl s1.ins rfl ⟨_, rfl, pPart s1 (tx.mono (st.tk1 k1)) (by have := dr e List.mem_cons_self; omega) (by simp; omega) fun H2 s2 k2 => ?_⟩
      exact ⟨r', pre ++ e.code, _, rfl, s2.lst (by simp), k1.trans k2, tr', fun y hy => dr y (List.mem_cons_of_mem _ hy), by simp [Ex.code_len]; omega, by rw [← er]; simp [exsCode]⟩
    · rintro σ H1 ⟨r, pre, v3, rfl, s1, k1, tr, dr, lr, er⟩
      cases exs_end tr
      obtain rfl : pre = exsCode ps := by simpa [exsCode] using er
      have tk1 := st.tk1 k1
      refine rMeth rfl s1.ins rfl (rd_ixT (j := 2) rfl (tk1.sqT hT) rfl (rd_ixT (j := 3) rfl (tk1.sqT hT) rfl ⟨pa, pxs, rfl, .inr (tk1.sqT hTp), rd_ixT (j := 4) rfl (tk1.sqT hT) rfl ⟨(by show 4 ≤ sizeLine; decide), fun p hp => ?_⟩⟩))
      rw [lpx]
      refine pPut (r := .call f ps.length mm) (s1.same (Same.new hp)) (Tp.mk hp (.cons (.str _) (.cons (.int _) (.cons (.int _) (.cons (.int _) .nil))))) (by simp [exsCode_len]; omega) fun H2 s2 k2 => ?_
      have k12 := k1.trans ((Kp.new hp).trans k2)
      refine rMeth rfl s2.ins rfl (rd_ixT (j := 1) rfl ((st.tk1 k12).sqT hT) rfl ⟨(by show 2 ≤ sizeLine; decide), fun p2 hp2 => pPut (r := .set k) (s2.same (Same.new hp2)) (Tp.mk hp2 (.cons (.str _) (.cons (.int _) .nil))) (by simp [exsCode_len]; omega) fun H3 s3 k3 => ?_⟩)
      exact q H3 (s3.lst (by simp [Sm.code])) (k12.trans ((Kp.new hp2).trans k3))
  | brk => exact absurd rfl nb
  | cnt => exact absurd rfl nc
  | _ => cases hp
end
end Lp

/-! L4d: the program's coding: statements with others in them. -/
namespace Lp
open PySem PySem.Spec PyProof.Rows L2
def t_Coder_choice (K : PySem.W.Frag) (C_Coder : Addr) (sp_Coder_part : Sp) (sp_Coder_put : Sp) (sp_Coder_lay : Sp) : TS :=
  tSeq (tDrop (tMeth C_Coder "part" sp_Coder_part [] E0 (tVar 0) (tCons (tOp (rIxT K) (tVar 1) (tC (.int 1))) (tNil)))) (tSeq (tAsg (tMeth C_Coder "put" sp_Coder_put [] E0 (tVar 0) (tCons (tTup (tCons (tC (.str "unless")) (tCons (tC (.int 0)) (tNil)))) (tNil))) (gName 3)) (tSeq (tDrop (tMeth C_Coder "lay" sp_Coder_lay [] E0 (tVar 0) (tCons (tOp (rIxT K) (tVar 1) (tC (.int 2))) (tCons (tVar 2) (tNil))))) (tSeq (tAsg (tMeth C_Coder "put" sp_Coder_put [] E0 (tVar 0) (tCons (tTup (tCons (tC (.str "go")) (tCons (tC (.int 0)) (tNil)))) (tNil))) (gName 4)) (tSeq (tAsg (tTup (tCons (tC (.str "unless")) (tCons (tCB (rLenQ K) (tCons (tFld K (tVar 0) "made") (tNil))) (tNil)))) (gSub (tFld K (tVar 0) "made") (tVar 3) rSetL)) (tSeq (tDrop (tMeth C_Coder "lay" sp_Coder_lay [] E0 (tVar 0) (tCons (tOp (rIxT K) (tVar 1) (tC (.int 3))) (tCons (tVar 2) (tNil))))) (tAsg (tTup (tCons (tC (.str "go")) (tCons (tCB (rLenQ K) (tCons (tFld K (tVar 0) "made") (tNil))) (tNil)))) (gSub (tFld K (tVar 0) "made") (tVar 4) rSetL)))))))

def t_Coder_cleaned (K : PySem.W.Frag) (C_Coder : Addr) (sp_Coder_lay : Sp) (sp_Coder_put : Sp) : TS :=
  tSeq (tAsg (tCB (rLenQ K) (tCons (tFld K (tVar 0) "made") (tNil))) (gName 3)) (tSeq (tDrop (tMeth C_Coder "lay" sp_Coder_lay [] E0 (tVar 0) (tCons (tOp (rIxT K) (tVar 1) (tC (.int 1))) (tCons (tVar 2) (tNil))))) (tSeq (tDrop (tMeth C_Coder "put" sp_Coder_put [] E0 (tVar 0) (tCons (tTup (tCons (tC (.str "mend")) (tNil))) (tNil)))) (tSeq (tAsg (tCB (rLenQ K) (tCons (tFld K (tVar 0) "made") (tNil))) (gName 4)) (tSeq (tDrop (tMeth C_Coder "put" sp_Coder_put [] E0 (tVar 0) (tCons (tTup (tCons (tC (.str "cleanup")) (tCons (tVar 3) (tCons (tVar 4) (tCons (tVar 2) (tNil)))))) (tNil)))) (tSeq (tDrop (tMeth C_Coder "lay" sp_Coder_lay [] E0 (tVar 0) (tCons (tOp (rIxT K) (tVar 1) (tC (.int 2))) (tCons (tOp rAdI (tVar 2) (tC (.int 1))) (tNil))))) (tDrop (tMeth C_Coder "put" sp_Coder_put [] E0 (tVar 0) (tCons (tTup (tCons (tC (.str "resume")) (tNil))) (tNil)))))))))

def PIf (s : Sm) : Prop := ∃ e a b, s = .ife e a b
def PWhl (s : Sm) : Prop := ∃ e a, s = .whl e a
def PTri (s : Sm) : Prop := ∃ a h, s = .tri a h
def PCln (s : Sm) : Prop := ∃ a b, s = .cln a b
def PAny (_ : Sm) : Prop := True
section
variable {K : PySem.W.Frag} {C : Addr}
abbrev N_choice : List Str := ["self", "one", "depth", "here", "leave"]
theorem rd_choice (T : CoTxt K C) {n : Nat} (vs : List V) (H : Hp) (Q : VK) (E : XK) (h : spLay K C PIf (n + 1) vs H Q E) : t_Coder_choice K C (spPartC K C 6) (spPut C) (spLay K C PAny n) { nx := fun _ H' => Q .non H', rt := Q } (start N_choice vs) H := by
  obtain ⟨c, dx, m, t, ts, w, R, v, s, D, cs, nk, hand, rfl, st, ht, wf, hd, hts, hz, ⟨e, s1, s2, rfl⟩, q⟩ := h.ex
  obtain ⟨a, x0, x1, x2, x3, rfl, hT, h0, h1, h2, h3⟩ := ht.tup4
  obtain ⟨⟨_, de⟩, wa, wb⟩ : (e.Wf ∧ e.dep ≤ 5) ∧ s1.Wf cs nk w.isSome hand ∧ s2.Wf cs nk w.isSome hand := wf
  have hl : R.length + (e.len + 1 + s1.len + 1 + s2.len) ≤ 100000 := hz
  have hd' : max s1.dep s2.dep + 1 ≤ n + 1 := hd
  refine rMeth rfl st.ins rfl (rd_ixT (j := 1) rfl hT rfl (pPart st h1 (by omega) (by omega) fun H1 st1 k1 => ?_))
  have l1 : (R ++ e.code).length = R.length + e.len := by simp [Ex.code_len]
  refine rMeth rfl st1.ins rfl ⟨(by show 2 ≤ sizeLine; decide), fun p1 hp1 => pPut (r := .unless 0) (st1.same (Same.new hp1)) (Tp.mk hp1 (.cons (.str _) (.cons (.int _) .nil))) (by omega) fun H2 st2 k2 => ?_⟩
  have k12 := k1.trans ((Kp.new hp1).trans k2)
  have tk2 := st.tk1 k12
  refine rMeth rfl st2.ins rfl (rd_ixT (j := 2) rfl (tk2.sqT hT) rfl ⟨_, rfl, pLay (B := (R.length : Int) + e.len + 1) st2 (h2.mono tk2) wa (by omega) (by omega) (by simp [Ex.code_len]; omega) trivial (by simp [Ex.code_len]; omega) fun H3 st3 k3 => ?_⟩)
  have k13 : Kp (BW m t w) H H3 := (KpW k12).trans k3
  have l3 : (R ++ e.code ++ [Rw.unless 0] ++ s1.code ((R.length : Int) + e.len + 1) D (tnW w)).length = R.length + e.len + 1 + s1.len := by simp [Ex.code_len, Sm.code_len]; omega
  refine rMeth rfl st3.ins rfl ⟨(by show 2 ≤ sizeLine; decide), fun p2 hp2 => pPut (r := .go 0) (st3.same (Same.new hp2)) (Tp.mk hp2 (.cons (.str _) (.cons (.int _) .nil))) (by omega) fun H4 st4 k4 => ?_⟩
  have k14 : Kp (BW m t w) H H4 := k13.trans (KpW ((Kp.new hp2).trans k4))
  -- the first place
  obtain ⟨us, hm4, lu4⟩ := st4.ln
  refine ⟨_, rfl, c, C, dx, _, _, rfl, st4.ins, T.cl, T.made, cfs_made, m, us, rfl, .inl (SqL.of hm4), (by show 2 ≤ sizeLine; decide), fun p3 hp3 => ?_⟩
  rw [lu4]
  have st4' := st4.same (Same.new (o := .tup [.str "unless", .int (((R ++ e.code ++ [Rw.unless 0] ++ s1.code ((R.length : Int) + e.len + 1) D (tnW w) ++ [Rw.go 0]).length : Nat) : Int)]) hp3)
  obtain ⟨us2, hm5, ix5, z5⟩ := st4'.pset (k := (((R ++ e.code).length : Nat) : Int)) (by omega) (by simp; omega)
  refine ⟨_, rfl, c, C, dx, _, _, rfl, st4'.ins, T.cl, T.made, cfs_made, _, rfl, m, us2, _, _, rfl, rfl, hm5, ix5, ?_⟩
  have st5 := z5 (.ref p3) (.unless ((R.length : Int) + e.len + 1 + s1.len + 1)) (by
    rw [List.length_append, l3]
    rw [show ((R.length : Int) + e.len + 1 + s1.len + 1) = ((R.length + e.len + 1 + s1.len + [Rw.go 0].length : Nat) : Int) by simp]
    exact Tp.mk hp3 (.cons (.str _) (.cons (.int _) .nil)))
  have st5 := st5.lst (R' := R ++ e.code ++ [Rw.unless ((R.length : Int) + e.len + 1 + s1.len + 1)] ++ s1.code ((R.length : Int) + e.len + 1) D (tnW w) ++ [.go 0]) (by
    rw [show R ++ e.code ++ [Rw.unless 0] ++ s1.code ((R.length : Int) + e.len + 1) D (tnW w) ++ [.go 0] = (R ++ e.code) ++ Rw.unless 0 :: (s1.code ((R.length : Int) + e.len + 1) D (tnW w) ++ [.go 0]) by simp]
    rw [set_mid (Int.toNat_natCast _).symm]
    simp)
  generalize hH5 : L2.upd (L2.upd H4 p3 _) m (.lst (us2.set _ (.ref p3))) = H5 at st5 ⊢
  have k15 : Kp (BW m t w) H H5 := by
    rw [← hH5]
    exact k14.trans ((Kp.new hp3).trans (Kp.upd (.inl rfl)))
  have tk5 := st.tk k15
  refine rMeth rfl st5.ins rfl (rd_ixT (j := 3) rfl (tk5.sqT hT) rfl ⟨_, rfl, pLay (B := (R.length : Int) + e.len + 1 + s1.len + 1) st5 (h3.mono tk5) (by rw [addW_some]; exact wb) (by omega) (by omega) (by simp [Ex.code_len, Sm.code_len]; omega) trivial (by simp [Ex.code_len, Sm.code_len]; omega) fun H6 st6 k6 => ?_⟩)
  rw [BW_add] at k6
  rw [tnW_add, addW_app] at st6
  have k16 := k15.trans k6
  obtain ⟨us6, hm6, lu6⟩ := st6.ln
  refine ⟨_, rfl, c, C, dx, _, _, rfl, st6.ins, T.cl, T.made, cfs_made, m, us6, rfl, .inl (SqL.of hm6), (by show 2 ≤ sizeLine; decide), fun p7 hp7 => ?_⟩
  rw [lu6]
  have l6 : ((R ++ e.code ++ [Rw.unless ((R.length : Int) + e.len + 1 + s1.len + 1)] ++ s1.code ((R.length : Int) + e.len + 1) D (tnW w) ++ [Rw.go 0] ++ s2.code ((R.length : Int) + e.len + 1 + s1.len + 1) D (tnW w)).length : Nat) = R.length + e.len + 1 + s1.len + 1 + s2.len := by simp [Ex.code_len, Sm.code_len]; omega
  rw [l6]
  have st6' := st6.same (Same.new (o := .tup [.str "go", .int ((R.length + e.len + 1 + s1.len + 1 + s2.len : Nat) : Int)]) hp7)
  obtain ⟨us7, hm7, ix7, z7⟩ := st6'.pset (k := (((R ++ e.code ++ [Rw.unless 0] ++ s1.code ((R.length : Int) + e.len + 1) D (tnW w)).length : Nat) : Int)) (by omega) (by rw [l6, l3]; omega)
  refine ⟨_, rfl, c, C, dx, _, _, rfl, st6'.ins, T.cl, T.made, cfs_made, _, rfl, m, us7, _, _, rfl, rfl, hm7, ix7, ?_⟩
  have st7 := z7 (.ref p7) (.go ((R.length : Int) + e.len + 1 + s1.len + 1 + s2.len)) (by
    rw [show ((R.length : Int) + e.len + 1 + s1.len + 1 + s2.len) = ((R.length + e.len + 1 + s1.len + 1 + s2.len : Nat) : Int) by simp]
    exact Tp.mk hp7 (.cons (.str _) (.cons (.int _) .nil)))
  refine q _ (st7.lst ?_) (k16.trans ((Kp.new hp7).trans (Kp.upd (.inl rfl))))
  rw [show R ++ e.code ++ [Rw.unless ((R.length : Int) + e.len + 1 + s1.len + 1)] ++ s1.code ((R.length : Int) + e.len + 1) D (tnW w) ++ [.go 0] ++ s2.code ((R.length : Int) + e.len + 1 + s1.len + 1) D (tnW w) = (R ++ e.code ++ [Rw.unless ((R.length : Int) + e.len + 1 + s1.len + 1)] ++ s1.code ((R.length : Int) + e.len + 1) D (tnW w)) ++ Rw.go 0 :: s2.code ((R.length : Int) + e.len + 1 + s1.len + 1) D (tnW w) by simp]
  rw [set_mid (by rw [Int.toNat_natCast]; simp)]
  simp [Sm.code]
abbrev N_cleaned : List Str := ["self", "one", "depth", "begin", "end"]
theorem rd_cleaned (T : CoTxt K C) {n : Nat} (vs : List V) (H : Hp) (Q : VK) (E : XK) (h : spLay K C PCln (n + 1) vs H Q E) : t_Coder_cleaned K C (spLay K C PAny n) (spPut C) { nx := fun _ H' => Q .non H', rt := Q } (start N_cleaned vs) H := by
  obtain ⟨c, dx, m, t, ts, w, R, v, s, D, cs, nk, hand, rfl, st, ht, wf, hd, hts, hz, ⟨s1, s2, rfl⟩, q⟩ := h.ex
  obtain ⟨a, x0, x1, x2, rfl, hT, h0, h1, h2⟩ := ht.tup3
  obtain ⟨wa, wb⟩ : s1.Wf cs nk w.isSome hand ∧ s2.Wf cs nk w.isSome hand := wf
  have hl : R.length + (s1.len + 2 + s2.len + 1) ≤ 100000 := hz
  have hd' : max s1.dep s2.dep + 1 ≤ n + 1 := hd
  obtain ⟨us, hm0, lu0⟩ := st.ln
  refine ⟨_, rfl, c, C, dx, _, _, rfl, st.ins, T.cl, T.made, cfs_made, m, us, rfl, .inl (SqL.of hm0), ?_⟩
  rw [lu0]
  refine rMeth rfl st.ins rfl (rd_ixT (j := 1) rfl hT rfl ⟨_, rfl, pLay (B := (R.length : Int)) st h1 wa (by omega) (by omega) (by omega) trivial rfl fun H1 st1 k1 => ?_⟩)
  have l1 : (R ++ s1.code (R.length : Int) D (tnW w)).length = R.length + s1.len := by simp [Sm.code_len]
  refine rMeth rfl st1.ins rfl ⟨(by show 1 ≤ sizeLine; decide), fun p1 hp1 => pPut (r := .mend) (st1.same (Same.new hp1)) (Tp.mk hp1 (.cons (.str _) .nil)) (by omega) fun H2 st2 k2 => ?_⟩
  have k12 : Kp (BW m t w) H H2 := k1.trans (KpW ((Kp.new hp1).trans k2))
  obtain ⟨us2, hm2, lu2⟩ := st2.ln
  refine ⟨_, rfl, c, C, dx, _, _, rfl, st2.ins, T.cl, T.made, cfs_made, m, us2, rfl, .inl (SqL.of hm2), ?_⟩
  have e2 : (us2.length : Int) = (R.length : Int) + s1.len + 1 := by rw [lu2]; simp [Sm.code_len]; omega
  rw [e2]
  refine rMeth rfl st2.ins rfl ⟨_, rfl, _, rfl, _, rfl, (by show 4 ≤ sizeLine; decide), fun p2 hp2 => pPut (r := .cup R.length ((R.length : Int) + s1.len + 1) D) (st2.same (Same.new hp2)) (Tp.mk hp2 (.cons (.str _) (.cons (.int _) (.cons (.int _) (.cons (.int _) .nil))))) (by simp [Sm.code_len]; omega) fun H3 st3 k3 => ?_⟩
  have k13 : Kp (BW m t w) H H3 := k12.trans (KpW ((Kp.new hp2).trans k3))
  have tk3 := st.tk k13
  refine rMeth rfl st3.ins rfl (rd_ixT (j := 2) rfl (tk3.sqT hT) rfl ⟨_, rfl, _, _, rfl, rfl, pLay (B := (R.length : Int) + s1.len + 2) st3 (h2.mono tk3) (by rw [addW_some]; exact wb) (by omega) (by omega) (by simp [Sm.code_len]; omega) trivial (by simp [Sm.code_len]; omega) fun H4 st4 k4 => ?_⟩)
  rw [BW_add] at k4
  rw [tnW_add, addW_app] at st4
  have k14 := k13.trans k4
  refine rMeth rfl st4.ins rfl ⟨(by show 1 ≤ sizeLine; decide), fun p5 hp5 => pPut (r := .resume) (st4.same (Same.new hp5)) (Tp.mk hp5 (.cons (.str _) .nil)) (by simp [Sm.code_len]; omega) fun H5 st5 k5 => ?_⟩
  exact q H5 (st5.lst (by simp [Sm.code])) (k14.trans (KpW ((Kp.new hp5).trans k5)))
end
end Lp

/-! L4e: the program's coding: loop, tried, lay. -/
namespace Lp
open PySem PySem.Spec PyProof.Rows L2
def t_Coder_loop (K : PySem.W.Frag) (C_Coder : Addr) (sp_Coder_part : Sp) (sp_Coder_put : Sp) (sp_Coder_lay : Sp) : TS :=
  tSeq (tAsg (tCB (rLenQ K) (tCons (tFld K (tVar 0) "made") (tNil))) (gName 3)) (tSeq (tDrop (tMeth C_Coder "part" sp_Coder_part [] E0 (tVar 0) (tCons (tOp (rIxT K) (tVar 1) (tC (.int 1))) (tNil)))) (tSeq (tAsg (tMeth C_Coder "put" sp_Coder_put [] E0 (tVar 0) (tCons (tTup (tCons (tC (.str "unless")) (tCons (tC (.int 0)) (tNil)))) (tNil))) (gName 4)) (tSeq (tDrop (tMeth C_Coder "put" sp_Coder_put [] E0 (tVar 0) (tCons (tTup (tCons (tC (.str "turn")) (tNil))) (tNil)))) (tSeq (tDrop (tBM K "list" rAppend (tFld K (tVar 0) "turns") (tCons (tLst (tCons (tVar 3) (tCons (tVar 2) (tCons (tLst (tNil)) (tNil))))) (tNil)))) (tSeq (tDrop (tMeth C_Coder "lay" sp_Coder_lay [] E0 (tVar 0) (tCons (tOp (rIxT K) (tVar 1) (tC (.int 2))) (tCons (tVar 2) (tNil))))) (tSeq (tDrop (tMeth C_Coder "put" sp_Coder_put [] E0 (tVar 0) (tCons (tTup (tCons (tC (.str "go")) (tCons (tVar 3) (tNil)))) (tNil)))) (tSeq (tAsg (tTup (tCons (tC (.str "unless")) (tCons (tCB (rLenQ K) (tCons (tFld K (tVar 0) "made") (tNil))) (tNil)))) (gSub (tFld K (tVar 0) "made") (tVar 4) rSetL)) (tFor (iList K (tOp (rIxL K) (tBM0 K "list" rPop (tFld K (tVar 0) "turns")) (tC (.int 2)))) (gName 5) (tAsg (tTup (tCons (tC (.str "leap")) (tCons (tCB (rLenQ K) (tCons (tFld K (tVar 0) "made") (tNil))) (tCons (tVar 2) (tNil))))) (gSub (tFld K (tVar 0) "made") (tVar 5) rSetL))))))))))

def t_Coder_tried (K : PySem.W.Frag) (C_Coder : Addr) (sp_Coder_lay : Sp) (sp_Coder_put : Sp) : TS :=
  tSeq (tAsg (tCB (rLenQ K) (tCons (tFld K (tVar 0) "made") (tNil))) (gName 3)) (tSeq (tDrop (tMeth C_Coder "lay" sp_Coder_lay [] E0 (tVar 0) (tCons (tOp (rIxT K) (tVar 1) (tC (.int 1))) (tCons (tVar 2) (tNil))))) (tSeq (tAsg (tCB (rLenQ K) (tCons (tFld K (tVar 0) "made") (tNil))) (gName 4)) (tSeq (tAsg (tLst (tCons (tMeth C_Coder "put" sp_Coder_put [] E0 (tVar 0) (tCons (tTup (tCons (tC (.str "go")) (tCons (tC (.int 0)) (tNil)))) (tNil))) (tNil))) (gName 5)) (tSeq (tFor (iTup K (tOp (rIxT K) (tVar 1) (tC (.int 2)))) (gName 6) (tSeq (tDrop (tMeth C_Coder "put" sp_Coder_put [] E0 (tVar 0) (tCons (tTup (tCons (tC (.str "handler")) (tCons (tVar 3) (tCons (tVar 4) (tCons (tOp (rIxT K) (tVar 6) (tC (.int 0))) (tCons (tVar 2) (tNil))))))) (tNil)))) (tSeq (tDrop (tMeth C_Coder "put" sp_Coder_put [] E0 (tVar 0) (tCons (tTup (tCons (tC (.str "set")) (tCons (tOp (rIxT K) (tVar 6) (tC (.int 1))) (tNil)))) (tNil)))) (tSeq (tDrop (tMeth C_Coder "lay" sp_Coder_lay [] E0 (tVar 0) (tCons (tOp (rIxT K) (tVar 6) (tC (.int 2))) (tCons (tOp rAdI (tVar 2) (tC (.int 1))) (tNil))))) (tSeq (tDrop (tMeth C_Coder "put" sp_Coder_put [] E0 (tVar 0) (tCons (tTup (tCons (tC (.str "settled")) (tNil))) (tNil)))) (tDrop (tBM K "list" rAppend (tVar 5) (tCons (tMeth C_Coder "put" sp_Coder_put [] E0 (tVar 0) (tCons (tTup (tCons (tC (.str "go")) (tCons (tC (.int 0)) (tNil)))) (tNil))) (tNil))))))))) (tFor (iList K (tVar 5)) (gName 7) (tAsg (tTup (tCons (tC (.str "go")) (tCons (tCB (rLenQ K) (tCons (tFld K (tVar 0) "made") (tNil))) (tNil)))) (gSub (tFld K (tVar 0) "made") (tVar 7) rSetL)))))))

section
variable {K : PySem.W.Frag} {C : Addr}
abbrev N_loop : List Str := ["self", "one", "depth", "top", "here", "place"]
theorem rd_loop (T : CoTxt K C) {n : Nat} (vs : List V) (H : Hp) (Q : VK) (E : XK) (h : spLay K C PWhl (n + 1) vs H Q E) : t_Coder_loop K C (spPartC K C 6) (spPut C) (spLay K C PAny n) { nx := fun _ H' => Q .non H', rt := Q } (start N_loop vs) H := by
  obtain ⟨c, dx, m, t, ts, w, R, v, s, D, cs, nk, hand, rfl, st, ht, wf, hd, hts, hz, ⟨e, s1, rfl⟩, q⟩ := h.ex
  obtain ⟨a, x0, x1, x2, rfl, hT, h0, h1, h2⟩ := ht.tup3
  obtain ⟨⟨_, de⟩, wa⟩ : (e.Wf ∧ e.dep ≤ 5) ∧ s1.Wf cs nk true hand := wf
  have hl : R.length + (e.len + 2 + s1.len + 1) ≤ 100000 := hz
  have hd' : s1.dep + 1 ≤ n + 1 := hd
  obtain ⟨us, hm0, lu0⟩ := st.ln
  refine ⟨_, rfl, c, C, dx, _, _, rfl, st.ins, T.cl, T.made, cfs_made, m, us, rfl, .inl (SqL.of hm0), ?_⟩
  rw [lu0]
  refine rMeth rfl st.ins rfl (rd_ixT (j := 1) rfl hT rfl (pPart st h1 (by omega) (by omega) fun H1 st1 k1 => ?_))
  refine rMeth rfl st1.ins rfl ⟨(by show 2 ≤ sizeLine; decide), fun p1 hp1 => pPut (r := .unless 0) (st1.same (Same.new hp1)) (Tp.mk hp1 (.cons (.str _) (.cons (.int _) .nil))) (by simp [Ex.code_len]; omega) fun H2 st2 k2 => ?_⟩
  refine rMeth rfl st2.ins rfl ⟨(by show 1 ≤ sizeLine; decide), fun p2 hp2 => pPut (r := .turn) (st2.same (Same.new hp2)) (Tp.mk hp2 (.cons (.str _) .nil)) (by simp [Ex.code_len]; omega) fun H3 st3 k3 => ?_⟩
  have k13 : Kp (fun x => x = m) H H3 := (k1.trans ((Kp.new hp1).trans k2)).trans ((Kp.new hp2).trans k3)
  refine ⟨_, rfl, c, C, dx, _, _, rfl, st3.ins, T.cl, T.turns, cfs_turns, .inl ⟨rfl, _, SqL.of st3.trn.turns⟩, _, rfl, _, rfl, (by show 0 ≤ sizeLine; decide), fun pl hpl => ⟨(by show 3 ≤ sizeLine; decide), fun u hu => ⟨t, ts, _, rfl, rfl, ((st3.same (Same.new hpl)).same (Same.new hu)).trn.turns, sz_lt1 (by omega), ?_⟩⟩⟩
  have A := st3.apart hpl
  have B := (st3.same (Same.new (o := .lst []) hpl)).apart hu
  have plu : pl ≠ u := ne_of_none (upd_same (H := H3) (o := .lst [])) hu
  have turns3 := ((st3.same (Same.new (o := .lst []) hpl)).same (Same.new (o := .lst [.int (R.length : Int), .int D, .ref pl]) hu)).trn.turns
  generalize hH4 : L2.upd (L2.upd (L2.upd H3 pl (.lst [])) u (.lst [.int (R.length : Int), .int D, .ref pl])) t (.lst (ts ++ [.ref u])) = H4
  have k34 : Kp (fun x => x = t) H3 H4 := by rw [← hH4]; exact ((Kp.new hpl).trans (Kp.new hu)).trans (Kp.upd rfl)
  have tk34 : Tk H3 H4 := by rw [← hH4]; exact ((Tk.new hpl).trans (Tk.new hu)).trans (Tk.lst turns3)
  have st4 : CoSt K C dx H4 c m t (ts ++ [.ref u]) (some ⟨u, pl, R.length, D, []⟩) (R ++ e.code ++ [Rw.unless 0] ++ [Rw.turn]) := by
    obtain ⟨us3, hm3, tus3⟩ := st3.made
    refine ⟨k34 _ _ st3.ins st3.ct, ⟨us3, k34 _ _ hm3 st3.trn.tm.symm, tus3.mono tk34⟩, ⟨by rw [← hH4]; exact upd_same, st3.trn.tm, fun x hx => ?_⟩, fun x hx => by cases hx; exact Nat.zero_le _⟩
    cases hx
    refine ⟨⟨ts, rfl⟩, ?_, ?_, B.nm.symm, B.nt.symm, A.nm.symm, A.nt.symm, plu⟩
    · rw [← hH4, upd_ne B.nt.symm, upd_same]
    · rw [← hH4, upd_ne A.nt.symm, upd_ne plu, upd_same]; rfl
  have tk4 : Tk H H4 := (st.tk1 k13).trans tk34
  refine rMeth rfl st4.ins rfl (rd_ixT (j := 2) rfl (tk4.sqT hT) rfl ⟨_, rfl, pLay (B := (R.length : Int) + e.len + 2) st4 (h2.mono tk4) wa (by omega) (by simp; omega) (by simp [Ex.code_len]; omega) trivial (by simp [Ex.code_len]; omega) fun H5 st5 k5 => ?_⟩)
  generalize hB : (R.length : Int) + e.len + 2 = bs at st5
  replace st5 : CoSt K C dx H5 c m t (ts ++ [.ref u]) (some ⟨u, pl, R.length, D, s1.bks bs⟩) (R ++ e.code ++ [Rw.unless 0] ++ [Rw.turn] ++ s1.code bs D ((R.length : Int), 0, D)) := st5
  have l5 : (R ++ e.code ++ [Rw.unless 0] ++ [Rw.turn] ++ s1.code bs D ((R.length : Int), 0, D)).length = R.length + e.len + 2 + s1.len := by simp [Ex.code_len, Sm.code_len]; omega
  refine rMeth rfl st5.ins rfl ⟨_, rfl, (by show 2 ≤ sizeLine; decide), fun p6 hp6 => pPut (r := .go R.length) (st5.same (Same.new hp6)) (Tp.mk hp6 (.cons (.str _) (.cons (.int _) .nil))) (by omega) fun H6 st6 k6 => ?_⟩
  have k56 : Kp (fun x => x = m) H5 H6 := (Kp.new hp6).trans k6
  obtain ⟨us6, hm6, lu6⟩ := st6.ln
  refine ⟨_, rfl, c, C, dx, _, _, rfl, st6.ins, T.cl, T.made, cfs_made, m, us6, rfl, .inl (SqL.of hm6), (by show 2 ≤ sizeLine; decide), fun p7 hp7 => ?_⟩
  have z6 : us6.length = R.length + e.len + 2 + s1.len + 1 := by rw [lu6, List.length_append, l5]; rfl
  rw [z6]
  have st6' := st6.same (Same.new (o := .tup [.str "unless", .int ((R.length + e.len + 2 + s1.len + 1 : Nat) : Int)]) hp7)
  obtain ⟨us7, hm7, ix7, y7⟩ := st6'.pset (k := (((R ++ e.code).length : Nat) : Int)) (by omega) (by simp; omega)
  refine ⟨_, rfl, c, C, dx, _, _, rfl, st6'.ins, T.cl, T.made, cfs_made, _, rfl, m, us7, _, _, rfl, rfl, hm7, ix7, ?_⟩
  have st7 := y7 (.ref p7) (.unless ((R.length + e.len + 2 + s1.len + 1 : Nat) : Int)) (Tp.mk hp7 (.cons (.str _) (.cons (.int _) .nil)))
  replace st7 := st7.lst (R' := (R ++ e.code ++ [Rw.unless ((R.length + e.len + 2 + s1.len + 1 : Nat) : Int), .turn]) ++ s1.code bs D ((R.length : Int), 0, D) ++ [.go R.length]) (by
    rw [show R ++ e.code ++ [Rw.unless 0] ++ [Rw.turn] ++ s1.code bs D ((R.length : Int), 0, D) ++ [Rw.go R.length] = (R ++ e.code) ++ Rw.unless 0 :: ([Rw.turn] ++ s1.code bs D ((R.length : Int), 0, D) ++ [.go R.length]) by simp]
    rw [set_mid (Int.toNat_natCast _).symm]
    simp)
  generalize hH7 : L2.upd (L2.upd H6 p7 _) m (.lst (us7.set _ (.ref p7))) = H7 at st7 ⊢
  have k57 : Kp (fun x => x = m) H5 H7 := by rw [← hH7]; exact k56.trans ((Kp.new hp7).trans (Kp.upd rfl))
  generalize hL7 : (R ++ e.code ++ [Rw.unless ((R.length + e.len + 2 + s1.len + 1 : Nat) : Int), .turn]) ++ s1.code bs D ((R.length : Int), 0, D) ++ [.go R.length] = L7 at st7
  have l7 : L7.length = R.length + e.len + 2 + s1.len + 1 := by rw [← hL7]; simp [Ex.code_len, Sm.code_len]; omega
  obtain ⟨_, hu7, hpl7, um, ut, plm, plt, _⟩ := st7.trn.wh _ rfl
  have hu8 : L2.upd H7 t (.lst (ts ++ [V.ref u]).dropLast) u = some (.lst [.int (R.length : Int), .int D, .ref pl]) := by rw [upd_ne ut]; exact hu7
  have hpl8 : L2.upd H7 t (.lst (ts ++ [V.ref u]).dropLast) pl = some (.lst ((s1.bks bs).map V.int)) := by rw [upd_ne plt]; exact hpl7
  have k38 : Kp (fun x => (x = m ∨ x = t) ∨ x = pl) H3 (L2.upd H7 t (.lst (ts ++ [V.ref u]).dropLast)) :=
    (((k34.mono fun _ z => .inl (.inr z)).trans (k5.mono fun _ z => by
      rcases z with z | z | ⟨x, z, z2⟩
      · exact .inl (.inl z)
      · exact .inl (.inr z)
      · cases z; exact .inr z2)).trans (k57.mono fun _ z => .inl (.inl z))).trans (Kp.upd (.inl (.inr rfl)))
  refine ⟨_, rfl, c, C, dx, _, _, rfl, st7.ins, T.cl, T.turns, cfs_turns, .inl ⟨rfl, _, SqL.of st7.trn.turns⟩, t, ts ++ [.ref u], .ref u, rfl, rfl, st7.trn.turns, by simp, u, _, _, _, rfl, rfl, SqL.of hu8, atI_nat (j := 2) rfl, pl, rfl, ⟨_, SqL.of hpl8⟩,
    for_list (K := K) (a := pl) (xs := (s1.bks bs).map V.int) (fun i σ H' => ∃ (us : List V) (v5 : Option V), σ = [some (.ref c), some (.ref a), some (.int D), some (.int (R.length : Int)), some (.int (((R ++ e.code).length : Nat) : Int)), v5] ∧ H' m = some (.lst us) ∧ us.length = L7.length ∧ TpAll K H' us ((fillAt (.leap L7.length D) ((s1.bks bs).take i) L7).map Rw.d) ∧ Kp (fun a => a = m) (L2.upd H7 t (.lst (ts ++ [V.ref u]).dropLast)) H') ?_ (fun i σ H' _ ⟨_, _, _, _, _, _, k'⟩ => SqL.of (k' _ _ hpl8 plm)) ?_ ?_⟩
  · obtain ⟨us9, hm9, tus9⟩ := st7.made
    refine ⟨us9, none, rfl, by rw [upd_ne st7.trn.tm.symm]; exact hm9, by rw [tus9.length, List.length_map], tus9.mono (Tk.lst st7.trn.turns), Kp.refl _ _⟩
  · rintro i x σ H9 hx ⟨us9, v5, rfl, hm9, lu9, tus9, k9⟩
    rw [List.getElem?_map] at hx
    cases hpi : (s1.bks bs)[i]? with
    | none => rw [hpi] at hx; cases hx
    | some p =>
      rw [hpi] at hx
      obtain rfl : V.int p = x := Option.some.inj hx
      obtain ⟨pb1, pb2⟩ := s1.bks_in bs p (List.mem_of_getElem? hpi)
      have cins : H9 c = some (.ins C dx (cfs m t)) := k9 _ _ (by rw [upd_ne st7.ct]; exact st7.ins) st7.cm
      refine ⟨_, rfl, c, C, dx, _, _, rfl, cins, T.cl, T.made, cfs_made, m, us9, rfl, .inl (SqL.of hm9), _, rfl, (by show 3 ≤ sizeLine; decide), fun p9 hp9 => ?_⟩
      have hm10 : L2.upd H9 p9 (.tup [.str "leap", .int (us9.length : Int), .int D]) m = some (.lst us9) := by rw [upd_ne (ne_of_none hm9 hp9)]; exact hm9
      have ix : ixN us9.length p = some p.toNat := by
        have := ixN_n (n := us9.length) (j := p.toNat) (by omega)
        rwa [Int.toNat_of_nonneg (by omega)] at this
      refine ⟨_, rfl, c, C, dx, _, _, rfl, by rw [upd_ne (ne_of_none cins hp9)]; exact cins, T.cl, T.made, cfs_made, _, rfl, m, us9, _, _, rfl, rfl, hm10, ix, us9.set p.toNat (.ref p9), _, rfl, upd_same, by simp [lu9], ?_, k9.trans ((Kp.new hp9).trans (Kp.upd rfl))⟩
      rw [fillAt_take _ hpi, List.map_set]
      refine (TpAll.set (tus9.mono (Tk.new hp9)) ?_).mono (Tk.lst hm10)
      rw [lu9]
      exact Tp.mk hp9 (.cons (.str _) (.cons (.int _) (.cons (.int _) .nil)))
  · rintro σ H9 ⟨us9, v5, rfl, hm9, lu9, tus9, k9⟩
    rw [List.length_map, List.take_length] at tus9
    have kZ : Kp (fun x => x = m ∨ x = t) H H9 := Kp.narrow (k13.mono fun _ => .inl) hpl (k38.trans (k9.mono fun _ z => .inl (.inl z)))
    have ht9 : H9 t = some (.lst ts) := by
      have z : H9 t = some (.lst (ts ++ [V.ref u]).dropLast) := k9 _ _ upd_same st7.trn.tm
      rw [z]; simp
    have efill : fillAt (.leap L7.length D) (s1.bks bs) L7 = R ++ (Sm.whl e s1).code R.length D (tnW w) := by
      have := Sm.fill (p := (R.length : Int)) (z := (L7.length : Int)) (D0 := D) s1 bs D (R ++ e.code ++ [Rw.unless ((R.length + e.len + 2 + s1.len + 1 : Nat) : Int), .turn]) [.go R.length] (by simp [Ex.code_len]; omega)
      rw [hL7] at this
      rw [this, l7]
      simp [Sm.code, hB]
    rw [efill] at tus9
    refine q H9 ?_ (kZ.mono fun _ z => z.elim .inl fun z => .inr (.inl z))
    rw [show (Sm.whl e s1).bks (R.length : Int) = [] from rfl, addW_nil]
    exact st.back kZ hm9 ht9 tus9 (by simp)
abbrev N_tried : List Str := ["self", "one", "depth", "begin", "end", "leaves", "handler", "place"]
theorem Apart.of {c m t p : Addr} {l : List Int} {w : Option Wh} (a : Apart p c m t (addW l w)) : Apart p c m t w := by
  refine ⟨a.nc, a.nm, a.nt, fun x hx => ?_⟩
  subst hx
  exact a.nw { x with ps := x.ps ++ l } rfl
theorem Apart.nb {c m t p : Addr} {w : Option Wh} (a : Apart p c m t w) : ¬ BW m t w p := by
  rintro (z | z | ⟨x, hx, z⟩)
  · exact a.nm z.symm
  · exact a.nt z.symm
  · exact (a.nw x hx).2 z.symm
theorem rd_tried (T : CoTxt K C) {n : Nat} (vs : List V) (H : Hp) (Q : VK) (E : XK) (h : spLay K C PTri (n + 1) vs H Q E) : t_Coder_tried K C (spLay K C PAny n) (spPut C) { nx := fun _ H' => Q .non H', rt := Q } (start N_tried vs) H := by
  obtain ⟨c, dx, m, t, ts, w, R, v, s, D, cs, nk, hand, rfl, st, ht, wf, hd, hts, hz, ⟨s1, hs, rfl⟩, q⟩ := h.ex
  obtain ⟨a, x0, x1, x2, rfl, hT, h0, h1, h2⟩ := ht.tup3
  obtain ⟨pa, pxs, rfl, hTp, htp⟩ := h2.tupE
  obtain ⟨wa, wh⟩ : s1.Wf cs nk w.isSome hand ∧ hs.Wf cs nk w.isSome := wf
  have hl : R.length + (s1.len + 1 + hs.len) ≤ 100000 := hz
  have hd' : max s1.dep hs.dep + 1 ≤ n + 1 := hd
  obtain ⟨us, hm0, lu0⟩ := st.ln
  refine ⟨_, rfl, c, C, dx, _, _, rfl, st.ins, T.cl, T.made, cfs_made, m, us, rfl, .inl (SqL.of hm0), ?_⟩
  rw [lu0]
  refine rMeth rfl st.ins rfl (rd_ixT (j := 1) rfl hT rfl ⟨_, rfl, pLay (B := (R.length : Int)) st h1 wa (by omega) (by omega) (by omega) trivial rfl fun H1 st1 k1 => ?_⟩)
  have l1 : (R ++ s1.code (R.length : Int) D (tnW w)).length = R.length + s1.len := by simp [Sm.code_len]
  obtain ⟨us1, hm1, lu1⟩ := st1.ln
  refine ⟨_, rfl, c, C, dx, _, _, rfl, st1.ins, T.cl, T.made, cfs_made, m, us1, rfl, .inl (SqL.of hm1), ?_⟩
  have z1 : us1.length = R.length + s1.len := by rw [lu1, l1]
  rw [z1]
  refine rMeth rfl st1.ins rfl ⟨(by show 2 ≤ sizeLine; decide), fun p1 hp1 => pPut (r := .go 0) (st1.same (Same.new hp1)) (Tp.mk hp1 (.cons (.str _) (.cons (.int _) .nil))) (by omega) fun H2 st2 k2 => ⟨(by show 1 ≤ sizeLine; decide), fun p hp => ?_⟩⟩
  have k12 : Kp (BW m t w) H H2 := k1.trans (KpW ((Kp.new hp1).trans k2))
  have ap : Apart p c m t w := (st2.apart hp).of
  have hpH : H p = none := k12.free hp ap.nb
  have st2' := st2.same (Same.new (o := .lst [.int (((R ++ s1.code (R.length : Int) D (tnW w)).length : Nat) : Int)]) hp)
  generalize hH3 : L2.upd H2 p (.lst [.int (((R ++ s1.code (R.length : Int) D (tnW w)).length : Nat) : Int)]) = H3 at st2' ⊢
  have hp3 : H3 p = some (.lst [.int (((R ++ s1.code (R.length : Int) D (tnW w)).length : Nat) : Int)]) := by rw [← hH3]; exact upd_same
  have k13 : Kp (BW m t w) H H3 := by rw [← hH3]; exact k12.trans (Kp.new hp)
  rw [l1] at hp3
  clear hH3
  generalize hL0 : R ++ s1.code (R.length : Int) D (tnW w) ++ [Rw.go 0] = L0 at st2'
  have l0 : L0.length = R.length + s1.len + 1 := by rw [← hL0, List.length_append, l1]; rfl
  -- the invariant
  generalize hG : ((R.length + s1.len : Nat) : Int) = g0 at hp3 ⊢
  have tkH : ∀ {H'}, Kp (BW m t w) H H' → Tk H H' := fun k => st.tk k
  refine rd_ixT (j := 2) rfl ((tkH k13).sqT hT) rfl ⟨pa, rfl, ⟨_, (tkH k13).sqT hTp⟩, for_tup (K := K) (a := pa) (xs := pxs) (fun i σ H' => ∃ (r : Hds) (pre : List Rw) (bk lv : List Int) (v6 : Option V),
      σ = [some (.ref c), some (.ref a), some (.int D), some (.int (R.length : Int)), some (.int g0), some (.ref p), v6, none] ∧ CoSt K C dx H' c m t ts (addW bk w) (L0 ++ pre) ∧ Kp (BW m t w) H H' ∧ H' p = some (.lst (lv.map V.int)) ∧ lv.length ≤ L0.length + pre.length ∧
      TpAll K H (pxs.drop i) r.ds ∧ r.Wf cs nk w.isSome ∧ r.dep ≤ n ∧ pre.length + r.len = hs.len ∧ pre ++ r.code R.length g0 0 (g0 + 1 + pre.length) D (tnW w) = hs.code R.length g0 0 (g0 + 1) D (tnW w) ∧ bk ++ r.bks (g0 + 1 + pre.length) = s1.bks R.length ++ hs.bks (g0 + 1) ∧ lv ++ r.gos (g0 + 1 + pre.length) = g0 :: hs.gos (g0 + 1))
    ⟨hs, [], s1.bks R.length, [g0], none, rfl, st2'.lst (by simp), k13, hp3, by rw [l0]; simp, by rw [List.drop_zero]; exact htp, wh, by omega, by simp, by simp, by simp, by simp⟩ (fun i σ H' _ ⟨_, _, _, _, _, _, _, k', _⟩ => (tkH k').sqT hTp) ?_ ?_⟩
  · rintro i x σ H4 hx ⟨r, pre, bk, lv, v6, rfl, st4, k4, hp4, ll, tr, wr, dr, lr, er, eb, eg⟩
    obtain ⟨k, sl, tt, r', rfl, tx, tr'⟩ := hds_at tr hx
    obtain ⟨y, y0, y1, y2, rfl, hTx, u0, u1, u2⟩ := tx.tup3
    cases u1.intE
    obtain ⟨_, _, wt, wr'⟩ : (∀ j, k = some j → j < nk) ∧ sl < 8 ∧ tt.Wf cs nk w.isSome true ∧ r'.Wf cs nk w.isSome := wr
    have dr2 : max tt.dep r'.dep ≤ n := dr
    have lr2 : pre.length + (2 + tt.len + 2 + r'.len) = hs.len := lr
    refine rMeth rfl st4.ins rfl ⟨_, rfl, _, rfl, rd_ixT (j := 0) rfl ((tkH k4).sqT hTx) rfl ⟨_, rfl, (by show 5 ≤ sizeLine; decide), fun p5 hp5 => pPut (r := .hand R.length g0 k D) (st4.same (Same.new hp5)) (Tp.mk hp5 (.cons (.str _) (.cons (.int _) (.cons (.int _) (.cons (u0.mono (tkH k4)) (.cons (.int _) .nil)))))) (by simp; omega) fun H5 st5 k5 => ?_⟩⟩
    have k05 : Kp (BW m t w) H H5 := k4.trans (KpW ((Kp.new hp5).trans k5))
    refine rMeth rfl st5.ins rfl (rd_ixT (j := 1) rfl ((tkH k05).sqT hTx) rfl ⟨(by show 2 ≤ sizeLine; decide), fun p6 hp6 => pPut (r := .set sl) (st5.same (Same.new hp6)) (Tp.mk hp6 (.cons (.str _) (.cons (.int _) .nil))) (by simp; omega) fun H6 st6 k6 => ?_⟩)
    have k06 : Kp (BW m t w) H H6 := k05.trans (KpW ((Kp.new hp6).trans k6))
    refine rMeth rfl st6.ins rfl (rd_ixT (j := 2) rfl ((tkH k06).sqT hTx) rfl ⟨_, rfl, _, _, rfl, rfl, pLay (B := g0 + 1 + pre.length + 2) st6 (u2.mono (tkH k06)) (by rw [addW_some]; exact wt) (by omega) (by omega) (by simp; omega) trivial (by simp; omega) fun H7 st7 k7 => ?_⟩)
    rw [BW_add] at k7
    rw [tnW_add, addW_app] at st7
    have k07 := k06.trans k7
    refine rMeth rfl st7.ins rfl ⟨(by show 1 ≤ sizeLine; decide), fun p8 hp8 => pPut (r := .settled) (st7.same (Same.new hp8)) (Tp.mk hp8 (.cons (.str _) .nil)) (by simp [Sm.code_len]; omega) fun H8 st8 k8 => ?_⟩
    have k48 : Kp (BW m t w) H4 H8 := (((KpW ((Kp.new hp5).trans k5)).trans (KpW ((Kp.new hp6).trans k6))).trans k7).trans (KpW ((Kp.new hp8).trans k8))
    have hp8' := k48 _ _ hp4 ap.nb
    refine ⟨_, rfl, .inl ⟨rfl, _, SqL.of hp8'⟩, rMeth rfl st8.ins rfl ⟨(by show 2 ≤ sizeLine; decide), fun p9 hp9 => pPut (r := .go 0) (st8.same (Same.new hp9)) (Tp.mk hp9 (.cons (.str _) (.cons (.int _) .nil))) (by simp [Sm.code_len]; omega) fun H9 st9 k9 => ?_⟩⟩
    have k89 : Kp (BW m t w) H8 H9 := KpW ((Kp.new hp9).trans k9)
    have hp9' := k89 _ _ hp8' ap.nb
    refine ⟨p, _, _, rfl, rfl, hp9', sz_lt1 (by simp; omega), r', pre ++ ([.hand R.length g0 k D, .set sl] ++ tt.code (g0 + 1 + pre.length + 2) (D + 1) (tnW w) ++ [.settled, .go 0]), bk ++ tt.bks (g0 + 1 + pre.length + 2), lv ++ [g0 + 1 + pre.length + 2 + tt.len + 1], _, rfl, ?_, ?_, ?_, ?_, tr', wr', by omega, ?_, ?_, ?_, ?_⟩
    · exact (st9.other hp9' ap.add).lst (by simp)
    · exact ((k4.trans k48).trans k89).late hpH
    · rw [upd_same, List.map_append]
      have : ((((L0 ++ pre ++ [Rw.hand R.length g0 k D] ++ [Rw.set sl] ++ tt.code (g0 + 1 + pre.length + 2) (D + 1) (tnW w) ++ [Rw.settled]).length : Nat)) : Int) = g0 + 1 + pre.length + 2 + tt.len + 1 := by simp [Sm.code_len]; omega
      rw [this]; rfl
    · simp [Sm.code_len]; omega
    · simp [Sm.code_len]; omega
    · have e9 : g0 + 1 + ((pre ++ ([Rw.hand R.length g0 k D, .set sl] ++ tt.code (g0 + 1 + pre.length + 2) (D + 1) (tnW w) ++ [Rw.settled, Rw.go 0])).length : Int) = g0 + 1 + pre.length + 2 + tt.len + 2 := by simp [Sm.code_len]; omega
      rw [e9, ← er]
      simp [Hds.code]
    · have e9 : g0 + 1 + ((pre ++ ([Rw.hand R.length g0 k D, .set sl] ++ tt.code (g0 + 1 + pre.length + 2) (D + 1) (tnW w) ++ [Rw.settled, Rw.go 0])).length : Int) = g0 + 1 + pre.length + 2 + tt.len + 2 := by simp [Sm.code_len]; omega
      rw [e9, ← eb]
      simp [Hds.bks]
    · have e9 : g0 + 1 + ((pre ++ ([Rw.hand R.length g0 k D, .set sl] ++ tt.code (g0 + 1 + pre.length + 2) (D + 1) (tnW w) ++ [Rw.settled, Rw.go 0])).length : Int) = g0 + 1 + pre.length + 2 + tt.len + 2 := by simp [Sm.code_len]; omega
      rw [e9, ← eg]
      simp [Hds.gos]
  · rintro σ H4 ⟨r, pre, bk, lv, v6, rfl, st4, k4, hp4, ll, tr, wr, dr, lr, er, eb, eg⟩
    cases hds_end tr
    obtain rfl : pre = hs.code R.length g0 0 (g0 + 1) D (tnW w) := by simpa [Hds.code] using er
    obtain rfl : bk = s1.bks R.length ++ hs.bks (g0 + 1) := by simpa [Hds.bks] using eb
    obtain rfl : lv = g0 :: hs.gos (g0 + 1) := by simpa [Hds.gos] using eg
    generalize hL7 : L0 ++ hs.code R.length g0 0 (g0 + 1) D (tnW w) = L7 at st4
    have l7 : L7.length = R.length + s1.len + 1 + hs.len := by rw [← hL7, List.length_append, l0, Hds.code_len]
    refine ⟨_, rfl, p, rfl, ⟨_, SqL.of hp4⟩, for_list (K := K) (a := p) (xs := (g0 :: hs.gos (g0 + 1)).map V.int) (fun i σ H' => ∃ (v7 : Option V), σ = [some (.ref c), some (.ref a), some (.int D), some (.int (R.length : Int)), some (.int g0), some (.ref p), v6, v7] ∧ CoSt K C dx H' c m t ts (addW (s1.bks R.length ++ hs.bks (g0 + 1)) w) (fillAt (.go L7.length) ((g0 :: hs.gos (g0 + 1)).take i) L7) ∧ Kp (BW m t w) H H' ∧ H' p = some (.lst ((g0 :: hs.gos (g0 + 1)).map V.int)))
      ⟨none, rfl, st4, k4, hp4⟩ (fun i σ H' _ ⟨_, _, _, _, h'⟩ => SqL.of h') ?_ ?_⟩
    · rintro i x σ H9 hx ⟨v7, rfl, st9, k9, hp9⟩
      rw [List.getElem?_map] at hx
      cases hpi : (g0 :: hs.gos (g0 + 1))[i]? with
      | none => rw [hpi] at hx; cases hx
      | some q0 =>
        rw [hpi] at hx
        obtain rfl : V.int q0 = x := Option.some.inj hx
        have pb : 0 ≤ q0 ∧ q0 < L7.length := by
          rcases List.mem_cons.mp (List.mem_of_getElem? hpi) with z | z
          · omega
          · have := hs.gos_in (g0 + 1) q0 z
            omega
        obtain ⟨us9, hm9, lu9⟩ := st9.ln
        refine ⟨_, rfl, c, C, dx, _, _, rfl, st9.ins, T.cl, T.made, cfs_made, m, us9, rfl, .inl (SqL.of hm9), (by show 2 ≤ sizeLine; decide), fun p10 hp10 => ?_⟩
        rw [lu9, fillAt_length]
        have st10 := st9.same (Same.new (o := .tup [.str "go", .int (L7.length : Int)]) hp10)
        obtain ⟨us10, hm10, ix10, y10⟩ := st10.pset (k := q0) pb.1 (by rw [fillAt_length]; exact pb.2)
        refine ⟨_, rfl, c, C, dx, _, _, rfl, st10.ins, T.cl, T.made, cfs_made, _, rfl, m, us10, _, _, rfl, rfl, hm10, ix10, _, rfl, ?_, k9.trans ((Kp.new hp10).trans (Kp.upd (.inl rfl))), ?_⟩
        · rw [fillAt_take _ hpi]
          exact y10 _ _ (Tp.mk hp10 (.cons (.str _) (.cons (.int _) .nil)))
        · rw [upd_ne ap.nm.symm, upd_ne (ne_of_none hp9 hp10)]; exact hp9
    · rintro σ H9 ⟨v7, rfl, st9, k9, hp9⟩
      rw [List.length_map, List.take_length] at st9
      have efill : fillAt (.go L7.length) (g0 :: hs.gos (g0 + 1)) L7 = R ++ (Sm.tri s1 hs).code R.length D (tnW w) := by
        have e1 : L7 = (R ++ s1.code (R.length : Int) D (tnW w)) ++ Rw.go 0 :: hs.code R.length g0 0 (g0 + 1) D (tnW w) := by rw [← hL7, ← hL0]; simp
        have e2 : L7.set g0.toNat (.go L7.length) = (R ++ s1.code (R.length : Int) D (tnW w) ++ [Rw.go L7.length]) ++ hs.code R.length g0 0 (g0 + 1) D (tnW w) ++ [] := by
          generalize (L7.length : Int) = z
          rw [e1, set_mid (by rw [l1]; omega)]; simp
        show fillAt (.go L7.length) (hs.gos (g0 + 1)) (L7.set g0.toNat (.go L7.length)) = _
        rw [e2, Hds.fillG hs (g0 + 1) _ [] (by simp [Sm.code_len]; omega)]
        rw [l7, ← hG]
        simp [Sm.code]
      rw [efill] at st9
      refine q H9 ?_ k9
      rw [← hG] at st9
      exact st9
end
end Lp

/-! L4f: the program's coding: lay, table_of, coded. -/
namespace Lp
open PySem PySem.Spec PyProof.Rows L2
def t_Coder_lay (K : PySem.W.Frag) (C_Coder : Addr) (sp_Coder_lay : Sp) (sp_Coder_choice : Sp) (sp_Coder_loop : Sp) (sp_Coder_tried : Sp) (sp_Coder_cleaned : Sp) (sp_Coder_put : Sp) (sp_Coder_plain : Sp) : TS :=
  tSeq (tAsg (tOp (rIxT K) (tVar 1) (tC (.int 0))) (gName 3)) (tIfS (tTest (tOp rEq (tVar 3) (tC (.str "row")))) (tFor (iTup K (tOp (rIxT K) (tVar 1) (tC (.int 1)))) (gName 4) (tDrop (tMeth C_Coder "lay" sp_Coder_lay [] E0 (tVar 0) (tCons (tVar 4) (tCons (tVar 2) (tNil)))))) (tIfS (tTest (tOp rEq (tVar 3) (tC (.str "if")))) (tDrop (tMeth C_Coder "choice" sp_Coder_choice [] E0 (tVar 0) (tCons (tVar 1) (tCons (tVar 2) (tNil))))) (tIfS (tTest (tOp rEq (tVar 3) (tC (.str "while")))) (tDrop (tMeth C_Coder "loop" sp_Coder_loop [] E0 (tVar 0) (tCons (tVar 1) (tCons (tVar 2) (tNil))))) (tIfS (tTest (tOp rEq (tVar 3) (tC (.str "try")))) (tDrop (tMeth C_Coder "tried" sp_Coder_tried [] E0 (tVar 0) (tCons (tVar 1) (tCons (tVar 2) (tNil))))) (tIfS (tTest (tOp rEq (tVar 3) (tC (.str "clean")))) (tDrop (tMeth C_Coder "cleaned" sp_Coder_cleaned [] E0 (tVar 0) (tCons (tVar 1) (tCons (tVar 2) (tNil))))) (tIfS (tTest (tOp rEq (tVar 3) (tC (.str "break")))) (tDrop (tBM K "list" rAppend (tOp (rIxL K) (tOp (rIxL K) (tFld K (tVar 0) "turns") (tUn rNeg (tC (.int 1)))) (tC (.int 2))) (tCons (tMeth C_Coder "put" sp_Coder_put [] E0 (tVar 0) (tCons (tTup (tCons (tC (.str "leap")) (tCons (tC (.int 0)) (tCons (tOp (rIxL K) (tOp (rIxL K) (tFld K (tVar 0) "turns") (tUn rNeg (tC (.int 1)))) (tC (.int 1))) (tNil))))) (tNil))) (tNil)))) (tIfS (tTest (tOp rEq (tVar 3) (tC (.str "continue")))) (tDrop (tMeth C_Coder "put" sp_Coder_put [] E0 (tVar 0) (tCons (tTup (tCons (tC (.str "leap")) (tCons (tOp (rIxL K) (tOp (rIxL K) (tFld K (tVar 0) "turns") (tUn rNeg (tC (.int 1)))) (tC (.int 0))) (tCons (tOp (rIxL K) (tOp (rIxL K) (tFld K (tVar 0) "turns") (tUn rNeg (tC (.int 1)))) (tC (.int 1))) (tNil))))) (tNil)))) (tDrop (tMeth C_Coder "plain" sp_Coder_plain [] E0 (tVar 0) (tCons (tVar 1) (tNil)))))))))))

def t_table_of (K : PySem.W.Frag) : TS :=
  tSeq (tAsg (tLst (tNil)) (gName 1)) (tSeq (tFor (iEnT K (tCons (tVar 0) (tNil))) (gTup K 2 (gCons (gName 2) (gCons (gName 3) gNil))) (tSeq (tIfS (tTest (tOp rEq (tOp (rIxT K) (tVar 3) (tC (.int 0))) (tC (.str "handler")))) (tDrop (tBM K "list" rAppend (tVar 1) (tCons (tTup (tCons (tOp (rIxT K) (tVar 3) (tC (.int 1))) (tCons (tOp (rIxT K) (tVar 3) (tC (.int 2))) (tCons (tC (.str "handler")) (tCons (tOp (rIxT K) (tVar 3) (tC (.int 3))) (tCons (tVar 2) (tCons (tOp (rIxT K) (tVar 3) (tC (.int 4))) (tNil)))))))) (tNil)))) (tNext)) (tIfS (tTest (tOp rEq (tOp (rIxT K) (tVar 3) (tC (.int 0))) (tC (.str "cleanup")))) (tDrop (tBM K "list" rAppend (tVar 1) (tCons (tTup (tCons (tOp (rIxT K) (tVar 3) (tC (.int 1))) (tCons (tOp (rIxT K) (tVar 3) (tC (.int 2))) (tCons (tC (.str "cleanup")) (tCons (tC .non) (tCons (tVar 2) (tCons (tOp (rIxT K) (tVar 3) (tC (.int 3))) (tNil)))))))) (tNil)))) (tNext)))) (tRet (tCB (rTupOf K) (tCons (tVar 1) (tNil)))))

def t_coded (K : PySem.W.Frag) (C_Coder : Addr) (sp_Coder_init : Sp) (sp_Coder_lay : Sp) (sp_Coder_put : Sp) (sp_table_of : Sp) : TS :=
  tSeq (tAsg (tLst (tNil)) (gName 1)) (tSeq (tFor (iTup K (tOp (rIxT K) (tVar 0) (tC (.int 1)))) (gName 2) (tSeq (tAsg (tMake C_Coder sp_Coder_init [] E0 tNil) (gName 3)) (tSeq (tDrop (tMeth C_Coder "lay" sp_Coder_lay [] E0 (tVar 3) (tCons (tOp (rIxT K) (tVar 2) (tC (.int 1))) (tCons (tC (.int 0)) (tNil))))) (tSeq (tDrop (tMeth C_Coder "put" sp_Coder_put [] E0 (tVar 3) (tCons (tTup (tCons (tC (.str "num")) (tCons (tC (.int 0)) (tNil)))) (tNil)))) (tSeq (tDrop (tMeth C_Coder "put" sp_Coder_put [] E0 (tVar 3) (tCons (tTup (tCons (tC (.str "return")) (tNil))) (tNil)))) (tSeq (tAsg (tCB (rTupOf K) (tCons (tFld K (tVar 3) "made") (tNil))) (gName 4)) (tDrop (tBM K "list" rAppend (tVar 1) (tCons (tTup (tCons (tOp (rIxT K) (tVar 2) (tC (.int 0))) (tCons (tVar 4) (tCons (tCall sp_table_of [] E0 (tCons (tVar 4) (tNil))) (tNil))))) (tNil)))))))))) (tRet (tCB (rTupOf K) (tCons (tVar 1) (tNil)))))

section
variable {K : PySem.W.Frag} {C : Addr}
abbrev N_lay : List Str := ["self", "one", "depth", "word", "part"]
theorem rd_lay (T : CoTxt K C) {n : Nat} (vs : List V) (H : Hp) (Q : VK) (E : XK) (h : spLay K C PAny (n + 1) vs H Q E) : t_Coder_lay K C (spLay K C PAny n) (spLay K C PIf (n + 1)) (spLay K C PWhl (n + 1)) (spLay K C PTri (n + 1)) (spLay K C PCln (n + 1)) (spPut C) (spPlain K C) { nx := fun _ H' => Q .non H', rt := Q } (start N_lay vs) H := by
  obtain ⟨c, dx, m, t, ts, w, R, v, s, D, cs, nk, hand, rfl, st, ht, wf, hd, hts, hz, _, q⟩ := h.ex
  have word : ∀ (a : Addr) (xs : List V) (z : Str), v = .ref a → SqT K H a xs → xs[0]? = some (.str z) → (V.str z ≠ .str "row" ∧ V.str z ≠ .str "if" ∧ V.str z ≠ .str "while" ∧ V.str z ≠ .str "try" ∧ V.str z ≠ .str "clean" ∧ V.str z ≠ .str "break" ∧ V.str z ≠ .str "continue") → s.plain = true → s ≠ .brk → s ≠ .cnt → s.bks R.length = [] → s.code R.length D (tnW w) = s.code 0 0 (0, 0, 0) →
      t_Coder_lay K C (spLay K C PAny n) (spLay K C PIf (n + 1)) (spLay K C PWhl (n + 1)) (spLay K C PTri (n + 1)) (spLay K C PCln (n + 1)) (spPut C) (spPlain K C) { nx := fun _ H' => Q .non H', rt := Q } (start N_lay [.ref c, v, .int D]) H := by
    rintro a xs z rfl hT hw ⟨n1, n2, n3, n4, n5, n6, n7⟩ pl nb nc eb ec
    refine rd_ixT (j := 0) rfl hT hw (r_ifF (pb_is (pb_eqS rfl) (dF n1)) (r_ifF (pb_is (pb_eqS rfl) (dF n2)) (r_ifF (pb_is (pb_eqS rfl) (dF n3)) (r_ifF (pb_is (pb_eqS rfl) (dF n4)) (r_ifF (pb_is (pb_eqS rfl) (dF n5)) (r_ifF (pb_is (pb_eqS rfl) (dF n6)) (r_ifF (pb_is (pb_eqS rfl) (dF n7)) ?_)))))))
    refine rMeth rfl st.ins rfl ⟨_, rfl, ⟨⟨c, dx, m, t, ts, w, R, _, s, cs, nk, w.isSome, hand, rfl, st, ht, wf, pl, nb, nc, hz, fun H' st' k' => ?_⟩⟩⟩
    refine q H' ?_ (KpW k')
    rw [eb, addW_nil, ec]
    exact st'
  cases s with
  | say e =>
    obtain ⟨a, x0, x1, rfl, hT, h0, h1⟩ := id ht.tup2
    cases h0.strE
    exact word a _ "say" rfl hT rfl (by decide) rfl (by simp) (by simp) rfl rfl
  | set k e =>
    obtain ⟨a, x0, x1, x2, rfl, hT, h0, h1, h2⟩ := id ht.tup3
    cases h0.strE
    exact word a _ "set" rfl hT rfl (by decide) rfl (by simp) (by simp) rfl rfl
  | again =>
    obtain ⟨a, x0, rfl, hT, h0⟩ := id ht.tup1
    cases h0.strE
    exact word a _ "again" rfl hT rfl (by decide) rfl (by simp) (by simp) rfl rfl
  | ret e =>
    obtain ⟨a, x0, x1, rfl, hT, h0, h1⟩ := id ht.tup2
    cases h0.strE
    exact word a _ "return" rfl hT rfl (by decide) rfl (by simp) (by simp) rfl rfl
  | call k f ps m =>
    obtain ⟨a, x0, x1, x2, x3, x4, rfl, hT, h0, h1, h2, h3, h4⟩ := id ht.tup5
    cases h0.strE
    exact word a _ "call" rfl hT rfl (by decide) rfl (by simp) (by simp) rfl rfl
  | rais kd e m =>
    obtain ⟨a, x0, x1, x2, x3, rfl, hT, h0, h1, h2, h3⟩ := id ht.tup4
    cases h0.strE
    exact word a _ "raise" rfl hT rfl (by decide) rfl (by simp) (by simp) rfl rfl
  | brk =>
    obtain ⟨a, x0, rfl, hT, h0⟩ := id ht.tup1
    cases h0.strE
    have wt : w.isSome = true := wf
    have hl : R.length + 1 ≤ 100000 := hz
    cases w with
    | none => cases wt
    | some x =>
      obtain ⟨_, _, hpl, _, _, plm, plt, _⟩ := st.trn.wh x rfl
      refine rd_ixT (j := 0) rfl hT rfl (r_ifF (pb_is (pb_eqS rfl) rfl) (r_ifF (pb_is (pb_eqS rfl) rfl) (r_ifF (pb_is (pb_eqS rfl) rfl) (r_ifF (pb_is (pb_eqS rfl) rfl) (r_ifF (pb_is (pb_eqS rfl) rfl) (r_ifT (pb_is (pb_eqS rfl) rfl) ?_))))))
      refine pTurn (j := 2) T st rfl rfl ⟨.inl ⟨rfl, _, SqL.of hpl⟩, rMeth rfl st.ins rfl (pTurn (j := 1) T st rfl rfl ⟨(by show 3 ≤ sizeLine; decide), fun p1 hp1 => pPut (r := .leap 0 x.D) (st.same (Same.new hp1)) (Tp.mk hp1 (.cons (.str _) (.cons (.int _) (.cons (.int _) .nil)))) (by omega) fun H2 st2 k2 => ?_⟩)⟩
      have lps := st.psl x rfl
      obtain ⟨hr, hu2, hpl2, um, ut, _, _, plu⟩ := st2.trn.wh x rfl
      refine ⟨x.pl, _, _, rfl, rfl, hpl2, sz_lt1 (by simp; omega), ?_⟩
      obtain ⟨us2, hm2, tus2⟩ := st2.made
      refine q _ ⟨by rw [upd_ne (ne_of st2.ins hpl2 (by intro z; cases z))]; exact st2.ins, ⟨us2, by rw [upd_ne plm.symm]; exact hm2, tus2.mono (Tk.lst hpl2)⟩, ⟨by rw [upd_ne plt.symm]; exact st2.trn.turns, st2.trn.tm, fun y hy => ?_⟩, fun y hy => ?_⟩ ((KpW ((Kp.new hp1).trans k2)).trans (Kp.upd (.inr (.inr ⟨x, rfl, rfl⟩))))
      · cases hy
        refine ⟨hr, by rw [upd_ne plu.symm]; exact hu2, ?_, um, ut, plm, plt, plu⟩
        rw [upd_same, List.map_append]; rfl
      · cases hy
        simp [Sm.bks, Sm.code]; omega
  | cnt =>
    obtain ⟨a, x0, rfl, hT, h0⟩ := id ht.tup1
    cases h0.strE
    have wt : w.isSome = true := wf
    have hl : R.length + 1 ≤ 100000 := hz
    cases w with
    | none => cases wt
    | some x =>
      refine rd_ixT (j := 0) rfl hT rfl (r_ifF (pb_is (pb_eqS rfl) rfl) (r_ifF (pb_is (pb_eqS rfl) rfl) (r_ifF (pb_is (pb_eqS rfl) rfl) (r_ifF (pb_is (pb_eqS rfl) rfl) (r_ifF (pb_is (pb_eqS rfl) rfl) (r_ifF (pb_is (pb_eqS rfl) rfl) (r_ifT (pb_is (pb_eqS rfl) rfl) ?_)))))))
      refine rMeth rfl st.ins rfl (pTurn (j := 0) T st rfl rfl (pTurn (j := 1) T st rfl rfl ⟨(by show 3 ≤ sizeLine; decide), fun p1 hp1 => pPut (r := .leap x.top x.D) (st.same (Same.new hp1)) (Tp.mk hp1 (.cons (.str _) (.cons (.int _) (.cons (.int _) .nil)))) (by omega) fun H2 st2 k2 => ?_⟩))
      refine q H2 ?_ (KpW ((Kp.new hp1).trans k2))
      rw [show (Sm.cnt).bks (R.length : Int) = [] from rfl, addW_nil]
      exact st2
  | ife e s1 s2 =>
    obtain ⟨a, x0, x1, x2, x3, rfl, hT, h0, h1, h2, h3⟩ := id ht.tup4
    cases h0.strE
    refine rd_ixT (j := 0) rfl hT rfl (r_ifF (pb_is (pb_eqS rfl) rfl) (r_ifT (pb_is (pb_eqS rfl) rfl) ?_))
    exact rMeth rfl st.ins rfl ⟨_, rfl, _, rfl, pLay st ht wf hd hts hz ⟨_, _, _, rfl⟩ rfl q⟩
  | whl e s1 =>
    obtain ⟨a, x0, x1, x2, rfl, hT, h0, h1, h2⟩ := id ht.tup3
    cases h0.strE
    refine rd_ixT (j := 0) rfl hT rfl (r_ifF (pb_is (pb_eqS rfl) rfl) (r_ifF (pb_is (pb_eqS rfl) rfl) (r_ifT (pb_is (pb_eqS rfl) rfl) ?_)))
    exact rMeth rfl st.ins rfl ⟨_, rfl, _, rfl, pLay st ht wf hd hts hz ⟨_, _, rfl⟩ rfl q⟩
  | tri s1 hs =>
    obtain ⟨a, x0, x1, x2, rfl, hT, h0, h1, h2⟩ := id ht.tup3
    cases h0.strE
    refine rd_ixT (j := 0) rfl hT rfl (r_ifF (pb_is (pb_eqS rfl) rfl) (r_ifF (pb_is (pb_eqS rfl) rfl) (r_ifF (pb_is (pb_eqS rfl) rfl) (r_ifT (pb_is (pb_eqS rfl) rfl) ?_))))
    exact rMeth rfl st.ins rfl ⟨_, rfl, _, rfl, pLay st ht wf hd hts hz ⟨_, _, rfl⟩ rfl q⟩
  | cln s1 s2 =>
    obtain ⟨a, x0, x1, x2, rfl, hT, h0, h1, h2⟩ := id ht.tup3
    cases h0.strE
    refine rd_ixT (j := 0) rfl hT rfl (r_ifF (pb_is (pb_eqS rfl) rfl) (r_ifF (pb_is (pb_eqS rfl) rfl) (r_ifF (pb_is (pb_eqS rfl) rfl) (r_ifF (pb_is (pb_eqS rfl) rfl) (r_ifT (pb_is (pb_eqS rfl) rfl) ?_)))))
    exact rMeth rfl st.ins rfl ⟨_, rfl, _, rfl, pLay st ht wf hd hts hz ⟨_, _, rfl⟩ rfl q⟩
  | row ps =>
    obtain ⟨a, x0, x1, rfl, hT, h0, h1⟩ := id ht.tup2
    cases h0.strE
    obtain ⟨pa, pxs, rfl, hTp, htp⟩ := h1.tupE
    have ws : ps.Wf cs nk w.isSome hand := wf
    have hd' : ps.dep + 1 ≤ n + 1 := hd
    have hl : R.length + ps.len ≤ 100000 := hz
    refine rd_ixT (j := 0) rfl hT rfl (r_ifT (pb_is (pb_eqS rfl) rfl) ?_)
    refine rd_ixT (j := 1) rfl hT rfl ⟨pa, rfl, ⟨_, hTp⟩, for_tup (K := K) (a := pa) (xs := pxs) (fun i σ H' => ∃ (r : Sms) (pre : List Rw) (bk : List Int) (v4 : Option V),
        σ = [some (.ref c), some (.ref a), some (.int D), some (.str "row"), v4] ∧ CoSt K C dx H' c m t ts (addW bk w) (R ++ pre) ∧ Kp (BW m t w) H H' ∧ TpAll K H (pxs.drop i) r.ds ∧ r.Wf cs nk w.isSome hand ∧ r.dep ≤ n ∧ pre.length + r.len = ps.len ∧ pre ++ r.code ((R.length : Int) + pre.length) D (tnW w) = ps.code R.length D (tnW w) ∧ bk ++ r.bks ((R.length : Int) + pre.length) = ps.bks R.length)
      ⟨ps, [], [], none, rfl, by rw [addW_nil]; exact st.lst (by simp), Kp.refl _ _, by rw [List.drop_zero]; exact htp, ws, by omega, by simp, by simp, by simp⟩ (fun i σ H' _ ⟨_, _, _, _, _, _, k', _⟩ => (st.tk k').sqT hTp) ?_ ?_⟩
    · rintro i x σ H4 hx ⟨r, pre, bk, v4, rfl, st4, k4, tr, wr, dr, lr, er, eb⟩
      obtain ⟨s1, r', rfl, tx, tr'⟩ := sms_at tr hx
      obtain ⟨w1, w2⟩ : s1.Wf cs nk w.isSome hand ∧ r'.Wf cs nk w.isSome hand := wr
      have dr2 : max s1.dep r'.dep ≤ n := dr
      have lr2 : pre.length + (s1.len + r'.len) = ps.len := lr
      refine rMeth rfl st4.ins rfl ⟨_, rfl, _, rfl, pLay (B := (R.length : Int) + pre.length) st4 (tx.mono (st.tk k4)) (by rw [addW_some]; exact w1) (by omega) (by omega) (by simp; omega) trivial (by simp) fun H5 st5 k5 => ?_⟩
      rw [BW_add] at k5
      rw [tnW_add, addW_app] at st5
      have e9 : (R.length : Int) + ((pre ++ s1.code ((R.length : Int) + pre.length) D (tnW w)).length : Int) = (R.length : Int) + pre.length + s1.len := by simp [Sm.code_len]; omega
      refine ⟨r', pre ++ s1.code ((R.length : Int) + pre.length) D (tnW w), bk ++ s1.bks ((R.length : Int) + pre.length), _, rfl, st5.lst (by simp), k4.trans k5, tr', w2, by omega, by simp [Sm.code_len]; omega, ?_, ?_⟩
      · rw [e9, ← er]; simp [Sms.code]
      · rw [e9, ← eb]; simp [Sms.bks]
    · rintro σ H4 ⟨r, pre, bk, v4, rfl, st4, k4, tr, wr, dr, lr, er, eb⟩
      cases sms_end tr
      obtain rfl : pre = ps.code R.length D (tnW w) := by simpa [Sms.code] using er
      obtain rfl : bk = ps.bks R.length := by simpa [Sms.bks] using eb
      exact q H4 st4 k4
abbrev N_table_of : List Str := ["rows", "found", "place", "row"]
theorem rd_table_of (vs : List V) (H : Hp) (Q : VK) (E : XK) (h : spTable (K := K) vs H Q E) : t_table_of K { nx := fun _ H' => Q .non H', rt := Q } (start N_table_of vs) H := by
  obtain ⟨v, rows, rfl, ht, hz, q⟩ := h
  obtain ⟨a, xs, rfl, hT, hts⟩ := ht.tupE
  have lx : xs.length = rows.length := by rw [hts.length, List.length_map]
  refine ⟨(by show 0 ≤ sizeLine; decide), fun p hp => ?_⟩
  have s0 : Same H (L2.upd H p (.lst [])) := Same.new hp
  refine ⟨_, rfl, a, xs, rfl, s0.sqT hT, for_enT (K := K) (a := a) (xs := xs) (fun i σ H' => ∃ (tv : List V) (v2 v3 : Option V), σ = [some (.ref a), some (.ref p), v2, v3] ∧ Same H H' ∧ H' p = some (.lst tv) ∧ TpAll K H' tv ((tabAt 0 (rows.take i)).map Tb.d))
    ⟨[], none, none, rfl, s0, upd_same, by simp [tabAt]; exact .nil⟩ (fun i σ H' _ ⟨_, _, _, _, s', _⟩ => s'.sqT hT) ?_ ?_⟩
  · rintro i x σ H0 T hx ⟨tv, v2, v3, rfl, s00, hp0, tt0⟩ hTn
    have hi1 : i < xs.length := (List.getElem?_eq_some_iff.mp hx).1
    have hi2 : i < rows.length := by omega
    have er : rows[i]? = some rows[i] := List.getElem?_eq_getElem hi2
    have ed : (rows.map Rw.d)[i]? = some (rows[i]).d := by rw [List.getElem?_map, er]; rfl
    obtain ⟨x', hx', tx⟩ := hts.get' ed
    obtain rfl : x' = x := by rw [hx] at hx'; exact (Option.some.inj hx').symm
    refine ⟨T, _, rfl, SqT.of upd_same, rfl, _, _, rfl, _, _, rfl, rfl, ?_⟩
    have sT : Same H0 (L2.upd H0 T (.tup [.int (i : Int), x'])) := Same.new hTn
    generalize L2.upd H0 T (.tup [.int (i : Int), x']) = H1 at sT ⊢
    have s1 := s00.trans sT
    have hp1 := sT _ _ hp0
    have tt := tt0.mono (Tk.same sT)
    have tx1 := tx.mono (Tk.same s1)
    have etk := tab_take er
    have ltv : tv.length < 1000000 := by
      have h1 := tt.length
      rw [List.length_map] at h1
      have h2 := tabAt_len (rows.take i) 0
      rw [List.length_take] at h2
      omega
    have fin : ∀ (t : Tb) (ws : List V) (ds : List PyData), tbOf (i : Int) rows[i] = [t] → t.d = .tuple ds → ∀ (H2 : Hp), Same H1 H2 → TpAll K H2 ws ds → ∀ p2, H2 p2 = none → H2 p = some (.lst tv) → ∃ (tv' : List V) (v2 v3 : Option V), [some (V.ref a), some (.ref p), some (.int (i : Int)), some x'] = [some (.ref a), some (.ref p), v2, v3] ∧ Same H (L2.upd (L2.upd H2 p2 (.tup ws)) p (.lst (tv ++ [.ref p2]))) ∧
        (L2.upd (L2.upd H2 p2 (.tup ws)) p (.lst (tv ++ [.ref p2]))) p = some (.lst tv') ∧ TpAll K (L2.upd (L2.upd H2 p2 (.tup ws)) p (.lst (tv ++ [.ref p2]))) tv' ((tabAt 0 (rows.take (i + 1))).map Tb.d) := by
      intro t ws ds et ed2 H2 s2 tw p2 hp2 hpp
      have s3 : Same H1 (L2.upd H2 p2 (.tup ws)) := s2.trans (Same.new hp2)
      refine ⟨tv ++ [.ref p2], _, _, rfl, fun b u e => by rw [upd_ne (ne_of_none e hp)]; exact s3 b u (s1 b u e), upd_same, ?_⟩
      rw [etk, et, List.map_append]
      have : Tp K (L2.upd H2 p2 (.tup ws)) (.ref p2) t.d := by rw [ed2]; exact Tp.mk hp2 tw
      exact ((tt.mono (Tk.same s3)).snoc this).mono (Tk.lst (by rw [upd_ne (ne_of_none hpp hp2)]; exact hpp))
    rcases row_word rows[i] with ⟨b, y, k, D, e⟩ | ⟨b, y, D, e⟩ | ⟨enil, w, ds, e, n1, n2⟩
    · rw [e] at tx1
      obtain ⟨ax, y0, y1, y2, y3, y4, rfl, hTx, k0, k1, k2, k3, k4⟩ := tx1.tup5
      cases k0.strE; cases k1.intE; cases k2.intE; cases k4.intE
      refine rd_ixT (j := 0) rfl hTx rfl ⟨rfl, _, rfl, ifT rfl ?_⟩
      refine ⟨_, rfl, .inl ⟨rfl, _, SqL.of hp1⟩, rd_ixT (j := 1) rfl hTx rfl (rd_ixT (j := 2) rfl hTx rfl (rd_ixT (j := 3) rfl hTx rfl ⟨_, rfl, rd_ixT (j := 4) rfl hTx rfl ⟨(by show 6 ≤ sizeLine; decide), fun p2 hp2 => ?_⟩⟩))⟩
      have pp : L2.upd H1 p2 (.tup [.int b, .int y, .str "handler", y3, .int (i : Int), .int D]) p = some (.lst tv) := by rw [upd_ne (ne_of_none hp1 hp2)]; exact hp1
      refine ⟨p, tv, _, rfl, rfl, pp, sz_lt1 ltv, ?_⟩
      obtain ⟨tv', w2, w3, z1, z2, z3, z4⟩ := fin ⟨b, y, some k, i, D⟩ [.int b, .int y, .str "handler", y3, .int (i : Int), .int D] _ (by rw [e]; rfl) rfl H1 (Same.refl _) (.cons (.int _) (.cons (.int _) (.cons (.str _) (.cons k3 (.cons (.int _) (.cons (.int _) .nil)))))) p2 hp2 hp1
      -- the second look: not a cleanup
      refine rd_ixT (j := 0) rfl (Tk.sqT (Tk.trans (Tk.new hp2) (Tk.lst pp)) hTx) rfl ⟨rfl, _, rfl, ifF rfl ?_⟩
      exact ⟨tv', w2, w3, z1, z2, z3, z4⟩
    · rw [e] at tx1
      obtain ⟨ax, y0, y1, y2, y3, rfl, hTx, k0, k1, k2, k3⟩ := tx1.tup4
      cases k0.strE; cases k1.intE; cases k2.intE; cases k3.intE
      refine rd_ixT (j := 0) rfl hTx rfl ⟨rfl, _, rfl, ifF rfl ?_⟩
      refine rd_ixT (j := 0) rfl hTx rfl ⟨rfl, _, rfl, ifT rfl ?_⟩
      refine ⟨_, rfl, .inl ⟨rfl, _, SqL.of hp1⟩, rd_ixT (j := 1) rfl hTx rfl (rd_ixT (j := 2) rfl hTx rfl ⟨_, rfl, rd_ixT (j := 3) rfl hTx rfl ⟨(by show 6 ≤ sizeLine; decide), fun p2 hp2 => ?_⟩⟩)⟩
      have pp : L2.upd H1 p2 (.tup [.int b, .int y, .str "cleanup", .non, .int (i : Int), .int D]) p = some (.lst tv) := by rw [upd_ne (ne_of_none hp1 hp2)]; exact hp1
      refine ⟨p, tv, _, rfl, rfl, pp, sz_lt1 ltv, ?_⟩
      exact fin ⟨b, y, none, i, D⟩ [.int b, .int y, .str "cleanup", .non, .int (i : Int), .int D] _ (by rw [e]; rfl) rfl H1 (Same.refl _) (.cons (.int _) (.cons (.int _) (.cons (.str _) (.cons .non (.cons (.int _) (.cons (.int _) .nil)))))) p2 hp2 hp1
    · rw [e] at tx1
      obtain ⟨ax, ys, rfl, hTx, tys⟩ := tx1.tupE
      obtain ⟨y0, yr, rfl, k0, _⟩ := tys.consE
      cases k0.strE
      refine rd_ixT (j := 0) rfl hTx rfl ⟨rfl, _, rfl, ifF (dF n1) ?_⟩
      refine rd_ixT (j := 0) rfl hTx rfl ⟨rfl, _, rfl, ifF (dF n2) ?_⟩
      exact ⟨tv, _, _, rfl, s1, hp1, by rw [etk, enil, List.append_nil]; exact tt⟩
  · rintro σ H1 ⟨tv, v2, v3, rfl, s1, hp1, tt⟩
    rw [List.take_of_length_le (by omega)] at tt
    refine ⟨_, rfl, p, tv, rfl, .inl ⟨SqL.of hp1, fun p2 hp2 => ?_⟩⟩
    exact q (.ref p2) _ (Tp.mk hp2 tt) (s1.trans (Same.new hp2))
/-- what a program's coding needs -/
structure PgK (p : Pg) (n : Nat) : Prop where
  body : ∀ f ∈ p.funs, (∃ cs nk, f.2.Wf cs nk false false) ∧ f.2.dep ≤ n ∧ f.2.len ≤ 90000
  few : p.funs.length ≤ 1000
  n900 : n ≤ 900
def spCoded (n : Nat) : Sp := fun vs H Q _ => ∃ (v : V) (p : Pg), vs = [v] ∧ Tp K H v p.d ∧ PgK p n ∧ NewT K H Q (codeD p.code)
abbrev N_coded : List Str := ["program", "found", "function", "coder", "rows"]
theorem rd_coded (T : CoTxt K C) {n : Nat} (vs : List V) (H : Hp) (Q : VK) (E : XK) (h : spCoded (K := K) n vs H Q E) : t_coded K C (spCoInit C) (spLay K C PAny n) (spPut C) (spTable (K := K)) { nx := fun _ H' => Q .non H', rt := Q } (start N_coded vs) H := by
  obtain ⟨v, p, rfl, ht, ok, q⟩ := h
  obtain ⟨a, x0, x1, rfl, hT, h0, h1⟩ := ht.tup2
  obtain ⟨fa, fxs, rfl, hTf, htf⟩ := h1.tupE
  have lx : fxs.length = p.funs.length := by rw [htf.length, List.length_map]
  refine ⟨(by show 0 ≤ sizeLine; decide), fun l hl => ?_⟩
  have s0 : Same H (L2.upd H l (.lst [])) := Same.new hl
  refine rd_ixT (j := 1) rfl (s0.sqT hT) rfl ⟨fa, rfl, ⟨_, s0.sqT hTf⟩, for_tup (K := K) (a := fa) (xs := fxs) (fun i σ H' => ∃ (cv : List V) (v2 v3 v4 : Option V), σ = [some (.ref a), some (.ref l), v2, v3, v4] ∧ Same H H' ∧ H' l = some (.lst cv) ∧ TpAll K H' cv ((p.code.take i).map Fc.d))
    ⟨[], none, none, none, rfl, s0, upd_same, .nil⟩ (fun i σ H' _ ⟨_, _, _, _, _, s', _⟩ => s'.sqT hTf) ?_ ?_⟩
  · rintro i x σ H1 hx ⟨cv, v2, v3, v4, rfl, s1, hc1, tc⟩
    obtain ⟨d, hd, td⟩ := htf.get hx
    rw [List.getElem?_map] at hd
    cases ef : p.funs[i]? with
    | none => rw [ef] at hd; cases hd
    | some f =>
      rw [ef] at hd
      obtain rfl : funD f = d := Option.some.inj hd
      obtain ⟨ax, y0, y1, rfl, hTx, k0, k1⟩ := td.tup2
      cases k0.intE
      obtain ⟨⟨cs, nk, okw⟩, okd, okl⟩ := ok.body f (List.mem_of_getElem? ef)
      have ilt : i < 1000 := by
        have := (List.getElem?_eq_some_iff.mp ef).1
        have := ok.few
        omega
      refine fun c dx hc hdx dxc => ⟨c, dx, rfl, upd_same, fun m t H2 hm ht tm hc2 hm2 ht2 k2 => ⟨rfl, ?_⟩⟩
      -- nothing of what stood has changed
      have s12 : Same H1 H2 := fun b o e => by
        have bc := ne_of_none e hc
        refine k2 _ _ ?_ bc
        rw [upd_ne bc, upd_ne (ne_of_none e hdx)]; exact e
      have free1 : ∀ z, L2.upd (L2.upd H1 dx (.own c)) c (.ins C dx []) z = none → H1 z = none := fun z e => by
        cases q : H1 z with
        | none => rfl
        | some o =>
          rw [upd_ne (ne_of_none q hc), upd_ne (ne_of_none q hdx), q] at e
          cases e
      have hm1 := free1 m hm
      have ht1 := free1 t ht
      have st2 : CoSt K C dx H2 c m t [] none [] := ⟨hc2, ⟨[], hm2, .nil⟩, ⟨ht2, tm, fun x hx => by cases hx⟩, fun x hx => by cases hx⟩
      have k1' := (k1.mono (Tk.same s1)).mono (Tk.same s12)
      refine rMeth rfl st2.ins rfl (rd_ixT (j := 1) rfl (s12.sqT (s1.sqT hTx)) rfl (pLay (B := 0) st2 k1' okw okd (by have := ok.n900; simp; omega) (by simp; omega) trivial rfl fun H3 st3 k3 => ?_))
      have st3 : CoSt K C dx H3 c m t [] none (f.2.code 0 0 (0, 0, 0)) := st3.lst (by simp [tnW])
      refine rMeth rfl st3.ins rfl ⟨(by show 2 ≤ sizeLine; decide), fun p1 hp1 => pPut (r := .num 0) (st3.same (Same.new hp1)) (Tp.mk hp1 (.cons (.str _) (.cons (.int _) .nil))) (by simp [Sm.code_len]; omega) fun H4 st4 k4 => ?_⟩
      refine rMeth rfl st4.ins rfl ⟨(by show 1 ≤ sizeLine; decide), fun p2 hp2 => pPut (r := .ret) (st4.same (Same.new hp2)) (Tp.mk hp2 (.cons (.str _) .nil)) (by simp [Sm.code_len]; omega) fun H5 st5 k5 => ?_⟩
      have st5 : CoSt K C dx H5 c m t [] none (bodyRows f.2) := st5.lst (by simp [bodyRows])
      have k25 : Kp (BW m t none) H2 H5 := (k3.trans (KpW ((Kp.new hp1).trans k4))).trans (KpW ((Kp.new hp2).trans k5))
      have s15 : Same H1 H5 := fun b o e => k25 _ _ (s12 _ _ e) (by
        rintro (z | z | ⟨x, z, _⟩)
        · exact ne_of_none e hm1 z
        · exact ne_of_none e ht1 z
        · cases z)
      obtain ⟨us5, hm5, tus5⟩ := st5.made
      refine ⟨_, rfl, c, C, dx, _, _, rfl, st5.ins, T.cl, T.made, cfs_made, m, us5, rfl, .inl ⟨SqL.of hm5, fun p5 hp5 => ?_⟩⟩
      have s5 : Same H1 (L2.upd H5 p5 (.tup us5)) := s15.trans (Same.new hp5)
      have tR : Tp K (L2.upd H5 p5 (.tup us5)) (.ref p5) (.tuple ((bodyRows f.2).map Rw.d)) := Tp.mk hp5 tus5
      refine ⟨_, rfl, .inl ⟨rfl, _, SqL.of (s5 _ _ hc1)⟩, rd_ixT (j := 0) rfl ((s1.trans s5).sqT hTx) rfl ⟨_, rfl, _, rfl, .ref p5, bodyRows f.2, rfl, tR, by simp [bodyRows, Sm.code_len]; omega, fun w H6 t6 s6 => ⟨(by show 3 ≤ sizeLine; decide), fun p7 hp7 => ?_⟩⟩⟩
      have hc6 := s6 _ _ (s5 _ _ hc1)
      have hc7 : L2.upd H6 p7 (.tup [.int (f.1 : Int), .ref p5, w]) l = some (.lst cv) := by rw [upd_ne (ne_of_none hc6 hp7)]; exact hc6
      have lcv : cv.length < 1000000 := by
        have := tc.length
        rw [List.length_map, List.length_take] at this
        omega
      have sZ : Same H1 (L2.upd H6 p7 (.tup [.int (f.1 : Int), .ref p5, w])) := (s5.trans s6).trans (Same.new hp7)
      refine ⟨l, cv, _, rfl, rfl, hc7, sz_lt1 lcv, cv ++ [.ref p7], _, _, _, rfl, fun b u e => by rw [upd_ne (ne_of_none e hl)]; exact sZ b u (s1 b u e), upd_same, ?_⟩
      have ec : p.code[i]? = some ⟨f.1, bodyRows f.2⟩ := by unfold Pg.code; rw [List.getElem?_map, ef]; rfl
      rw [List.take_succ, ec, List.map_append]
      exact ((tc.mono (Tk.same sZ)).snoc (Tp.mk hp7 (.cons (.int _) (.cons (tR.mono (Tk.same s6)) (.cons t6 .nil))))).mono (Tk.lst hc7)
  · rintro σ H1 ⟨cv, v2, v3, v4, rfl, s1, hc1, tc⟩
    rw [List.take_of_length_le (by unfold Pg.code; rw [List.length_map]; omega)] at tc
    refine ⟨_, rfl, l, cv, rfl, .inl ⟨SqL.of hc1, fun p2 hp2 => ?_⟩⟩
    exact q (.ref p2) _ (Tp.mk hp2 tc) (s1.trans (Same.new hp2))
end
end Lp

/-! L4z: the code of a drawn program, as data, is small. -/
namespace Lp
open PySem PySem.Spec PyProof.Rows L2
theorem widAll_le {n : Nat} : ∀ {ds : List PyData}, (∀ d ∈ ds, wid d ≤ n) → widAll ds ≤ n
  | [], _ => Nat.zero_le _
  | d :: r, h => Nat.max_le.mpr ⟨h d List.mem_cons_self, widAll_le fun x hx => h x (List.mem_cons_of_mem _ hx)⟩
theorem depthAll_le {n : Nat} : ∀ {ds : List PyData}, (∀ d ∈ ds, d.depth ≤ n) → PyData.depthAll ds ≤ n
  | [], _ => Nat.zero_le _
  | d :: r, h => Nat.max_le.mpr ⟨h d List.mem_cons_self, depthAll_le fun x hx => h x (List.mem_cons_of_mem _ hx)⟩
theorem kindD_flat (k : Option Nat) : (kindD k).depth = 0 ∧ wid (kindD k) = 0 := by cases k <;> exact ⟨rfl, rfl⟩
theorem Rw.small (r : Rw) : r.d.depth ≤ 1 ∧ wid r.d ≤ 6 := by
  cases r <;> simp [Rw.d, PyData.depth, PyData.depthAll, wid, widAll, kindD_flat]
theorem Tb.small (t : Tb) : t.d.depth ≤ 1 ∧ wid t.d ≤ 6 := by
  obtain ⟨b, x, kd, p, D⟩ := t
  cases kd <;> simp [Tb.d, PyData.depth, PyData.depthAll, wid, widAll, kindD_flat]
theorem rows_small (rs : List Rw) : (PyData.tuple (rs.map Rw.d)).depth ≤ 2 ∧ wid (.tuple (rs.map Rw.d)) ≤ max rs.length 6 := by
  have h1 : PyData.depthAll (rs.map Rw.d) ≤ 1 := depthAll_le fun d hd => by obtain ⟨r, _, rfl⟩ := List.mem_map.mp hd; exact r.small.1
  have h2 : widAll (rs.map Rw.d) ≤ 6 := widAll_le fun d hd => by obtain ⟨r, _, rfl⟩ := List.mem_map.mp hd; exact r.small.2
  simp only [PyData.depth, wid, List.length_map]
  omega
theorem tab_small (rs : List Tb) : (PyData.tuple (rs.map Tb.d)).depth ≤ 2 ∧ wid (.tuple (rs.map Tb.d)) ≤ max rs.length 6 := by
  have h1 : PyData.depthAll (rs.map Tb.d) ≤ 1 := depthAll_le fun d hd => by obtain ⟨r, _, rfl⟩ := List.mem_map.mp hd; exact r.small.1
  have h2 : widAll (rs.map Tb.d) ≤ 6 := widAll_le fun d hd => by obtain ⟨r, _, rfl⟩ := List.mem_map.mp hd; exact r.small.2
  simp only [PyData.depth, wid, List.length_map]
  omega
theorem Fc.small (f : Fc) (h : f.rows.length ≤ 900000) : f.d.depth ≤ 3 ∧ wid f.d ≤ 900000 := by
  have h1 := rows_small f.rows
  have h2 := tab_small f.tab
  have h3 : f.tab.length ≤ f.rows.length := tabAt_len _ _
  unfold Fc.d
  simp only [PyData.depth, PyData.depthAll, wid, widAll, List.length_cons, List.length_nil] at h1 h2 ⊢
  omega
theorem codeD_small (c : List Fc) (h : ∀ f ∈ c, f.rows.length ≤ 900000) (hl : c.length ≤ 900000) : (codeD c).depth < 5 ∧ wid (codeD c) ≤ 1000000 := by
  have h1 : PyData.depthAll (c.map Fc.d) ≤ 3 := depthAll_le fun d hd => by obtain ⟨r, hr, rfl⟩ := List.mem_map.mp hd; exact (r.small (h r hr)).1
  have h2 : widAll (c.map Fc.d) ≤ 900000 := widAll_le fun d hd => by obtain ⟨r, hr, rfl⟩ := List.mem_map.mp hd; exact (r.small (h r hr)).2
  unfold codeD
  simp only [PyData.depth, wid, List.length_map]
  omega
theorem PgOk.code_small {p : Pg} (ok : PgOk p) : (codeD p.code).depth < 5 ∧ wid (codeD p.code) ≤ 1000000 := by
  refine codeD_small _ (fun f hf => ?_) ?_
  · obtain ⟨g, hg, rfl⟩ := List.mem_map.mp hf
    have := ok.small.len g hg
    simp [bodyRows, Sm.code_len]; omega
  · have := ok.f4
    simp [Pg.code]; omega
theorem PgOk.pgK {p : Pg} (ok : PgOk p) : PgK p 5 :=
  ⟨fun f hf => ⟨⟨_, _, ok.wf.body f hf⟩, ok.small.dep f hf, by have := ok.small.len f hf; omega⟩, by have := ok.f4; omega, by decide⟩
theorem PgOk.pgC {p : Pg} (ok : PgOk p) : PgC p 5 :=
  ⟨fun f hf => ⟨⟨_, _, _, ok.wf.body f hf⟩, ok.small.dep f hf, by have := ok.small.len f hf; omega, Int.le_refl 0, fun _ h => by cases h⟩, by have := ok.f4; omega⟩
end Lp

/-! L16: stretches of a table lie well: the plain law. -/
namespace Lp
open PySem PySem.Spec PyProof.Rows L2
/-- apart, or the inner one within the outer one and no less deep -/
def Apt (i o : Tb) : Prop := i.x ≤ o.b ∨ o.x ≤ i.b ∨ (o.b ≤ i.b ∧ i.x ≤ o.x ∧ o.D ≤ i.D)
/-- within the places from b on, so many; no less deep than D -/
def Inn (b : Int) (n : Nat) (D : Int) (e : Tb) : Prop := b ≤ e.b ∧ e.b ≤ e.x ∧ e.x ≤ e.p ∧ e.p < b + n ∧ D ≤ e.D
/-- as Inn, or of the stretch b, x -/
def InH (b x at_ : Int) (n : Nat) (D : Int) (e : Tb) : Prop := e.b ≤ e.x ∧ e.x ≤ e.p ∧ at_ ≤ e.p ∧ e.p < at_ + n ∧ D ≤ e.D ∧ ((e.b = b ∧ e.x = x ∧ e.D = D) ∨ at_ ≤ e.b)
theorem Ex.tab : ∀ (e : Ex) (p : Int), tabAt p e.code = []
  | .num _, _ => rfl
  | .var _, _ => rfl
  | .bin _ a b, p => by simp [Ex.code, tabAt_app, Ex.tab a, Ex.tab b]; rfl
theorem exs_tab : ∀ (ps : List Ex) (p : Int), tabAt p (exsCode ps) = []
  | [], _ => rfl
  | e :: r, p => by simp [exsCode, tabAt_app, Ex.tab e, exs_tab r]
def Good (b : Int) (n : Nat) (D : Int) (l : List Tb) : Prop := (∀ e ∈ l, Inn b n D e) ∧ l.Pairwise Apt
theorem Good.nil {b D : Int} {n : Nat} : Good b n D [] := ⟨(fun _ h => nomatch h), .nil⟩
theorem Good.wide {b b' D D' : Int} {n n' : Nat} {l : List Tb} (g : Good b n D l) (hb : b' ≤ b) (hn : b + n ≤ b' + n') (hD : D' ≤ D) : Good b' n' D' l :=
  ⟨fun e he => by obtain ⟨h1, h2, h3, h4, h5⟩ := g.1 e he; exact ⟨by omega, h2, h3, by omega, by omega⟩, g.2⟩
/-- one behind the other -/
theorem Good.app {b c D : Int} {n m k : Nat} {l l' : List Tb} (g : Good b n D l) (g' : Good c m D l') (h : b + n ≤ c) (hk : c + m ≤ b + k) : Good b k D (l ++ l') := by
  refine ⟨fun e he => ?_, List.pairwise_append.mpr ⟨g.2, g'.2, fun i hi o ho => ?_⟩⟩
  · rcases List.mem_append.mp he with he | he
    · obtain ⟨h1, h2, h3, h4, h5⟩ := g.1 e he; exact ⟨by omega, h2, h3, by omega, h5⟩
    · obtain ⟨h1, h2, h3, h4, h5⟩ := g'.1 e he; exact ⟨by omega, h2, h3, by omega, h5⟩
  · obtain ⟨h1, h2, h3, h4, h5⟩ := g.1 i hi
    obtain ⟨k1, k2, k3, k4, k5⟩ := g'.1 o ho
    exact .inl (by omega)
def GoodH (b x at_ : Int) (n : Nat) (D : Int) (l : List Tb) : Prop := (∀ e ∈ l, InH b x at_ n D e) ∧ l.Pairwise Apt
mutual
theorem Sm.tab : ∀ (s : Sm) (b D : Int) (tn : Tn), Good b s.len D (tabAt b (s.code b D tn))
  | .say e, b, D, tn => by simp [Sm.code, tabAt_app, Ex.tab]; exact Good.nil
  | .set _ e, b, D, tn => by simp [Sm.code, tabAt_app, Ex.tab]; exact Good.nil
  | .row ps, b, D, tn => Sms.tab ps b D tn
  | .ife e s t, b, D, tn => by
    have h1 := Sm.tab s (b + e.len + 1) D tn
    have h2 := Sm.tab t (b + e.len + 1 + s.len + 1) D tn
    have e1 : tabAt b ((Sm.ife e s t).code b D tn) = tabAt (b + e.len + 1) (s.code (b + e.len + 1) D tn) ++ tabAt (b + e.len + 1 + s.len + 1) (t.code (b + e.len + 1 + s.len + 1) D tn) := by
      simp only [Sm.code, tabAt_app, Ex.tab, Ex.code_len, Sm.code_len, List.length_append, List.nil_append, List.length_cons, List.length_nil]
      have z1 : b + ((e.len + (0 + 1) : Nat) : Int) = b + e.len + 1 := by omega
      have z2 : b + ((e.len + (0 + 1) + s.len + (0 + 1) : Nat) : Int) = b + e.len + 1 + s.len + 1 := by omega
      rw [z1, z2]
      simp [tabAt, tbOf]
    rw [e1]
    exact (h1.app h2 (k := s.len + 1 + t.len) (by omega) (by omega)).wide (by omega) (by simp [Sm.len]; omega) (Int.le_refl _)
  | .whl e s, b, D, tn => by
    have h1 := Sm.tab s (b + e.len + 2) D (b, b + e.len + 2 + s.len + 1, D)
    have e1 : tabAt b ((Sm.whl e s).code b D tn) = tabAt (b + e.len + 2) (s.code (b + e.len + 2) D (b, b + e.len + 2 + s.len + 1, D)) := by
      simp only [Sm.code, tabAt_app, Ex.tab, Ex.code_len, Sm.code_len, List.length_append, List.nil_append, List.length_cons, List.length_nil]
      have z1 : b + ((e.len + (0 + 1 + 1) : Nat) : Int) = b + e.len + 2 := by omega
      rw [z1]
      simp [tabAt, tbOf]
    rw [e1]
    exact h1.wide (by omega) (by simp [Sm.len]; omega) (Int.le_refl _)
  | .brk, _, _, _ => Good.nil
  | .cnt, _, _, _ => Good.nil
  | .ret e, b, D, tn => by simp [Sm.code, tabAt_app, Ex.tab]; exact Good.nil
  | .call _ _ ps _, b, D, tn => by simp [Sm.code, tabAt_app, exs_tab]; exact Good.nil
  | .rais _ e _, b, D, tn => by simp [Sm.code, tabAt_app, Ex.tab]; exact Good.nil
  | .again, _, _, _ => Good.nil
  | .tri s hs, b, D, tn => by
    have h1 := Sm.tab s b D tn
    have h2 := Hds.tab hs b (b + s.len) (b + s.len + 1 + hs.len) (b + s.len + 1) D tn (by omega) (by omega)
    have e1 : tabAt b ((Sm.tri s hs).code b D tn) = tabAt b (s.code b D tn) ++ tabAt (b + s.len + 1) (hs.code b (b + s.len) (b + s.len + 1 + hs.len) (b + s.len + 1) D tn) := by
      simp only [Sm.code, tabAt_app, Sm.code_len, List.length_append, List.length_cons, List.length_nil]
      have z1 : b + ((s.len + (0 + 1) : Nat) : Int) = b + s.len + 1 := by omega
      rw [z1]
      simp [tabAt, tbOf]
    rw [e1]
    refine ⟨fun e he => ?_, List.pairwise_append.mpr ⟨h1.2, h2.2, fun i hi o ho => ?_⟩⟩
    · show b ≤ e.b ∧ e.b ≤ e.x ∧ e.x ≤ e.p ∧ e.p < b + ((s.len + 1 + hs.len : Nat) : Int) ∧ D ≤ e.D
      rcases List.mem_append.mp he with he | he
      · obtain ⟨k1, k2, k3, k4, k5⟩ := h1.1 e he; exact ⟨by omega, k2, k3, by omega, k5⟩
      · obtain ⟨k1, k2, k3, k4, k5, k6⟩ := h2.1 e he; exact ⟨by omega, k1, k2, by omega, k5⟩
    · obtain ⟨k1, k2, k3, k4, k5⟩ := h1.1 i hi
      obtain ⟨l1, l2, l3, l4, l5, ⟨l6, l7, l8⟩ | l6⟩ := h2.1 o ho
      · exact .inr (.inr ⟨by omega, by omega, by omega⟩)
      · exact .inl (by omega)
  | .cln s c, b, D, tn => by
    have h1 := Sm.tab s b D tn
    have h2 := Sm.tab c (b + s.len + 2) (D + 1) tn
    have e1 : tabAt b ((Sm.cln s c).code b D tn) = tabAt b (s.code b D tn) ++ ⟨b, b + s.len + 1, none, b + s.len + 1, D⟩ :: tabAt (b + s.len + 2) (c.code (b + s.len + 2) (D + 1) tn) := by
      simp only [Sm.code, tabAt_app, Sm.code_len, List.length_append, List.length_cons, List.length_nil]
      have z1 : b + ((s.len + (0 + 1 + 1) : Nat) : Int) = b + s.len + 2 := by omega
      rw [z1]
      simp [tabAt, tbOf]
    rw [e1]
    refine ⟨fun e he => ?_, List.pairwise_append.mpr ⟨h1.2, List.pairwise_cons.mpr ⟨fun o ho => ?_, h2.2⟩, fun i hi o ho => ?_⟩⟩
    · show b ≤ e.b ∧ e.b ≤ e.x ∧ e.x ≤ e.p ∧ e.p < b + ((s.len + 2 + c.len + 1 : Nat) : Int) ∧ D ≤ e.D
      rcases List.mem_append.mp he with he | he
      · obtain ⟨k1, k2, k3, k4, k5⟩ := h1.1 e he; exact ⟨by omega, k2, k3, by omega, k5⟩
      · rcases List.mem_cons.mp he with rfl | he
        · refine ⟨?_, ?_, ?_, ?_, ?_⟩ <;> simp <;> omega
        · obtain ⟨k1, k2, k3, k4, k5⟩ := h2.1 e he; exact ⟨by omega, k2, k3, by omega, by omega⟩
    · obtain ⟨l1, l2, l3, l4, l5⟩ := h2.1 o ho
      exact .inl (by simp; omega)
    · obtain ⟨k1, k2, k3, k4, k5⟩ := h1.1 i hi
      rcases List.mem_cons.mp ho with rfl | ho
      · exact .inr (.inr ⟨by simp; omega, by simp; omega, by simp; omega⟩)
      · obtain ⟨l1, l2, l3, l4, l5⟩ := h2.1 o ho
        exact .inl (by omega)
theorem Sms.tab : ∀ (ps : Sms) (b D : Int) (tn : Tn), Good b ps.len D (tabAt b (ps.code b D tn))
  | .nil, _, _, _ => Good.nil
  | .cons s r, b, D, tn => by
    have h1 := Sm.tab s b D tn
    have h2 := Sms.tab r (b + s.len) D tn
    simp only [Sms.code, tabAt_app, Sm.code_len]
    exact h1.app h2 (by omega) (by simp [Sms.len]; omega)
theorem Hds.tab : ∀ (hs : Hds) (b x z at_ D : Int) (tn : Tn), b ≤ x → x ≤ at_ → GoodH b x at_ hs.len D (tabAt at_ (hs.code b x z at_ D tn))
  | .nil, _, _, _, _, _, _, _, _ => ⟨(fun _ h => nomatch h), .nil⟩
  | .cons k sl t r, b, x, z, at_, D, tn, hbx, hxa => by
    have h1 := Sm.tab t (at_ + 2) (D + 1) tn
    have h2 := Hds.tab r b x z (at_ + 2 + t.len + 2) D tn hbx (by omega)
    have e1 : tabAt at_ ((Hds.cons k sl t r).code b x z at_ D tn) = ⟨b, x, some k, at_, D⟩ :: (tabAt (at_ + 2) (t.code (at_ + 2) (D + 1) tn) ++ tabAt (at_ + 2 + t.len + 2) (r.code b x z (at_ + 2 + t.len + 2) D tn)) := by
      simp only [Hds.code, tabAt_app, Sm.code_len, List.length_append, List.length_cons, List.length_nil]
      have z1 : at_ + ((0 + 1 + 1 : Nat) : Int) = at_ + 2 := by omega
      have z2 : at_ + ((0 + 1 + 1 + t.len + (0 + 1 + 1) : Nat) : Int) = at_ + 2 + t.len + 2 := by omega
      rw [z1, z2]
      simp [tabAt, tbOf]
    rw [e1]
    refine ⟨fun e he => ?_, List.pairwise_cons.mpr ⟨fun o ho => ?_, List.pairwise_append.mpr ⟨h1.2, h2.2, fun i hi o ho => ?_⟩⟩⟩
    · show e.b ≤ e.x ∧ e.x ≤ e.p ∧ at_ ≤ e.p ∧ e.p < at_ + ((2 + t.len + 2 + r.len : Nat) : Int) ∧ D ≤ e.D ∧ ((e.b = b ∧ e.x = x ∧ e.D = D) ∨ at_ ≤ e.b)
      rcases List.mem_cons.mp he with rfl | he
      · exact ⟨hbx, hxa, Int.le_refl _, by simp; omega, Int.le_refl _, .inl ⟨rfl, rfl, rfl⟩⟩
      · rcases List.mem_append.mp he with he | he
        · obtain ⟨k1, k2, k3, k4, k5⟩ := h1.1 e he; exact ⟨k2, k3, by omega, by omega, by omega, .inr (by omega)⟩
        · obtain ⟨k1, k2, k3, k4, k5, k6⟩ := h2.1 e he
          exact ⟨k1, k2, by omega, by omega, k5, k6.elim .inl fun z => .inr (by omega)⟩
    · rcases List.mem_append.mp ho with ho | ho
      · obtain ⟨k1, k2, k3, k4, k5⟩ := h1.1 o ho
        exact .inl (by simp; omega)
      · obtain ⟨l1, l2, l3, l4, l5, ⟨l6, l7, l8⟩ | l6⟩ := h2.1 o ho
        · exact .inr (.inr ⟨by simp; omega, by simp; omega, by simp; omega⟩)
        · exact .inl (by simp; omega)
    · obtain ⟨k1, k2, k3, k4, k5⟩ := h1.1 i hi
      obtain ⟨l1, l2, l3, l4, l5, ⟨l6, l7, l8⟩ | l6⟩ := h2.1 o ho
      · exact .inr (.inl (by omega))
      · exact .inl (by omega)
end
theorem body_tab (s : Sm) : Good 0 s.len 0 (tabAt 0 (bodyRows s)) := by
  have h := Sm.tab s 0 0 (0, 0, 0)
  have e : tabAt 0 (bodyRows s) = tabAt 0 (s.code 0 0 (0, 0, 0)) := by
    unfold bodyRows
    rw [tabAt_app]
    simp [tabAt, tbOf]
  rw [e]; exact h
/-- a row of a table comes from a row of the code -/
theorem tabAt_row : ∀ {l : List Rw} {p : Int} {e : Tb}, e ∈ tabAt p l → ∃ r, l[(e.p - p).toNat]? = some r ∧ tbOf e.p r = [e] ∧ p ≤ e.p
  | [], _, _, h => nomatch h
  | r :: l, p, e, h => by
    rcases List.mem_append.mp (show e ∈ tbOf p r ++ tabAt (p + 1) l from h) with h | h
    · have : tbOf p r = [e] ∧ e.p = p := by
        cases r <;> simp [tbOf] at h <;> subst h <;> exact ⟨rfl, rfl⟩
      obtain ⟨h1, h2⟩ := this
      refine ⟨r, by rw [h2, Int.sub_self]; rfl, by rw [h2]; exact h1, by omega⟩
    · obtain ⟨r', h1, h2, h3⟩ := tabAt_row h
      refine ⟨r', ?_, h2, by omega⟩
      have : (e.p - p).toNat = (e.p - (p + 1)).toNat + 1 := by omega
      rw [this]
      exact h1
def isTab (r : Rw) : Bool := match r with | .hand .. => true | .cup .. => true | _ => false
theorem tabAt_count : ∀ (l : List Rw) (p : Int), (tabAt p l).length = (l.filter isTab).length
  | [], _ => rfl
  | r :: l, p => by
    have := tabAt_count l (p + 1)
    cases r <;> simp [tabAt, tbOf, isTab, this, List.filter_cons] <;> omega
end Lp

/-! Lw: what a program does, by its tree: how a statement ends, what is told, how many rows the machine takes. -/
namespace Lp
open PySem PySem.Spec PyProof.Rows L2

structure Flt where
  k : Nat
  v : Int
  tr : List Int
  deriving DecidableEq
inductive Ev where
  | say (n : Int)
  | met (f : Flt)
  deriving DecidableEq
inductive Out where
  | on
  | brk
  | cnt
  | ret (v : Int)
  | flt (f : Flt)
  | dry
  | deep
  deriving DecidableEq
structure WSt where
  σ : List Int
  left : Int
  told : List Ev
/-- one row more where it goes on -/
def Out.tick (o : Out) (n : Nat) : Nat := if o = .on then n else 0
def Out.isFlt : Out → Bool
  | .flt _ => true
  | _ => false
def Out.over : Out → Bool
  | .dry => true
  | .deep => true
  | _ => false
/-- a handler of kind w takes a fault of kind k -/
def takes (ks : List (Option Nat)) (w : Option Nat) (k : Nat) : Bool := match w with
  | none => true
  | some j => under ks k j
/-- the first handler that takes a fault of the kind: its slot, its statement, its place behind the first handler's -/
def Hds.pick (ks : List (Option Nat)) (k : Nat) : Hds → Option (Nat × Sm × Nat)
  | .nil => none
  | .cons w sl t r => if takes ks w k then some (sl, t, 0) else (r.pick ks k).map fun z => (z.1, z.2.1, z.2.2 + (2 + t.len + 2))
/-- eight slots: the numbers, then noughts -/
def slotsFor (ns : List Int) : List Int := ns ++ List.replicate (8 - ns.length) 0
/-- how a call ends -/
def callOut (m : Int) : Out → Out
  | .on => .on
  | .ret _ => .on
  | .flt f => .flt { f with tr := f.tr ++ [m] }
  | o => o
def callSlots (k : Nat) (σ : List Int) : Out → List Int
  | .on => σ.set k 0
  | .ret v => σ.set k v
  | _ => σ
/-- rows behind the callee's -/
def callTick : Out → Nat
  | .on => 3
  | .ret _ => 1
  | _ => 0
mutual
inductive Rn (p : Pg) (dp : Nat) : Nat → List Flt → Sm → WSt → Out → WSt → Nat → Prop where
  | say {d met e w} : Rn p dp d met (.say e) w .on { w with told := w.told ++ [.say (e.val w.σ)] } (e.len + 1)
  | set {d met k e w} : Rn p dp d met (.set k e) w .on { w with σ := w.σ.set k (e.val w.σ) } (e.len + 1)
  | row {d met ps w o w' c} : RnS p dp d met ps w o w' c → Rn p dp d met (.row ps) w o w' c
  | ifT {d met e s t w o w' c} : e.val w.σ ≠ 0 → Rn p dp d met s w o w' c → Rn p dp d met (.ife e s t) w o w' (e.len + 1 + c + o.tick 1)
  | ifF {d met e s t w o w' c} : e.val w.σ = 0 → Rn p dp d met t w o w' c → Rn p dp d met (.ife e s t) w o w' (e.len + 1 + c)
  | whl0 {d met e s w} : e.val w.σ = 0 → Rn p dp d met (.whl e s) w .on w (e.len + 1)
  | whlD {d met e s w} : e.val w.σ ≠ 0 → w.left ≤ 0 → Rn p dp d met (.whl e s) w .dry { w with left := w.left - 1 } (e.len + 2)
  | whlB {d met e s w w' c} : e.val w.σ ≠ 0 → 0 < w.left → Rn p dp d met s { w with left := w.left - 1 } .brk w' c → Rn p dp d met (.whl e s) w .on w' (e.len + 2 + c)
  | whlN {d met e s w o w1 c o2 w2 c2} : e.val w.σ ≠ 0 → 0 < w.left → Rn p dp d met s { w with left := w.left - 1 } o w1 c → (o = .on ∨ o = .cnt) → Rn p dp d met (.whl e s) w1 o2 w2 c2 → Rn p dp d met (.whl e s) w o2 w2 (e.len + 2 + c + o.tick 1 + c2)
  | whlX {d met e s w o w1 c} : e.val w.σ ≠ 0 → 0 < w.left → Rn p dp d met s { w with left := w.left - 1 } o w1 c → o ≠ .on → o ≠ .cnt → o ≠ .brk → Rn p dp d met (.whl e s) w o w1 (e.len + 2 + c)
  | brk {d met w} : Rn p dp d met .brk w .brk w 1
  | cnt {d met w} : Rn p dp d met .cnt w .cnt w 1
  | ret {d met e w} : Rn p dp d met (.ret e) w (.ret (e.val w.σ)) w (e.len + 1)
  | rais {d met kd e m w} : Rn p dp d met (.rais kd e m) w (.flt ⟨kd, e.val w.σ, [m]⟩) w (e.len + 1)
  | again {d met f w} : met.getLast? = some f → Rn p dp d met .again w (.flt f) w 1
  | callD {d met k f ps m w} : w.left ≤ 0 → Rn p dp d met (.call k f ps m) w .dry { w with left := w.left - 1 } (exsLen ps + 1)
  | callP {d met k f ps m w} : 0 < w.left → d = dp → Rn p dp d met (.call k f ps m) w .deep { w with left := w.left - 1 } (exsLen ps + 1)
  | call {d met k f ps m w fn o w1 c} : 0 < w.left → d ≠ dp → p.funs[f]? = some fn → Rn p dp (d + 1) [] fn.2 ⟨slotsFor (ps.map (Ex.val w.σ)), w.left - 1, w.told⟩ o w1 c →
      Rn p dp d met (.call k f ps m) w (callOut m o) ⟨callSlots k w.σ o, w1.left, w1.told⟩ (exsLen ps + 1 + c + callTick o)
  | tri {d met s hs w o w1 c} : Rn p dp d met s w o w1 c → o.isFlt = false → Rn p dp d met (.tri s hs) w o w1 (c + o.tick 1)
  | triC {d met s hs w f w1 c z o w2 c2} : Rn p dp d met s w (.flt f) w1 c → hs.pick p.kinds f.k = some z → Rn p dp d (met ++ [f]) z.2.1 { w1 with σ := w1.σ.set z.1 f.v, told := w1.told ++ [.met f] } o w2 c2 →
      Rn p dp d met (.tri s hs) w o w2 (c + 2 + c2 + o.tick 2)
  | triX {d met s hs w f w1 c} : Rn p dp d met s w (.flt f) w1 c → hs.pick p.kinds f.k = none → Rn p dp d met (.tri s hs) w (.flt f) w1 c
  | clnX {d met s t w o w1 c} : Rn p dp d met s w o w1 c → o.over = true → Rn p dp d met (.cln s t) w o w1 c
  | cln {d met s t w o w1 c o2 w2 c2} : Rn p dp d met s w o w1 c → o.over = false → Rn p dp d met t w1 o2 w2 c2 →
      Rn p dp d met (.cln s t) w (if o2 = .on then o else o2) w2 (c + 1 + o.tick 1 + c2 + o2.tick 1)
inductive RnS (p : Pg) (dp : Nat) : Nat → List Flt → Sms → WSt → Out → WSt → Nat → Prop where
  | nil {d met w} : RnS p dp d met .nil w .on w 0
  | next {d met s r w w1 c o w2 c2} : Rn p dp d met s w .on w1 c → RnS p dp d met r w1 o w2 c2 → RnS p dp d met (.cons s r) w o w2 (c + c2)
  | stop {d met s r w o w1 c} : Rn p dp d met s w o w1 c → o ≠ .on → RnS p dp d met (.cons s r) w o w1 c
end
section
variable {p : Pg} {dp : Nat}
theorem tr3 {o o' : Out} {w w' : WSt} {c c' : Nat} (h : o = o' ∧ w = w' ∧ c = c') : o' = o ∧ w' = w ∧ c' = c := ⟨h.1.symm, h.2.1.symm, h.2.2.symm⟩
mutual
/-- one end alone -/
theorem Rn.det : ∀ {d met s w o w1 c o' w1' c'}, Rn p dp d met s w o w1 c → Rn p dp d met s w o' w1' c' → o = o' ∧ w1 = w1' ∧ c = c'
  | _, _, _, _, _, _, _, _, _, _, .say, h => by cases h; exact ⟨rfl, rfl, rfl⟩
  | _, _, _, _, _, _, _, _, _, _, .set, h => by cases h; exact ⟨rfl, rfl, rfl⟩
  | _, _, _, _, _, _, _, _, _, _, .row a, h => by cases h with | row b => exact RnS.det a b
  | _, _, _, _, _, _, _, _, _, _, .ifT n a, h => by
    cases h with
    | ifT _ b => obtain ⟨rfl, rfl, rfl⟩ := Rn.det a b; exact ⟨rfl, rfl, rfl⟩
    | ifF n' b => exact absurd n' n
  | _, _, _, _, _, _, _, _, _, _, .ifF n a, h => by
    cases h with
    | ifF _ b => obtain ⟨rfl, rfl, rfl⟩ := Rn.det a b; exact ⟨rfl, rfl, rfl⟩
    | ifT n' b => exact absurd n n'
  | _, _, _, _, _, _, _, _, _, _, .whl0 n, h => by
    cases h with
    | whl0 => exact ⟨rfl, rfl, rfl⟩
    | whlD n' | whlB n' | whlN n' | whlX n' => exact absurd n n'
  | _, _, _, _, _, _, _, _, _, _, .whlD n l, h => by
    cases h with
    | whlD => exact ⟨rfl, rfl, rfl⟩
    | whl0 n' => exact absurd n' n
    | whlB _ l' | whlN _ l' | whlX _ l' => omega
  | _, _, _, _, _, _, _, _, _, _, .whlB n l a, h => by
    cases h with
    | whlB _ _ b => obtain ⟨_, rfl, rfl⟩ := Rn.det a b; exact ⟨rfl, rfl, rfl⟩
    | whl0 n' => exact absurd n' n
    | whlD _ l' => omega
    | whlN _ _ b e => obtain ⟨rfl, _⟩ := Rn.det a b; rcases e with e | e <;> cases e
    | whlX _ _ b _ _ e => obtain ⟨rfl, _⟩ := Rn.det a b; exact absurd rfl e
  | _, _, _, _, _, _, _, _, _, _, .whlN n l a e a2, h => by
    cases h with
    | whlN _ _ b _ b2 => obtain ⟨rfl, rfl, rfl⟩ := Rn.det a b; obtain ⟨rfl, rfl, rfl⟩ := Rn.det a2 b2; exact ⟨rfl, rfl, rfl⟩
    | whl0 n' => exact absurd n' n
    | whlD _ l' => omega
    | whlB _ _ b => obtain ⟨rfl, _⟩ := Rn.det a b; rcases e with e | e <;> cases e
    | whlX _ _ b e1 e2 _ => obtain ⟨rfl, _⟩ := Rn.det a b; exact absurd e (fun z => z.elim e1 e2)
  | _, _, _, _, _, _, _, _, _, _, .whlX n l a e1 e2 e3, h => by
    cases h with
    | whlX _ _ b => obtain ⟨rfl, rfl, rfl⟩ := Rn.det a b; exact ⟨rfl, rfl, rfl⟩
    | whl0 n' => exact absurd n' n
    | whlD _ l' => omega
    | whlB _ _ b => obtain ⟨rfl, _⟩ := Rn.det a b; exact absurd rfl e3
    | whlN _ _ b e => obtain ⟨rfl, _⟩ := Rn.det a b; exact absurd e (fun z => z.elim e1 e2)
  | _, _, _, _, _, _, _, _, _, _, .brk, h => by cases h; exact ⟨rfl, rfl, rfl⟩
  | _, _, _, _, _, _, _, _, _, _, .cnt, h => by cases h; exact ⟨rfl, rfl, rfl⟩
  | _, _, _, _, _, _, _, _, _, _, .ret, h => by cases h; exact ⟨rfl, rfl, rfl⟩
  | _, _, _, _, _, _, _, _, _, _, .rais, h => by cases h; exact ⟨rfl, rfl, rfl⟩
  | _, _, _, _, _, _, _, _, _, _, .again e, h => by
    cases h with
    | again e' => rw [e] at e'; cases e'; exact ⟨rfl, rfl, rfl⟩
  | _, _, _, _, _, _, _, _, _, _, .callD l, h => by
    cases h with
    | callD => exact ⟨rfl, rfl, rfl⟩
    | callP l' | call l' => omega
  | _, _, _, _, _, _, _, _, _, _, .callP l e, h => by
    cases h with
    | callP => exact ⟨rfl, rfl, rfl⟩
    | callD l' => omega
    | call _ e' => exact absurd e e'
  | _, _, _, _, _, _, _, _, _, _, .call l e g a, h => by
    cases h with
    | callD l' => omega
    | callP _ e' => exact absurd e' e
    | call _ _ g' b =>
      rw [g] at g'; cases g'
      obtain ⟨rfl, rfl, rfl⟩ := Rn.det a b; exact ⟨rfl, rfl, rfl⟩
  | _, _, _, _, _, _, _, _, _, _, .tri a e, h => by
    cases h with
    | tri b _ => obtain ⟨rfl, rfl, rfl⟩ := Rn.det a b; exact ⟨rfl, rfl, rfl⟩
    | triC b _ _ => obtain ⟨rfl, _⟩ := Rn.det a b; cases e
    | triX b _ => obtain ⟨rfl, _⟩ := Rn.det a b; cases e
  | _, _, _, _, _, _, _, _, _, _, .triC a g a2, h => by
    cases h with
    | tri b e => obtain ⟨rfl, _⟩ := Rn.det a b; cases e
    | triC b g' b2 =>
      obtain ⟨z, rfl, rfl⟩ := Rn.det a b
      cases z
      rw [g] at g'; cases g'
      obtain ⟨rfl, rfl, rfl⟩ := Rn.det a2 b2; exact ⟨rfl, rfl, rfl⟩
    | triX b g' =>
      obtain ⟨z, _⟩ := Rn.det a b
      cases z
      rw [g] at g'; cases g'
  | _, _, _, _, _, _, _, _, _, _, .triX a g, h => by
    cases h with
    | tri b e => obtain ⟨rfl, _⟩ := Rn.det a b; cases e
    | triC b g' b2 =>
      obtain ⟨z, _⟩ := Rn.det a b
      cases z
      rw [g] at g'; cases g'
    | triX b g' => obtain ⟨z, rfl, rfl⟩ := Rn.det a b; cases z; exact ⟨rfl, rfl, rfl⟩
  | _, _, _, _, _, _, _, _, _, _, .clnX a e, h => by
    cases h with
    | clnX b _ => obtain ⟨rfl, rfl, rfl⟩ := Rn.det a b; exact ⟨rfl, rfl, rfl⟩
    | cln b e' _ => obtain ⟨rfl, _⟩ := Rn.det a b; rw [e] at e'; cases e'
  | _, _, _, _, _, _, _, _, _, _, .cln a e a2, h => by
    cases h with
    | clnX b e' => obtain ⟨rfl, _⟩ := Rn.det a b; rw [e] at e'; cases e'
    | cln b _ b2 =>
      obtain ⟨rfl, rfl, rfl⟩ := Rn.det a b
      obtain ⟨rfl, rfl, rfl⟩ := Rn.det a2 b2; exact ⟨rfl, rfl, rfl⟩
theorem RnS.det : ∀ {d met s w o w1 c o' w1' c'}, RnS p dp d met s w o w1 c → RnS p dp d met s w o' w1' c' → o = o' ∧ w1 = w1' ∧ c = c'
  | _, _, _, _, _, _, _, _, _, _, .nil, h => by cases h; exact ⟨rfl, rfl, rfl⟩
  | _, _, _, _, _, _, _, _, _, _, .next a a2, h => by
    cases h with
    | next b b2 =>
      obtain ⟨_, rfl, rfl⟩ := Rn.det a b
      obtain ⟨rfl, rfl, rfl⟩ := RnS.det a2 b2; exact ⟨rfl, rfl, rfl⟩
    | stop b n => obtain ⟨rfl, _⟩ := Rn.det a b; exact absurd rfl n
  | _, _, _, _, _, _, _, _, _, _, .stop a n, h => by
    cases h with
    | next b b2 => obtain ⟨z, _⟩ := Rn.det a b; exact absurd z n
    | stop b _ => exact Rn.det a b
end
end
end Lp

/-! Lw2: how long it takes, what it leaves. -/
namespace Lp
open PySem PySem.Spec PyProof.Rows L2
theorem Hds.pick_len {ks : List (Option Nat)} {k : Nat} : ∀ {hs : Hds} {z : Nat × Sm × Nat}, hs.pick ks k = some z → z.2.2 + 2 + z.2.1.len + 2 ≤ hs.len
  | .nil, z, h => by cases h
  | .cons w sl t r, z, h => by
    unfold Hds.pick at h
    split at h
    · cases h
      show 0 + 2 + t.len + 2 ≤ 2 + t.len + 2 + r.len
      omega
    · cases e : r.pick ks k with
      | none => rw [e] at h; cases h
      | some y =>
        rw [e] at h
        cases h
        have := Hds.pick_len e
        show y.2.2 + (2 + t.len + 2) + 2 + y.2.1.len + 2 ≤ 2 + t.len + 2 + r.len
        omega
theorem Hds.pick_wf {ks : List (Option Nat)} {k nk : Nat} {cs : List Nat} {turn : Bool} : ∀ {hs : Hds} {z : Nat × Sm × Nat}, hs.Wf cs nk turn → hs.pick ks k = some z → z.1 < 8 ∧ z.2.1.Wf cs nk turn true
  | .nil, z, _, h => by cases h
  | .cons w sl t r, z, wf, h => by
    obtain ⟨_, w1, w2, w3⟩ : (∀ j, w = some j → j < nk) ∧ sl < 8 ∧ t.Wf cs nk turn true ∧ r.Wf cs nk turn := wf
    unfold Hds.pick at h
    split at h
    · cases h; exact ⟨w1, w2⟩
    · cases e : r.pick ks k with
      | none => rw [e] at h; cases h
      | some y =>
        rw [e] at h
        cases h
        have h9 := Hds.pick_wf w3 e
        exact h9
theorem Hds.pick_dep {ks : List (Option Nat)} {k : Nat} : ∀ {hs : Hds} {z : Nat × Sm × Nat}, hs.pick ks k = some z → z.2.1.dep ≤ hs.dep
  | .nil, z, h => by cases h
  | .cons w sl t r, z, h => by
    unfold Hds.pick at h
    split at h
    · cases h
      exact Nat.le_max_left _ _
    · cases e : r.pick ks k with
      | none => rw [e] at h; cases h
      | some y =>
        rw [e] at h
        cases h
        have h9 := Hds.pick_dep e
        exact Nat.le_trans h9 (Nat.le_max_right _ _)
theorem tick_le (o : Out) (n : Nat) : o.tick n ≤ n := by unfold Out.tick; split <;> omega
theorem callTick_le (o : Out) : callTick o ≤ 3 := by cases o <;> simp [callTick]
section
variable {p : Pg} {dp : Nat}
def Cost (n : Nat) (w : WSt) (o : Out) (w1 : WSt) (c : Nat) : Prop :=
  (c : Int) ≤ n + 2000 * (w.left - w1.left) ∧ w1.left ≤ w.left ∧ (0 ≤ w1.left ∨ o = .dry) ∧ w1.told.length ≤ w.told.length + c
mutual
theorem Rn.cost (hp : ∀ f ∈ p.funs, f.2.len ≤ 1900) : ∀ {d met s w o w1 c}, Rn p dp d met s w o w1 c → s.len ≤ 1900 → 0 ≤ w.left → Cost s.len w o w1 c
  | _, _, _, w, _, _, _, .say (e := e), hl, h0 => ⟨by simp [Sm.len], Int.le_refl _, .inl h0, by simp⟩
  | _, _, _, w, _, _, _, .set (e := e), hl, h0 => ⟨by simp [Sm.len], Int.le_refl _, .inl h0, by simp⟩
  | _, _, _, w, _, _, _, .row a, hl, h0 => RnS.cost hp a hl h0
  | _, _, _, w, _, _, _, .ifT (e := e) (s := s) (t := t) (o := o) n a, hl, h0 => by
    have hl' : e.len + 1 + s.len + 1 + t.len ≤ 1900 := hl
    obtain ⟨h1, h2, h3, h4⟩ := Rn.cost hp a (by omega) h0
    have := tick_le o 1
    exact ⟨by show _ ≤ ((e.len + 1 + s.len + 1 + t.len : Nat) : Int) + _; omega, h2, h3, by omega⟩
  | _, _, _, w, _, _, _, .ifF (e := e) (s := s) (t := t) n a, hl, h0 => by
    have hl' : e.len + 1 + s.len + 1 + t.len ≤ 1900 := hl
    obtain ⟨h1, h2, h3, h4⟩ := Rn.cost hp a (by omega) h0
    exact ⟨by show _ ≤ ((e.len + 1 + s.len + 1 + t.len : Nat) : Int) + _; omega, h2, h3, by omega⟩
  | _, _, _, w, _, _, _, .whl0 (e := e) (s := s) n, hl, h0 => ⟨by show _ ≤ ((e.len + 2 + s.len + 1 : Nat) : Int) + _; omega, Int.le_refl _, .inl h0, by omega⟩
  | _, _, _, w, _, _, _, .whlD (e := e) (s := s) n l, hl, h0 => ⟨by show _ ≤ ((e.len + 2 + s.len + 1 : Nat) : Int) + 2000 * (w.left - (w.left - 1)); omega, by show w.left - 1 ≤ w.left; omega, .inr rfl, by show w.told.length ≤ _; omega⟩
  | _, _, _, w, _, _, _, .whlB (e := e) (s := s) (w' := w') n l a, hl, h0 => by
    have hl' : e.len + 2 + s.len + 1 ≤ 1900 := hl
    obtain ⟨h1, h2, h3, h4⟩ := Rn.cost hp a (by omega) (by show 0 ≤ w.left - 1; omega)
    replace h1 : _ ≤ _ + 2000 * ((w.left - 1) - w'.left) := h1
    replace h2 : w'.left ≤ w.left - 1 := h2
    replace h4 : _ ≤ w.told.length + _ := h4
    exact ⟨by show _ ≤ ((e.len + 2 + s.len + 1 : Nat) : Int) + _; omega, by omega, h3.elim .inl (fun z => by cases z), by omega⟩
  | _, _, _, w, _, _, _, .whlN (e := e) (s := s) (o := o) (w1 := w1) n l a q a2, hl, h0 => by
    have hl' : e.len + 2 + s.len + 1 ≤ 1900 := hl
    obtain ⟨h1, h2, h3, h4⟩ := Rn.cost hp a (by omega) (by show 0 ≤ w.left - 1; omega)
    replace h1 : _ ≤ _ + 2000 * ((w.left - 1) - w1.left) := h1
    replace h2 : w1.left ≤ w.left - 1 := h2
    replace h4 : _ ≤ w.told.length + _ := h4
    have w0 : 0 ≤ w1.left := h3.elim id (fun z => by subst z; rcases q with q | q <;> cases q)
    obtain ⟨k1, k2, k3, k4⟩ := Rn.cost hp a2 hl w0
    replace k1 : _ ≤ ((e.len + 2 + s.len + 1 : Nat) : Int) + _ := k1
    have := tick_le o 1
    exact ⟨by show _ ≤ ((e.len + 2 + s.len + 1 : Nat) : Int) + _; omega, by omega, k3, by omega⟩
  | _, _, _, w, _, w1, _, .whlX (e := e) (s := s) n l a _ _ _, hl, h0 => by
    have hl' : e.len + 2 + s.len + 1 ≤ 1900 := hl
    obtain ⟨h1, h2, h3, h4⟩ := Rn.cost hp a (by omega) (by show 0 ≤ w.left - 1; omega)
    replace h1 : _ ≤ _ + 2000 * ((w.left - 1) - w1.left) := h1
    replace h2 : w1.left ≤ w.left - 1 := h2
    replace h4 : _ ≤ w.told.length + _ := h4
    exact ⟨by show _ ≤ ((e.len + 2 + s.len + 1 : Nat) : Int) + _; omega, by omega, h3, by omega⟩
  | _, _, _, w, _, _, _, .brk, hl, h0 => ⟨by simp [Sm.len], Int.le_refl _, .inl h0, by omega⟩
  | _, _, _, w, _, _, _, .cnt, hl, h0 => ⟨by simp [Sm.len], Int.le_refl _, .inl h0, by omega⟩
  | _, _, _, w, _, _, _, .ret, hl, h0 => ⟨by simp [Sm.len], Int.le_refl _, .inl h0, by omega⟩
  | _, _, _, w, _, _, _, .rais, hl, h0 => ⟨by simp [Sm.len], Int.le_refl _, .inl h0, by omega⟩
  | _, _, _, w, _, _, _, .again _, hl, h0 => ⟨by simp [Sm.len], Int.le_refl _, .inl h0, by omega⟩
  | _, _, _, w, _, _, _, .callD (ps := ps) l, hl, h0 => ⟨by show _ ≤ ((exsLen ps + 2 : Nat) : Int) + 2000 * (w.left - (w.left - 1)); omega, by show w.left - 1 ≤ w.left; omega, .inr rfl, by show w.told.length ≤ _; omega⟩
  | _, _, _, w, _, _, _, .callP (ps := ps) l _, hl, h0 => ⟨by show _ ≤ ((exsLen ps + 2 : Nat) : Int) + 2000 * (w.left - (w.left - 1)); omega, by show w.left - 1 ≤ w.left; omega, .inl (by show 0 ≤ w.left - 1; omega), by show w.told.length ≤ _; omega⟩
  | _, _, _, w, _, _, _, .call (ps := ps) (fn := fn) (o := o) (w1 := w1) l _ g a, hl, h0 => by
    obtain ⟨h1, h2, h3, h4⟩ := Rn.cost hp a (hp _ (List.mem_of_getElem? g)) (by show 0 ≤ w.left - 1; omega)
    have hf := hp _ (List.mem_of_getElem? g)
    replace h1 : _ ≤ _ + 2000 * ((w.left - 1) - w1.left) := h1
    replace h2 : w1.left ≤ w.left - 1 := h2
    replace h4 : _ ≤ w.told.length + _ := h4
    have := callTick_le o
    refine ⟨by show _ ≤ ((exsLen ps + 2 : Nat) : Int) + 2000 * (w.left - w1.left); omega, by show w1.left ≤ w.left; omega, h3.imp id fun z => by subst z; rfl, by show w1.told.length ≤ _; omega⟩
  | _, _, _, w, _, _, _, .tri (s := s) (hs := hs) (o := o) a _, hl, h0 => by
    have hl' : s.len + 1 + hs.len ≤ 1900 := hl
    obtain ⟨h1, h2, h3, h4⟩ := Rn.cost hp a (by omega) h0
    have := tick_le o 1
    exact ⟨by show _ ≤ ((s.len + 1 + hs.len : Nat) : Int) + _; omega, h2, h3, by omega⟩
  | _, _, _, w, _, _, _, .triC (s := s) (hs := hs) (f := f) (w1 := w1) (z := z) (o := o) a g a2, hl, h0 => by
    have hl' : s.len + 1 + hs.len ≤ 1900 := hl
    have hz := Hds.pick_len g
    obtain ⟨h1, h2, h3, h4⟩ := Rn.cost hp a (by omega) h0
    have w0 : 0 ≤ w1.left := h3.elim id (fun z => by cases z)
    obtain ⟨k1, k2, k3, k4⟩ := Rn.cost hp a2 (by omega) w0
    replace k1 : _ ≤ _ + 2000 * (w1.left - _) := k1
    replace k2 : _ ≤ w1.left := k2
    replace k4 : _ ≤ (w1.told ++ [Ev.met f]).length + _ := k4
    rw [List.length_append] at k4
    have : [Ev.met f].length = 1 := rfl
    have := tick_le o 2
    exact ⟨by show _ ≤ ((s.len + 1 + hs.len : Nat) : Int) + _; omega, by omega, k3, by omega⟩
  | _, _, _, w, _, _, _, .triX (s := s) (hs := hs) a _, hl, h0 => by
    have hl' : s.len + 1 + hs.len ≤ 1900 := hl
    obtain ⟨h1, h2, h3, h4⟩ := Rn.cost hp a (by omega) h0
    exact ⟨by show _ ≤ ((s.len + 1 + hs.len : Nat) : Int) + _; omega, h2, h3, by omega⟩
  | _, _, _, w, _, _, _, .clnX (s := s) (t := t) a _, hl, h0 => by
    have hl' : s.len + 2 + t.len + 1 ≤ 1900 := hl
    obtain ⟨h1, h2, h3, h4⟩ := Rn.cost hp a (by omega) h0
    exact ⟨by show _ ≤ ((s.len + 2 + t.len + 1 : Nat) : Int) + _; omega, h2, h3, by omega⟩
  | _, _, _, w, _, _, _, .cln (s := s) (t := t) (o := o) (w1 := w1) (o2 := o2) a q a2, hl, h0 => by
    have hl' : s.len + 2 + t.len + 1 ≤ 1900 := hl
    obtain ⟨h1, h2, h3, h4⟩ := Rn.cost hp a (by omega) h0
    have w0 : 0 ≤ w1.left := h3.elim id (fun z => by subst z; cases q)
    obtain ⟨k1, k2, k3, k4⟩ := Rn.cost hp a2 (by omega) w0
    have := tick_le o 1
    have := tick_le o2 1
    refine ⟨by show _ ≤ ((s.len + 2 + t.len + 1 : Nat) : Int) + _; omega, by omega, k3.imp id fun z => by subst z; rfl, by omega⟩
theorem RnS.cost (hp : ∀ f ∈ p.funs, f.2.len ≤ 1900) : ∀ {d met s w o w1 c}, RnS p dp d met s w o w1 c → s.len ≤ 1900 → 0 ≤ w.left → Cost s.len w o w1 c
  | _, _, _, w, _, _, _, .nil, hl, h0 => ⟨by simp [Sms.len], Int.le_refl _, .inl h0, by omega⟩
  | _, _, _, w, _, _, _, .next (s := s) (r := r) (w1 := w1) a a2, hl, h0 => by
    have hl' : s.len + r.len ≤ 1900 := hl
    obtain ⟨h1, h2, h3, h4⟩ := Rn.cost hp a (by omega) h0
    have w0 : 0 ≤ w1.left := h3.elim id (fun z => by cases z)
    obtain ⟨k1, k2, k3, k4⟩ := RnS.cost hp a2 (by omega) w0
    exact ⟨by show _ ≤ ((s.len + r.len : Nat) : Int) + _; omega, by omega, k3, by omega⟩
  | _, _, _, w, _, _, _, .stop (s := s) (r := r) a _, hl, h0 => by
    have hl' : s.len + r.len ≤ 1900 := hl
    obtain ⟨h1, h2, h3, h4⟩ := Rn.cost hp a (by omega) h0
    exact ⟨by show _ ≤ ((s.len + r.len : Nat) : Int) + _; omega, h2, h3, h4⟩
end
/-! ### what it leaves -/
def FltOk (nk dp d : Nat) (f : Flt) : Prop := f.k < nk ∧ 0 ≤ f.v ∧ f.v < 10007 ∧ f.tr.length + d ≤ dp + 1
def OutOk (nk dp d : Nat) (turn : Bool) : Out → Prop
  | .brk => turn = true
  | .cnt => turn = true
  | .ret v => 0 ≤ v ∧ v < 10007
  | .flt f => FltOk nk dp d f
  | _ => True
def MetOk (nk dp d : Nat) (hand : Bool) (met : List Flt) : Prop := (∀ f ∈ met, FltOk nk dp d f) ∧ (hand = true → met ≠ [])
theorem InR.set {σ : List Int} (r : InR σ) {k : Nat} {v : Int} (h : 0 ≤ v ∧ v < 10007) : InR (σ.set k v) := by
  refine ⟨by rw [List.length_set]; exact r.1, fun n hn => ?_⟩
  rcases List.mem_or_eq_of_mem_set hn with z | z
  · exact r.2 n z
  · rw [z]; exact h
theorem slotsFor_in {ns : List Int} (hl : ns.length ≤ 8) (h : ∀ n ∈ ns, 0 ≤ n ∧ n < 10007) : InR (slotsFor ns) := by
  refine ⟨by simp [slotsFor]; omega, fun n hn => ?_⟩
  rcases List.mem_append.mp hn with z | z
  · exact h n z
  · have := List.eq_of_mem_replicate z
    omega
structure PgR (p : Pg) : Prop where
  body : ∀ f ∈ p.funs, f.2.Wf p.cs p.kinds.length false false
section
variable {nk : Nat}
mutual
theorem Rn.ok (hp : PgR p) (hn : nk = p.kinds.length) : ∀ {d met s w o w1 c turn hand}, Rn p dp d met s w o w1 c → s.Wf p.cs nk turn hand → InR w.σ → MetOk nk dp d hand met → d ≤ dp → InR w1.σ ∧ OutOk nk dp d turn o
  | _, _, _, w, _, _, _, _, _, .say, _, hr, _, _ => ⟨hr, trivial⟩
  | _, _, _, w, _, _, _, _, _, .set (e := e), wf, hr, _, _ => ⟨hr.set (Ex.val_in hr wf.2.1), trivial⟩
  | _, _, _, w, _, _, _, _, _, .row a, wf, hr, hm, hd => RnS.ok hp hn a wf hr hm hd
  | _, _, _, w, _, _, _, _, _, .ifT _ a, wf, hr, hm, hd => Rn.ok hp hn a wf.2.1 hr hm hd
  | _, _, _, w, _, _, _, _, _, .ifF _ a, wf, hr, hm, hd => Rn.ok hp hn a wf.2.2 hr hm hd
  | _, _, _, w, _, _, _, _, _, .whl0 _, _, hr, _, _ => ⟨hr, trivial⟩
  | _, _, _, w, _, _, _, _, _, .whlD _ _, _, hr, _, _ => ⟨hr, trivial⟩
  | _, _, _, w, _, _, _, _, _, .whlB _ _ a, wf, hr, hm, hd => ⟨(Rn.ok hp hn a wf.2 hr hm hd).1, trivial⟩
  | _, _, _, w, _, _, _, _, _, .whlN _ _ a _ a2, wf, hr, hm, hd => Rn.ok hp hn a2 wf (Rn.ok hp hn a wf.2 hr hm hd).1 hm hd
  | _, _, _, w, o, _, _, _, _, .whlX _ _ a e1 e2 e3, wf, hr, hm, hd => by
    obtain ⟨h1, h2⟩ := Rn.ok hp hn a wf.2 hr hm hd
    refine ⟨h1, ?_⟩
    cases o with
    | brk => exact absurd rfl e3
    | cnt => exact absurd rfl e2
    | on => trivial
    | ret v => exact h2
    | flt f => exact h2
    | dry => trivial
    | deep => trivial
  | _, _, _, w, _, _, _, _, _, .brk, wf, hr, _, _ => ⟨hr, wf⟩
  | _, _, _, w, _, _, _, _, _, .cnt, wf, hr, _, _ => ⟨hr, wf⟩
  | _, _, _, w, _, _, _, _, _, .ret, wf, hr, _, _ => ⟨hr, Ex.val_in hr wf.1⟩
  | d, _, _, w, _, _, _, _, _, .rais, wf, hr, _, hd => ⟨hr, wf.1, (Ex.val_in hr wf.2.1.1).1, (Ex.val_in hr wf.2.1.1).2, by show 1 + d ≤ dp + 1; omega⟩
  | _, _, _, w, _, _, _, _, _, .again e, wf, hr, hm, _ => ⟨hr, hm.1 _ (List.mem_of_getLast? e)⟩
  | _, _, _, w, _, _, _, _, _, .callD _, _, hr, _, _ => ⟨hr, trivial⟩
  | _, _, _, w, _, _, _, _, _, .callP _ _, _, hr, _, _ => ⟨hr, trivial⟩
  | d, _, _, w, _, _, _, _, _, .call (ps := ps) (o := o) (fn := fn) _ ne g a, wf, hr, hm, hd => by
    obtain ⟨_, _, hl, hps, _, _⟩ := wf
    obtain ⟨h1, h2⟩ := Rn.ok hp hn a (by rw [hn]; exact hp.body _ (List.mem_of_getElem? g)) (slotsFor_in (by simp; omega) (fun n hn2 => by
      obtain ⟨e, he, rfl⟩ := List.mem_map.mp hn2
      exact Ex.val_in hr (hps e he).1)) (⟨(fun _ z => nomatch z), (fun z => nomatch z)⟩ : MetOk nk dp (d + 1) false []) (by omega)
    cases o with
    | on => exact ⟨hr.set ⟨by omega, by omega⟩, trivial⟩
    | brk => cases h2
    | cnt => cases h2
    | ret v => exact ⟨hr.set h2, trivial⟩
    | flt f =>
      obtain ⟨k1, k2, k3, k4⟩ := h2
      exact ⟨hr, k1, k2, k3, by show (f.tr ++ [_]).length + d ≤ dp + 1; simp; omega⟩
    | dry => exact ⟨hr, trivial⟩
    | deep => exact ⟨hr, trivial⟩
  | _, _, _, w, _, _, _, _, _, .tri a _, wf, hr, hm, hd => Rn.ok hp hn a wf.1 hr hm hd
  | d, met, _, w, _, _, _, _, _, .triC (f := f) a g a2, wf, hr, hm, hd => by
    obtain ⟨h1, h2⟩ := Rn.ok hp hn a wf.1 hr hm hd
    obtain ⟨_, wz⟩ := Hds.pick_wf wf.2 g
    refine Rn.ok hp hn a2 wz (h1.set ⟨h2.2.1, h2.2.2.1⟩) ⟨fun y hy => ?_, fun _ => by simp⟩ hd
    rcases List.mem_append.mp hy with z | z
    · exact hm.1 y z
    · have : y = f := by simpa using z
      rw [this]; exact h2
  | _, _, _, w, _, _, _, _, _, .triX a _, wf, hr, hm, hd => Rn.ok hp hn a wf.1 hr hm hd
  | _, _, _, w, _, _, _, _, _, .clnX a _, wf, hr, hm, hd => Rn.ok hp hn a wf.1 hr hm hd
  | _, _, _, w, _, _, _, _, _, .cln (o := o) (o2 := o2) a q a2, wf, hr, hm, hd => by
    obtain ⟨h1, h2⟩ := Rn.ok hp hn a wf.1 hr hm hd
    obtain ⟨h3, h4⟩ := Rn.ok hp hn a2 wf.2 h1 hm hd
    refine ⟨h3, ?_⟩
    split
    · exact h2
    · exact h4
theorem RnS.ok (hp : PgR p) (hn : nk = p.kinds.length) : ∀ {d met s w o w1 c turn hand}, RnS p dp d met s w o w1 c → s.Wf p.cs nk turn hand → InR w.σ → MetOk nk dp d hand met → d ≤ dp → InR w1.σ ∧ OutOk nk dp d turn o
  | _, _, _, w, _, _, _, _, _, .nil, _, hr, _, _ => ⟨hr, trivial⟩
  | _, _, _, w, _, _, _, _, _, .next a a2, wf, hr, hm, hd => RnS.ok hp hn a2 wf.2 (Rn.ok hp hn a wf.1 hr hm hd).1 hm hd
  | _, _, _, w, _, _, _, _, _, .stop a _, wf, hr, hm, hd => Rn.ok hp hn a wf.1 hr hm hd
end
end
end
end Lp

/-! Lw3: ends and events as data; what a walk is asked. -/
namespace Lp
open PySem PySem.Spec PyProof.Rows L2
def Flt.tl (f : Flt) : List PyData := [.int (f.k : Int), .int f.v, .tuple (f.tr.map .int)]
def Flt.d (f : Flt) : PyData := .tuple (.str "fault" :: f.tl)
def Out.w : Out → Str
  | .on => "on"
  | .brk => "break"
  | .cnt => "continue"
  | .ret _ => "return"
  | .flt _ => "fault"
  | .dry => "dry"
  | .deep => "deep"
def Out.r : Out → List PyData
  | .ret v => [.int v]
  | .flt f => f.tl
  | _ => []
def Out.d (o : Out) : PyData := .tuple (.str o.w :: o.r)
def Ev.d : Ev → PyData
  | .say n => .tuple [.str "say", .int n]
  | .met f => .tuple (.str "met" :: f.tl)
def metD (met : List Flt) : PyData := .tuple (met.map Flt.d)
structure PgW (p : Pg) : Prop where
  wf : p.Wf
  dep : ∀ f ∈ p.funs, f.2.dep ≤ 5
  len : ∀ f ∈ p.funs, f.2.len ≤ 1900
theorem PgW.r {p : Pg} (h : PgW p) : PgR p := ⟨h.wf.body⟩
structure WPre (p : Pg) (dp n d : Nat) (met : List Flt) (turn hand : Bool) (s : Sm) (w : WSt) : Prop where
  pw : PgW p
  wf : s.Wf p.cs p.kinds.length turn hand
  inr : InR w.σ
  mok : MetOk p.kinds.length dp d hand met
  mfew : met.length + s.dep ≤ 100
  ddp : d ≤ dp
  dps : dp ≤ 1000
  dep : s.dep + 6 * (dp - d) ≤ n
  len : s.len ≤ 1900
  left : 0 ≤ w.left
  bud : (w.told.length : Int) + s.len + 2000 * (w.left + 1) ≤ 500000
section
variable {p : Pg} {dp n d : Nat} {met : List Flt} {turn hand turn' : Bool} {s t : Sm} {w w1 : WSt}
/-- a part, first -/
theorem WPre.first (h : WPre p dp (n + 1) d met turn hand s w) (wf : t.Wf p.cs p.kinds.length turn' hand) (hd : t.dep + 1 ≤ s.dep) (hl : t.len ≤ s.len) : WPre p dp n d met turn' hand t w :=
  ⟨h.pw, wf, h.inr, h.mok, by have := h.mfew; omega, h.ddp, h.dps, by have := h.dep; omega, by have := h.len; omega, h.left, by have := h.bud; omega⟩
/-- a part behind another -/
theorem WPre.next {m c : Nat} {o : Out} (h : WPre p dp (n + 1) d met turn hand s w) (k : Cost m w o w1 c) (ho : o ≠ .dry) (hr : InR w1.σ) (wf : t.Wf p.cs p.kinds.length turn' hand) (hd : t.dep + 1 ≤ s.dep) (hl : m + t.len ≤ s.len) : WPre p dp n d met turn' hand t w1 := by
  obtain ⟨h1, h2, h3, h4⟩ := k
  have hb := h.bud
  have hn := h.len
  exact ⟨h.pw, wf, hr, h.mok, by have := h.mfew; omega, h.ddp, h.dps, by have := h.dep; omega, by omega, h3.elim id fun z => absurd z ho, by omega⟩
end
section
variable {K : PySem.W.Frag} {H : Hp} {σ : L2.St} {v : V} {i : Nat} {a : Addr} {xs : List V} {z z' : Str}
theorem Out.tup {o : Out} (h : Tp K H v o.d) : ∃ a r, v = .ref a ∧ SqT K H a (.str o.w :: r) ∧ TpAll K H r o.r := by
  obtain ⟨a, xs, rfl, hT, h⟩ := Tp.tupE h
  obtain ⟨x0, r, rfl, h0, h2⟩ := h.consE
  cases h0.strE
  exact ⟨a, r, rfl, hT, h2⟩
theorem pb_w (hs : σ[i]? = some (some (.ref a))) (hT : SqT K H a xs) (e : xs[0]? = some (.str z)) : PB (tTest (tOp rEq (tOp (rIxT K) (tVar i) (tC (.int 0))) (tC (.str z')))) σ H (decide (V.str z = V.str z')) := fun _ q => rd_ixT (j := 0) hs hT e ⟨rfl, _, rfl, q⟩
theorem pb_wN (hs : σ[i]? = some (some (.ref a))) (hT : SqT K H a xs) (e : xs[0]? = some (.str z)) : PB (tTest (tOp rNe (tOp (rIxT K) (tVar i) (tC (.int 0))) (tC (.str z')))) σ H (!decide (V.str z = V.str z')) := fun _ q => rd_ixT (j := 0) hs hT e ⟨rfl, _, rfl, q⟩
/-- the list of what a walk may change -/
def B3 (a b c : Addr) : Addr → Prop := fun x => x = a ∨ x = b ∨ x = c
structure RunSt (K : PySem.W.Frag) (p : Pg) (dp : Nat) (H : Hp) (rn tl sl : Addr) (pv : V) (w : WSt) : Prop where
  run : H rn = some (.lst [pv, .int w.left, .int (dp : Int), .ref tl])
  told : ∃ us, H tl = some (.lst us) ∧ TpAll K H us (w.told.map Ev.d)
  slo : H sl = some (.lst (w.σ.map V.int))
  pt : Tp K H pv p.d
  n1 : rn ≠ tl
  n2 : rn ≠ sl
  n3 : tl ≠ sl
variable {p : Pg} {dp : Nat} {H' : Hp} {rn tl sl : Addr} {pv : V} {w : WSt}
theorem RunSt.noTup (r : RunSt K p dp H rn tl sl pv w) : NoTup (B3 rn tl sl) H := by
  rintro a (rfl | rfl | rfl)
  · exact ⟨_, r.run, (fun _ z => by cases z), (fun _ _ z => by cases z)⟩
  · obtain ⟨us, h, _⟩ := r.told
    exact ⟨_, h, (fun _ z => by cases z), (fun _ _ z => by cases z)⟩
  · exact ⟨_, r.slo, (fun _ z => by cases z), (fun _ _ z => by cases z)⟩
theorem RunSt.tk (r : RunSt K p dp H rn tl sl pv w) (k : Kp (B3 rn tl sl) H H') : Tk H H' := k.tk r.noTup
theorem RunSt.same (r : RunSt K p dp H rn tl sl pv w) (s : Same H H') : RunSt K p dp H' rn tl sl pv w := by
  obtain ⟨us, h, ht⟩ := r.told
  exact ⟨s _ _ r.run, ⟨us, s _ _ h, ht.mono (Tk.same s)⟩, s _ _ r.slo, r.pt.mono (Tk.same s), r.n1, r.n2, r.n3⟩
/-- one told more -/
theorem RunSt.say {x : V} {e : Ev} (r : RunSt K p dp H rn tl sl pv w) (hx : Tp K H x e.d) : ∃ us, H tl = some (.lst us) ∧ us.length = w.told.length ∧ RunSt K p dp (upd H tl (.lst (us ++ [x]))) rn tl sl pv { w with told := w.told ++ [e] } := by
  obtain ⟨us, h, ht⟩ := r.told
  refine ⟨us, h, by rw [ht.length, List.length_map], ⟨by rw [upd_ne r.n1]; exact r.run, ⟨_, upd_same, ?_⟩, by rw [upd_ne r.n3.symm]; exact r.slo, r.pt.mono (Tk.lst h), r.n1, r.n2, r.n3⟩⟩
  rw [List.map_append]
  exact (ht.snoc hx).mono (Tk.lst h)
/-- a slot set -/
theorem RunSt.set {k : Nat} {i : Int} (r : RunSt K p dp H rn tl sl pv w) : RunSt K p dp (upd H sl (.lst ((w.σ.map V.int).set k (.int i)))) rn tl sl pv { w with σ := w.σ.set k i } := by
  obtain ⟨us, h, ht⟩ := r.told
  refine ⟨by rw [upd_ne r.n2]; exact r.run, ⟨us, by rw [upd_ne r.n3]; exact h, ht.mono (Tk.lst r.slo)⟩, ?_, r.pt.mono (Tk.lst r.slo), r.n1, r.n2, r.n3⟩
  rw [upd_same, List.map_set]
/-- one counted -/
theorem RunSt.count {i : Int} (r : RunSt K p dp H rn tl sl pv w) : RunSt K p dp (upd H rn (.lst [pv, .int i, .int (dp : Int), .ref tl])) rn tl sl pv { w with left := i } := by
  obtain ⟨us, h, ht⟩ := r.told
  exact ⟨upd_same, ⟨us, by rw [upd_ne r.n1.symm]; exact h, ht.mono (Tk.lst r.run)⟩, by rw [upd_ne r.n2.symm]; exact r.slo, r.pt.mono (Tk.lst r.run), r.n1, r.n2, r.n3⟩
end
/-! ### what the law's walk is asked and told -/
structure WalkP (K : PySem.W.Frag) (P : Sm → Prop) (n : Nat) (vs : List V) (H : Hp) (Q : VK) : Prop where
  ex : ∃ (p : Pg) (dp : Nat) (rn tl sl : Addr) (pv v mv : V) (w : WSt) (d : Nat) (met : List Flt) (s : Sm) (turn hand : Bool), vs = [.ref rn, v, .ref sl, mv, .int (d : Int)] ∧ RunSt K p dp H rn tl sl pv w ∧ Tp K H v s.d ∧ Tp K H mv (metD met) ∧ WPre p dp n d met turn hand s w ∧ P s ∧
    ∀ (v' : V) (o : Out) (w1 : WSt) (c : Nat) (H' : Hp), Rn p dp d met s w o w1 c → RunSt K p dp H' rn tl sl pv w1 → Tp K H' v' o.d → Kp (B3 rn tl sl) H H' → Q v' H'
def spWalk (K : PySem.W.Frag) (P : Sm → Prop) (n : Nat) : Sp := fun vs H Q _ => WalkP K P n vs H Q
theorem spWalk_zero {K : PySem.W.Frag} {P : Sm → Prop} (vs : List V) (H : Hp) (Q : VK) (E : XK) : ¬ spWalk K P 0 vs H Q E := by
  rintro ⟨⟨p, dp, rn, tl, sl, pv, v, mv, w, d, met, s, turn, hand, _, _, _, _, h, _⟩⟩
  have := h.dep
  have : 1 ≤ s.dep := by cases s <;> simp [Sm.dep]
  omega
theorem pWalk {K : PySem.W.Frag} {P : Sm → Prop} {n : Nat} {H : Hp} {Q : VK} {p : Pg} {dp : Nat} {rn tl sl : Addr} {pv v mv : V} {w : WSt} {d : Nat} {met : List Flt} {s : Sm} {turn hand : Bool}
    (r : RunSt K p dp H rn tl sl pv w) (tv : Tp K H v s.d) (tm : Tp K H mv (metD met)) (pre : WPre p dp n d met turn hand s w) (hP : P s)
    (q : ∀ (v' : V) (o : Out) (w1 : WSt) (c : Nat) (H' : Hp), Rn p dp d met s w o w1 c → Cost s.len w o w1 c → InR w1.σ → OutOk p.kinds.length dp d turn o → RunSt K p dp H' rn tl sl pv w1 → Tp K H' v' o.d → Kp (B3 rn tl sl) H H' → Tk H H' → Q v' H') : spWalk K P n [.ref rn, v, .ref sl, mv, .int (d : Int)] H Q E0 :=
  ⟨p, dp, rn, tl, sl, pv, v, mv, w, d, met, s, turn, hand, rfl, r, tv, tm, pre, hP, fun v' o w1 c H' hR r' t' k' =>
    q v' o w1 c H' hR (Rn.cost pre.pw.len hR pre.len pre.left) (Rn.ok pre.pw.r rfl hR pre.wf pre.inr pre.mok pre.ddp).1 (Rn.ok pre.pw.r rfl hR pre.wf pre.inr pre.mok pre.ddp).2 r' t' k' (r.tk k')⟩
end Lp

/-! LwL: the law's walk. -/
namespace Lp
open PySem PySem.Spec PyProof.Rows L2
def t_law_met (K : PySem.W.Frag) (sp_law_above : Sp) : TS :=
  tRet (tOrV (tOp rIsN (tVar 1) (tC .non)) (tOp (rIn K false) (tVar 1) (tCall sp_law_above [] E0 (tCons (tVar 0) (tCons (tVar 2) (tNil))))))

def t_law_counted (K : PySem.W.Frag) : TS :=
  tSeq (tAsg (tOp rSbI (tOp (rIxL K) (tVar 0) (tC (.int 1))) (tC (.int 1))) (gSub (tVar 0) (tC (.int 1)) rSetL)) (tRet (tOp rGe (tOp (rIxL K) (tVar 0) (tC (.int 1))) (tC (.int 0))))

def t_law_called (K : PySem.W.Frag) (sp_law_does : Sp) : TS :=
  tSeq (tAsg (tOp rCat (tCB (rLstOf K) (tCons (tVar 2) (tNil))) (tLc (iRng1 (tCons (tOp rSbI (tC (.int 8)) (tCB (rLenQ K) (tCons (tVar 2) (tNil)))) (tNil))) (gName 5) (tYes) (tC (.int 0)) [5])) (gName 4)) (tSeq (tAsg (tCall sp_law_does [] E0 (tCons (tVar 0) (tCons (tOp (rIxT K) (tOp (rIxT K) (tOp (rIxT K) (tOp (rIxL K) (tVar 0) (tC (.int 0))) (tC (.int 1))) (tVar 1)) (tC (.int 1))) (tCons (tVar 4) (tCons (tTup (tNil)) (tCons (tVar 3) (tNil))))))) (gName 6)) (tSeq (tIfS (tTest (tOp rEq (tOp (rIxT K) (tVar 6) (tC (.int 0))) (tC (.str "on")))) (tRet (tTup (tCons (tC (.str "return")) (tCons (tC (.int 0)) (tNil))))) (tNext)) (tRet (tVar 6))))

def t_law_calls (K : PySem.W.Frag) (sp_law_value : Sp) (sp_law_counted : Sp) (sp_law_called : Sp) : TS :=
  tSeq (tAsg (tLc (iTup K (tOp (rIxT K) (tVar 1) (tC (.int 3)))) (gName 5) (tYes) (tCall sp_law_value [] E0 (tCons (tVar 5) (tCons (tVar 2) (tNil)))) [5]) (gName 4)) (tSeq (tIfS (tNot (tB (tCall sp_law_counted [] E0 (tCons (tVar 0) (tNil))))) (tRet (tTup (tCons (tC (.str "dry")) (tNil)))) (tNext)) (tSeq (tIfS (tTest (tOp rEq (tVar 3) (tOp (rIxL K) (tVar 0) (tC (.int 2))))) (tRet (tTup (tCons (tC (.str "deep")) (tNil)))) (tNext)) (tSeq (tAsg (tCall sp_law_called [] E0 (tCons (tVar 0) (tCons (tOp (rIxT K) (tVar 1) (tC (.int 2))) (tCons (tVar 4) (tCons (tOp rAdI (tVar 3) (tC (.int 1))) (tNil)))))) (gName 6)) (tSeq (tIfS (tTest (tOp rEq (tOp (rIxT K) (tVar 6) (tC (.int 0))) (tC (.str "return")))) (tSeq (tAsg (tOp (rIxT K) (tVar 6) (tC (.int 1))) (gSub (tVar 2) (tOp (rIxT K) (tVar 1) (tC (.int 1))) rSetL)) (tRet (tTup (tCons (tC (.str "on")) (tNil))))) (tNext)) (tSeq (tIfS (tTest (tOp rEq (tOp (rIxT K) (tVar 6) (tC (.int 0))) (tC (.str "fault")))) (tRet (tTup (tCons (tC (.str "fault")) (tCons (tOp (rIxT K) (tVar 6) (tC (.int 1))) (tCons (tOp (rIxT K) (tVar 6) (tC (.int 2))) (tCons (tOp (rCatA K) (tOp (rIxT K) (tVar 6) (tC (.int 3))) (tTup (tCons (tOp (rIxT K) (tVar 1) (tC (.int 4))) (tNil)))) (tNil))))))) (tNext)) (tRet (tVar 6)))))))

def t_law_turned (K : PySem.W.Frag) (sp_law_value : Sp) (sp_law_counted : Sp) (sp_law_does : Sp) : TS :=
  tSeq (tWhile (tTest (tOp rNe (tCall sp_law_value [] E0 (tCons (tOp (rIxT K) (tVar 1) (tC (.int 1))) (tCons (tVar 2) (tNil)))) (tC (.int 0)))) (tSeq (tIfS (tNot (tB (tCall sp_law_counted [] E0 (tCons (tVar 0) (tNil))))) (tRet (tTup (tCons (tC (.str "dry")) (tNil)))) (tNext)) (tSeq (tAsg (tCall sp_law_does [] E0 (tCons (tVar 0) (tCons (tOp (rIxT K) (tVar 1) (tC (.int 2))) (tCons (tVar 2) (tCons (tVar 3) (tCons (tVar 4) (tNil))))))) (gName 5)) (tSeq (tIfS (tTest (tOp rEq (tOp (rIxT K) (tVar 5) (tC (.int 0))) (tC (.str "break")))) (tRet (tTup (tCons (tC (.str "on")) (tNil)))) (tNext)) (tIfS (tTest (tOp (rIn K true) (tOp (rIxT K) (tVar 5) (tC (.int 0))) (tTup (tCons (tC (.str "on")) (tCons (tC (.str "continue")) (tNil)))))) (tRet (tVar 5)) (tNext)))))) (tRet (tTup (tCons (tC (.str "on")) (tNil))))

def t_law_tried (K : PySem.W.Frag) (sp_law_does : Sp) (sp_law_met : Sp) : TS :=
  tSeq (tAsg (tCall sp_law_does [] E0 (tCons (tVar 0) (tCons (tOp (rIxT K) (tVar 1) (tC (.int 1))) (tCons (tVar 2) (tCons (tVar 3) (tCons (tVar 4) (tNil))))))) (gName 5)) (tSeq (tIfS (tTest (tOp rEq (tOp (rIxT K) (tVar 5) (tC (.int 0))) (tC (.str "fault")))) (tFor (iTup K (tOp (rIxT K) (tVar 1) (tC (.int 2)))) (gName 6) (tIfS (tB (tCall sp_law_met [] E0 (tCons (tOp (rIxT K) (tOp (rIxL K) (tVar 0) (tC (.int 0))) (tC (.int 0))) (tCons (tOp (rIxT K) (tVar 6) (tC (.int 0))) (tCons (tOp (rIxT K) (tVar 5) (tC (.int 1))) (tNil)))))) (tSeq (tDrop (tBM K "list" rAppend (tOp (rIxL K) (tVar 0) (tC (.int 3))) (tCons (tTup (tCons (tC (.str "met")) (tCons (tOp (rIxT K) (tVar 5) (tC (.int 1))) (tCons (tOp (rIxT K) (tVar 5) (tC (.int 2))) (tCons (tOp (rIxT K) (tVar 5) (tC (.int 3))) (tNil)))))) (tNil)))) (tSeq (tAsg (tOp (rIxT K) (tVar 5) (tC (.int 2))) (gSub (tVar 2) (tOp (rIxT K) (tVar 6) (tC (.int 1))) rSetL)) (tRet (tCall sp_law_does [] E0 (tCons (tVar 0) (tCons (tOp (rIxT K) (tVar 6) (tC (.int 2))) (tCons (tVar 2) (tCons (tOp (rCatA K) (tVar 3) (tTup (tCons (tVar 5) (tNil)))) (tCons (tVar 4) (tNil)))))))))) (tNext))) (tNext)) (tRet (tVar 5)))

def t_law_cleaned (K : PySem.W.Frag) (sp_law_does : Sp) : TS :=
  tSeq (tAsg (tCall sp_law_does [] E0 (tCons (tVar 0) (tCons (tOp (rIxT K) (tVar 1) (tC (.int 1))) (tCons (tVar 2) (tCons (tVar 3) (tCons (tVar 4) (tNil))))))) (gName 5)) (tSeq (tIfS (tTest (tOp (rIn K false) (tOp (rIxT K) (tVar 5) (tC (.int 0))) (tTup (tCons (tC (.str "dry")) (tCons (tC (.str "deep")) (tNil)))))) (tRet (tVar 5)) (tNext)) (tSeq (tAsg (tCall sp_law_does [] E0 (tCons (tVar 0) (tCons (tOp (rIxT K) (tVar 1) (tC (.int 2))) (tCons (tVar 2) (tCons (tVar 3) (tCons (tVar 4) (tNil))))))) (gName 6)) (tSeq (tIfS (tTest (tOp rEq (tOp (rIxT K) (tVar 6) (tC (.int 0))) (tC (.str "on")))) (tRet (tVar 5)) (tNext)) (tRet (tVar 6)))))

def t_law_rowed (K : PySem.W.Frag) (sp_law_does : Sp) : TS :=
  tSeq (tFor (iTup K (tVar 1)) (gName 5) (tSeq (tAsg (tCall sp_law_does [] E0 (tCons (tVar 0) (tCons (tVar 5) (tCons (tVar 2) (tCons (tVar 3) (tCons (tVar 4) (tNil))))))) (gName 6)) (tIfS (tTest (tOp rNe (tOp (rIxT K) (tVar 6) (tC (.int 0))) (tC (.str "on")))) (tRet (tVar 6)) (tNext)))) (tRet (tTup (tCons (tC (.str "on")) (tNil))))

def t_law_does (K : PySem.W.Frag) (sp_law_value : Sp) (sp_law_rowed : Sp) (sp_law_does : Sp) (sp_law_turned : Sp) (sp_law_calls : Sp) (sp_law_tried : Sp) (sp_law_cleaned : Sp) : TS :=
  tSeq (tAsg (tOp (rIxT K) (tVar 1) (tC (.int 0))) (gName 5)) (tSeq (tIfS (tTest (tOp rEq (tVar 5) (tC (.str "say")))) (tSeq (tDrop (tBM K "list" rAppend (tOp (rIxL K) (tVar 0) (tC (.int 3))) (tCons (tTup (tCons (tC (.str "say")) (tCons (tCall sp_law_value [] E0 (tCons (tOp (rIxT K) (tVar 1) (tC (.int 1))) (tCons (tVar 2) (tNil)))) (tNil)))) (tNil)))) (tRet (tTup (tCons (tC (.str "on")) (tNil))))) (tNext)) (tSeq (tIfS (tTest (tOp rEq (tVar 5) (tC (.str "set")))) (tSeq (tAsg (tCall sp_law_value [] E0 (tCons (tOp (rIxT K) (tVar 1) (tC (.int 2))) (tCons (tVar 2) (tNil)))) (gSub (tVar 2) (tOp (rIxT K) (tVar 1) (tC (.int 1))) rSetL)) (tRet (tTup (tCons (tC (.str "on")) (tNil))))) (tNext)) (tSeq (tIfS (tTest (tOp rEq (tVar 5) (tC (.str "row")))) (tRet (tCall sp_law_rowed [] E0 (tCons (tVar 0) (tCons (tOp (rIxT K) (tVar 1) (tC (.int 1))) (tCons (tVar 2) (tCons (tVar 3) (tCons (tVar 4) (tNil)))))))) (tNext)) (tSeq (tIfS (tTest (tOp rEq (tVar 5) (tC (.str "if")))) (tRet (tCall sp_law_does [] E0 (tCons (tVar 0) (tCons (tOp (rIxT K) (tVar 1) (tOp rAdI (tC (.int 2)) (tCB rInt1 (tCons (tOp rEq (tCall sp_law_value [] E0 (tCons (tOp (rIxT K) (tVar 1) (tC (.int 1))) (tCons (tVar 2) (tNil)))) (tC (.int 0))) (tNil))))) (tCons (tVar 2) (tCons (tVar 3) (tCons (tVar 4) (tNil)))))))) (tNext)) (tSeq (tIfS (tTest (tOp rEq (tVar 5) (tC (.str "while")))) (tRet (tCall sp_law_turned [] E0 (tCons (tVar 0) (tCons (tVar 1) (tCons (tVar 2) (tCons (tVar 3) (tCons (tVar 4) (tNil)))))))) (tNext)) (tSeq (tIfS (tTest (tOp rEq (tVar 5) (tC (.str "return")))) (tRet (tTup (tCons (tC (.str "return")) (tCons (tCall sp_law_value [] E0 (tCons (tOp (rIxT K) (tVar 1) (tC (.int 1))) (tCons (tVar 2) (tNil)))) (tNil))))) (tNext)) (tSeq (tIfS (tTest (tOp rEq (tVar 5) (tC (.str "raise")))) (tRet (tTup (tCons (tC (.str "fault")) (tCons (tOp (rIxT K) (tVar 1) (tC (.int 1))) (tCons (tCall sp_law_value [] E0 (tCons (tOp (rIxT K) (tVar 1) (tC (.int 2))) (tCons (tVar 2) (tNil)))) (tCons (tTup (tCons (tOp (rIxT K) (tVar 1) (tC (.int 3))) (tNil))) (tNil))))))) (tNext)) (tSeq (tIfS (tTest (tOp rEq (tVar 5) (tC (.str "again")))) (tRet (tOp (rIxT K) (tVar 3) (tUn rNeg (tC (.int 1))))) (tNext)) (tSeq (tIfS (tTest (tOp rEq (tVar 5) (tC (.str "call")))) (tRet (tCall sp_law_calls [] E0 (tCons (tVar 0) (tCons (tVar 1) (tCons (tVar 2) (tCons (tVar 4) (tNil))))))) (tNext)) (tSeq (tIfS (tTest (tOp rEq (tVar 5) (tC (.str "try")))) (tRet (tCall sp_law_tried [] E0 (tCons (tVar 0) (tCons (tVar 1) (tCons (tVar 2) (tCons (tVar 3) (tCons (tVar 4) (tNil)))))))) (tNext)) (tSeq (tIfS (tTest (tOp rEq (tVar 5) (tC (.str "clean")))) (tRet (tCall sp_law_cleaned [] E0 (tCons (tVar 0) (tCons (tVar 1) (tCons (tVar 2) (tCons (tVar 3) (tCons (tVar 4) (tNil)))))))) (tNext)) (tRet (tVar 1)))))))))))))

def t_law_walked (K : PySem.W.Frag) (sp_law_called : Sp) : TS :=
  tSeq (tAsg (tLst (tCons (tVar 0) (tCons (tVar 2) (tCons (tVar 3) (tCons (tLst (tNil)) (tNil)))))) (gName 4)) (tSeq (tAsg (tCall sp_law_called [] E0 (tCons (tVar 4) (tCons (tC (.int 0)) (tCons (tVar 1) (tCons (tC (.int 1)) (tNil)))))) (gName 5)) (tRet (tTup (tCons (tOp (rIxL K) (tVar 4) (tC (.int 3))) (tCons (tVar 5) (tNil))))))

section
variable {K : PySem.W.Frag}
theorem inV_ints {row : List Nat} {j : Nat} : inV (.int (j : Int)) (row.map fun n : Nat => V.int (n : Int)) = decide (j ∈ row) := by
  unfold inV
  rw [List.any_map]
  have : ∀ n : Nat, ((fun y => eqV y (.int (j : Int))) ∘ fun n : Nat => V.int (n : Int)) n = decide (j = n) := fun n => by
    show ((n : Int) == (j : Int)) = _
    by_cases h : j = n
    · subst h; simp
    · have : (n : Int) ≠ (j : Int) := by omega
      simp [h, this]
  by_cases h : j ∈ row
  · rw [decide_eq_true h, List.any_eq_true]
    exact ⟨j, h, by rw [this]; simp⟩
  · rw [decide_eq_false h, List.any_eq_false]
    intro x hx
    rw [this]
    simp
    intro e; subst e; exact h hx
def spMetL (K : PySem.W.Frag) : Sp := fun vs H Q _ => ∃ (a : Addr) (ks : List (Option Nat)) (wd : Option Nat) (k : Nat), vs = [.ref a, kindV wd, .int (k : Int)] ∧ SqT K H a (ks.map kindV) ∧ WfK ks ∧ k < ks.length ∧ ks.length ≤ 1000 ∧ ∀ H', Same H H' → Q (.bl (takes ks wd k)) H'
abbrev N_law_met : List Str := ["_law_kinds_here", "_law_wanted", "_law_kind"]
theorem rd_law_met (vs : List V) (H : Hp) (Q : VK) (E : XK) (h : spMetL K vs H Q E) : t_law_met K (spAbove K) { nx := fun _ H' => Q .non H', rt := Q } (start N_law_met vs) H := by
  obtain ⟨a, ks, wd, k, rfl, hS, wf, hk, hz, q⟩ := h
  cases wd with
  | none => exact ⟨_, rfl, rfl, _, rfl, ifT (dT rfl) (q H (Same.refl _))⟩
  | some j =>
    refine ⟨_, rfl, rfl, _, rfl, ifF (dF (by intro z; cases z)) ⟨_, rfl, _, rfl, _, rfl, a, ks, k, rfl, hS, wf, hk, hz, fun r row H' hrow hr hl s => ⟨r, _, rfl, .inl (SqL.of hl), rfl, ?_, ?_⟩⟩⟩
    · rw [List.all_map, List.all_eq_true]
      intro x _; rfl
    · rw [if_neg Bool.false_ne_true]
      have e : inV (kindV (some j)) (row.map fun n : Nat => V.int (n : Int)) = takes ks (some j) k := by
        show inV (.int (j : Int)) _ = under ks k j
        rw [inV_ints]
        cases hu : under ks k j with
        | true => exact decide_eq_true ((hrow j).mpr hu)
        | false => exact decide_eq_false fun z => by rw [(hrow j).mp z] at hu; cases hu
      rw [e]
      exact q H' s
def spCountL (K : PySem.W.Frag) : Sp := fun vs H Q _ => ∃ (p : Pg) (dp : Nat) (rn tl sl : Addr) (pv : V) (w : WSt), vs = [.ref rn] ∧ RunSt K p dp H rn tl sl pv w ∧ Q (.bl (decide (0 ≤ w.left - 1))) (upd H rn (.lst [pv, .int (w.left - 1), .int (dp : Int), .ref tl]))
abbrev N_law_counted : List Str := ["_law_run"]
theorem rd_law_counted (vs : List V) (H : Hp) (Q : VK) (E : XK) (h : spCountL K vs H Q E) : t_law_counted K { nx := fun _ H' => Q .non H', rt := Q } (start N_law_counted vs) H := by
  obtain ⟨p, dp, rn, tl, sl, pv, w, rfl, r, q⟩ := h
  refine rd_ixL (j := 1) rfl (SqL.of r.run) rfl ⟨_, _, rfl, rfl, ⟨_, rfl, rn, _, 1, 1, rfl, rfl, r.run, ixN_n (n := 4) (j := 1) (by omega), ?_⟩⟩
  exact rd_ixL (j := 1) rfl (SqL.of upd_same) rfl ⟨_, _, rfl, rfl, q⟩
/-! ### rows -/
structure RowP (K : PySem.W.Frag) (n : Nat) (vs : List V) (H : Hp) (Q : VK) : Prop where
  ex : ∃ (p : Pg) (dp : Nat) (rn tl sl : Addr) (pv v mv : V) (w : WSt) (d : Nat) (met : List Flt) (s : Sms) (turn hand : Bool), vs = [.ref rn, v, .ref sl, mv, .int (d : Int)] ∧ RunSt K p dp H rn tl sl pv w ∧ Tp K H v (.tuple s.ds) ∧ Tp K H mv (metD met) ∧ WPre p dp (n + 1) d met turn hand (.row s) w ∧
    ∀ (v' : V) (o : Out) (w1 : WSt) (c : Nat) (H' : Hp), RnS p dp d met s w o w1 c → RunSt K p dp H' rn tl sl pv w1 → Tp K H' v' o.d → Kp (B3 rn tl sl) H H' → Q v' H'
def spRowed (K : PySem.W.Frag) (n : Nat) : Sp := fun vs H Q _ => RowP K n vs H Q
def QAny (_ : Sm) : Prop := True
def QWhl (s : Sm) : Prop := ∃ e a, s = .whl e a
def QTri (s : Sm) : Prop := ∃ a h, s = .tri a h
def QCln (s : Sm) : Prop := ∃ a b, s = .cln a b
theorem Out.on_w (o : Out) : decide (V.str o.w = V.str "on") = decide (o = .on) := by cases o <;> first | rfl | decide | simp [Out.w]
theorem Cost.add {m m' c c' : Nat} {o o' : Out} {w w1 w2 : WSt} (h : Cost m w o w1 c) (h' : Cost m' w1 o' w2 c') : Cost (m + m') w o' w2 (c + c') := by
  obtain ⟨a1, a2, a3, a4⟩ := h
  obtain ⟨b1, b2, b3, b4⟩ := h'
  exact ⟨by omega, by omega, b3, by omega⟩
abbrev N_law_rowed : List Str := ["_law_run", "_law_parts", "_law_slots", "_law_met_here", "_law_depth", "_law_part_here", "_law_end"]
theorem rd_law_rowed {n : Nat} (vs : List V) (H : Hp) (Q : VK) (E : XK) (h : spRowed K n vs H Q E) : t_law_rowed K (spWalk K QAny n) { nx := fun _ H' => Q .non H', rt := Q } (start N_law_rowed vs) H := by
  obtain ⟨p, dp, rn, tl, sl, pv, v, mv, w, d, met, ps, turn, hand, rfl, rs, tv, tm, pre, q⟩ := h.ex
  obtain ⟨pa, pxs, rfl, hP, hps⟩ := tv.tupE
  have wps : ps.Wf p.cs p.kinds.length turn hand := pre.wf
  refine ⟨_, rfl, pa, rfl, ⟨_, hP⟩, for_tup (K := K) (a := pa) (xs := pxs) (fun i σ H' => ∃ (r : Sms) (w1 : WSt) (c m : Nat) (v5 v6 : Option V), σ = [some (.ref rn), some (.ref pa), some (.ref sl), some mv, some (.int (d : Int)), v5, v6] ∧ RunSt K p dp H' rn tl sl pv w1 ∧ Kp (B3 rn tl sl) H H' ∧
      TpAll K H (pxs.drop i) r.ds ∧ r.Wf p.cs p.kinds.length turn hand ∧ r.dep ≤ ps.dep ∧ m + r.len = ps.len ∧ Cost m w .on w1 c ∧ InR w1.σ ∧ (∀ o w2 c2, RnS p dp d met r w1 o w2 c2 → RnS p dp d met ps w o w2 (c + c2)))
    ⟨ps, w, 0, 0, _, _, rfl, rs, Kp.refl _ _, by rw [List.drop_zero]; exact hps, wps, Nat.le_refl _, by simp, ⟨by simp, Int.le_refl _, .inl pre.left, by simp⟩, pre.inr, fun o w2 c2 h => by rw [Nat.zero_add]; exact h⟩ (fun i σ H' _ ⟨_, _, _, _, _, _, _, _, k', _⟩ => (rs.tk k').sqT hP) ?_ ?_⟩
  · rintro i x σ H4 hx ⟨r, w1, c, m, v5, v6, rfl, r4, k4, tr, wr, dr, lr, ct, ir, cont⟩
    obtain ⟨s, r', rfl, tx, tr'⟩ := sms_at tr hx
    obtain ⟨wa, wb⟩ : s.Wf p.cs p.kinds.length turn hand ∧ r'.Wf p.cs p.kinds.length turn hand := wr
    have dr2 : max s.dep r'.dep ≤ ps.dep := dr
    have lr2 : m + (s.len + r'.len) = ps.len := lr
    have tk4 := rs.tk k4
    refine ⟨_, rfl, _, rfl, _, rfl, _, rfl, _, rfl, pWalk r4 (tx.mono tk4) (tm.mono tk4) (pre.next ct (by simp) ir wa (by show s.dep + 1 ≤ ps.dep + 1; omega) (by show m + s.len ≤ ps.len; omega)) trivial fun v' o w2 c2 H5 hR hC hI hO r5 t5 k5 tk5 => ?_⟩
    obtain ⟨ea, er, rfl, hE, _⟩ := Out.tup t5
    by_cases ho : o = .on
    · subst ho
      exact r_ifF (pb_is (pb_wN (i := 6) rfl hE rfl) rfl) ⟨r', w2, c + c2, m + s.len, _, _, rfl, r5, k4.trans k5, tr', wb, by omega, by omega, ct.add hC, hI, fun o w3 c3 h => by rw [Nat.add_assoc]; exact cont _ _ _ (.next hR h)⟩
    · refine r_ifT (pb_is (pb_wN (i := 6) rfl hE rfl) (by rw [Out.on_w, decide_eq_false ho]; rfl)) ⟨_, rfl, ?_⟩
      exact q _ o w2 (c + c2) H5 (cont _ _ _ (.stop hR ho)) r5 t5 (k4.trans k5)
  · rintro σ H4 ⟨r, w1, c, m, v5, v6, rfl, r4, k4, tr, wr, dr, lr, ct, ir, cont⟩
    cases sms_end tr
    refine ⟨(by show 1 ≤ sizeLine; decide), fun p1 hp1 => ?_⟩
    exact q _ .on w1 (c + 0) _ (cont _ _ _ .nil) (r4.same (Same.new hp1)) (Tp.mk hp1 (.cons (.str _) .nil)) (k4.trans (Kp.new hp1))
abbrev N_law_cleaned : List Str := ["_law_run", "_law_one", "_law_slots", "_law_met_here", "_law_depth", "_law_end", "_law_last"]
theorem Out.over_w (o : Out) : inV (.str o.w) ([.str "dry", .str "deep"] : List V) = o.over := by cases o <;> first | decide | rfl
theorem rd_law_cleaned {n : Nat} (vs : List V) (H : Hp) (Q : VK) (E : XK) (h : spWalk K QCln (n + 1) vs H Q E) : t_law_cleaned K (spWalk K QAny n) { nx := fun _ H' => Q .non H', rt := Q } (start N_law_cleaned vs) H := by
  obtain ⟨p, dp, rn, tl, sl, pv, v, mv, w, d, met, s, turn, hand, rfl, rs, tv, tm, pre, ⟨s1, s2, rfl⟩, q⟩ := h.ex
  obtain ⟨a, x0, x1, x2, rfl, hT, h0, h1, h2⟩ := tv.tup3
  obtain ⟨wa, wb⟩ : s1.Wf p.cs p.kinds.length turn hand ∧ s2.Wf p.cs p.kinds.length turn hand := pre.wf
  refine ⟨_, rfl, rd_ixT (j := 1) rfl hT rfl ⟨_, rfl, _, rfl, _, rfl, pWalk rs h1 tm (pre.first wa (by show s1.dep + 1 ≤ max s1.dep s2.dep + 1; omega) (by show s1.len ≤ s1.len + 2 + s2.len + 1; omega)) trivial fun v1 o w1 c H1 hR hC hI hO r1 t1 k1 tk1 => ?_⟩⟩
  obtain ⟨ea, er, rfl, hE, _⟩ := Out.tup t1
  refine rd_ixT (i := 5) (j := 0) rfl hE rfl ⟨(by show 2 ≤ sizeLine; decide), fun p1 hp1 => ⟨p1, _, rfl, .inr (SqT.of upd_same), rfl, rfl, o.over, by rw [if_neg Bool.false_ne_true, Out.over_w], ?_⟩⟩
  have sN : Same H1 (L2.upd H1 p1 (.tup [.str "dry", .str "deep"])) := Same.new hp1
  refine ifB (fun e => ⟨_, rfl, q _ o w1 c _ (.clnX hR e) (r1.same sN) (t1.mono (Tk.same sN)) (k1.trans (Kp.same sN))⟩) (fun e => ?_)
  have tk2 := tk1.trans (Tk.same sN)
  refine ⟨_, rfl, rd_ixT (j := 2) rfl (tk2.sqT hT) rfl ⟨_, rfl, _, rfl, _, rfl, pWalk (r1.same sN) (h2.mono tk2) (tm.mono tk2) (pre.next hC (by intro z; subst z; cases e) hI wb (by show s2.dep + 1 ≤ max s1.dep s2.dep + 1; omega) (by show s1.len + s2.len ≤ s1.len + 2 + s2.len + 1; omega)) trivial fun v2 o2 w2 c2 H3 hR2 hC2 hI2 hO2 r3 t3 k3 tk3 => ?_⟩⟩
  obtain ⟨fa, fr, rfl, hF, _⟩ := Out.tup t3
  have kZ := (k1.trans (Kp.same sN)).trans k3
  have fin := Rn.cln hR e hR2
  by_cases ho : o2 = .on
  · subst ho
    exact r_ifT (pb_is (pb_w (i := 6) rfl hF rfl) rfl) ⟨_, rfl, q _ o w2 _ H3 fin r3 (t1.mono ((Tk.same sN).trans tk3)) kZ⟩
  · rw [if_neg ho] at fin
    exact r_ifF (pb_is (pb_w (i := 6) rfl hF rfl) (by rw [Out.on_w, decide_eq_false ho])) ⟨_, rfl, q _ o2 w2 _ H3 fin r3 t3 kZ⟩
abbrev N_law_turned : List Str := ["_law_run", "_law_one", "_law_slots", "_law_met_here", "_law_depth", "_law_end"]
theorem Out.go_w (o : Out) : inV (.str o.w) ([.str "on", .str "continue"] : List V) = decide (o = .on ∨ o = .cnt) := by cases o <;> first | decide | (simp [inV, Out.w]; decide)
theorem rd_law_turned {n : Nat} (vs : List V) (H : Hp) (Q : VK) (E : XK) (h : spWalk K QWhl (n + 1) vs H Q E) : t_law_turned K (spVal K 5) (spCountL K) (spWalk K QAny n) { nx := fun _ H' => Q .non H', rt := Q } (start N_law_turned vs) H := by
  obtain ⟨p, dp, rn, tl, sl, pv, v, mv, w, d, met, s, turn, hand, rfl, rs, tv, tm, pre, ⟨e, s1, rfl⟩, q⟩ := h.ex
  obtain ⟨a, x0, x1, x2, rfl, hT, h0, h1, h2⟩ := tv.tup3
  obtain ⟨⟨we, de⟩, wa⟩ : (e.Wf ∧ e.dep ≤ 5) ∧ s1.Wf p.cs p.kinds.length true hand := pre.wf
  refine ⟨fun m σ H' => ∃ (w1 : WSt) (v5 : Option V), σ = [some (.ref rn), some (.ref a), some (.ref sl), some mv, some (.int (d : Int)), v5] ∧ m = w1.left.toNat ∧ RunSt K p dp H' rn tl sl pv w1 ∧ Kp (B3 rn tl sl) H H' ∧ WPre p dp (n + 1) d met turn hand (.whl e s1) w1 ∧ (∀ o w2 c2, Rn p dp d met (.whl e s1) w1 o w2 c2 → ∃ c3, Rn p dp d met (.whl e s1) w o w2 c3),
    ⟨_, w, _, rfl, rfl, rs, Kp.refl _ _, pre, fun o w2 c2 h => ⟨_, h⟩⟩, ?_⟩
  rintro m σ H1 ⟨w1, v5, rfl, rfl, r1, k1, pre1, cont⟩
  have tk1 := rs.tk k1
  refine rd_ixT (j := 1) rfl (tk1.sqT hT) rfl ⟨_, rfl, x1, sl, e, w1.σ, rfl, h1.mono tk1, we, de, SqL.of r1.slo, pre1.inr, rfl, _, rfl, ?_⟩
  by_cases hz : e.val w1.σ = 0
  · refine ifF (by rw [hz]; rfl) ⟨(by show 1 ≤ sizeLine; decide), fun p1 hp1 => ?_⟩
    obtain ⟨c3, fin⟩ := cont _ _ _ (.whl0 hz)
    exact q _ .on w1 c3 _ fin (r1.same (Same.new hp1)) (Tp.mk hp1 (.cons (.str _) .nil)) (k1.trans (Kp.new hp1))
  refine ifT (by rw [decide_eq_false (fun z => hz (V.int.inj z))]; rfl) ⟨fun σ H' => ∃ m', m' < w1.left.toNat ∧ ∃ (w1 : WSt) (v5 : Option V), σ = [some (.ref rn), some (.ref a), some (.ref sl), some mv, some (.int (d : Int)), v5] ∧ m' = w1.left.toNat ∧ RunSt K p dp H' rn tl sl pv w1 ∧ Kp (B3 rn tl sl) H H' ∧ WPre p dp (n + 1) d met turn hand (.whl e s1) w1 ∧ (∀ o w2 c2, Rn p dp d met (.whl e s1) w1 o w2 c2 → ∃ c3, Rn p dp d met (.whl e s1) w o w2 c3), fun σ' H' h => h, ?_⟩
  refine ⟨_, rfl, p, dp, rn, tl, sl, pv, w1, rfl, r1, _, rfl, ?_⟩
  have rc := r1.count (i := w1.left - 1)
  have kc : Kp (B3 rn tl sl) H (L2.upd H1 rn (.lst [pv, .int (w1.left - 1), .int (dp : Int), .ref tl])) := k1.trans (Kp.upd (.inl rfl))
  generalize L2.upd H1 rn (.lst [pv, .int (w1.left - 1), .int (dp : Int), .ref tl]) = H2 at rc kc ⊢
  by_cases hl : 0 < w1.left
  · refine ifF (by rw [decide_eq_true (by omega)]; rfl) ?_
    have tk2 := rs.tk kc
    have preB : WPre p dp (n + 1) d met turn hand (.whl e s1) { w1 with left := w1.left - 1 } :=
      ⟨pre1.pw, pre1.wf, pre1.inr, pre1.mok, pre1.mfew, pre1.ddp, pre1.dps, pre1.dep, pre1.len, by show 0 ≤ w1.left - 1; omega, by have := pre1.bud; show (w1.told.length : Int) + _ + 2000 * (w1.left - 1 + 1) ≤ _; omega⟩
    refine ⟨_, rfl, rd_ixT (j := 2) rfl (tk2.sqT hT) rfl ⟨_, rfl, _, rfl, _, rfl, pWalk rc (h2.mono tk2) (tm.mono tk2) (preB.first (t := s1) (turn' := true) wa (by show s1.dep + 1 ≤ s1.dep + 1; omega) (by show s1.len ≤ e.len + 2 + s1.len + 1; omega)) trivial fun v2 o w2 c2 H3 hR hC hI hO r3 t3 k3 tk3 => ?_⟩⟩
    obtain ⟨ea, er, rfl, hE, _⟩ := Out.tup t3
    have k03 := kc.trans k3
    by_cases hb : o = .brk
    · subst hb
      refine r_ifT (pb_is (pb_w (i := 5) rfl hE rfl) rfl) ⟨(by show 1 ≤ sizeLine; decide), fun p1 hp1 => ?_⟩
      obtain ⟨c3, fin⟩ := cont _ _ _ (.whlB hz hl hR)
      exact q _ .on w2 c3 _ fin (r3.same (Same.new hp1)) (Tp.mk hp1 (.cons (.str _) .nil)) (k03.trans (Kp.new hp1))
    · refine r_ifF (pb_is (pb_w (i := 5) rfl hE rfl) (by cases o <;> first | rfl | exact absurd rfl hb)) ?_
      refine rd_ixT (i := 5) (j := 0) rfl hE rfl ⟨(by show 2 ≤ sizeLine; decide), fun p1 hp1 => ⟨p1, _, rfl, .inr (SqT.of upd_same), rfl, rfl, !decide (o = .on ∨ o = .cnt), by rw [if_pos rfl, Out.go_w], ?_⟩⟩
      have sN : Same H3 (L2.upd H3 p1 (.tup [.str "on", .str "continue"])) := Same.new hp1
      by_cases hg : o = .on ∨ o = .cnt
      · refine ifF (by rw [decide_eq_true hg]; rfl) ?_
        obtain ⟨a1, a2, a3, a4⟩ := hC
        replace a1 : (c2 : Int) ≤ s1.len + 2000 * ((w1.left - 1) - w2.left) := a1
        replace a2 : w2.left ≤ w1.left - 1 := a2
        replace a4 : w2.told.length ≤ w1.told.length + c2 := a4
        have l0 : 0 ≤ w2.left := a3.elim id fun z => by subst z; rcases hg with z | z <;> cases z
        have lw : s1.len ≤ 1900 := by have h9 : e.len + 2 + s1.len + 1 ≤ 1900 := pre1.len; omega
        refine ⟨w2.left.toNat, by omega, w2, _, rfl, rfl, r3.same sN, k03.trans (Kp.same sN), ⟨pre1.pw, pre1.wf, hI, pre1.mok, pre1.mfew, pre1.ddp, pre1.dps, pre1.dep, pre1.len, l0, by have := pre1.bud; omega⟩, fun o' w3 c3 h => cont _ _ _ (.whlN hz hl hR hg h)⟩
      · refine ifT (by rw [decide_eq_false hg]; rfl) ⟨_, rfl, ?_⟩
        obtain ⟨c3, fin⟩ := cont _ _ _ (.whlX hz hl hR (fun z => hg (.inl z)) (fun z => hg (.inr z)) hb)
        exact q _ o w2 c3 _ fin (r3.same sN) (t3.mono (Tk.same sN)) (k03.trans (Kp.same sN))
  · refine ifT (by rw [decide_eq_false (by omega)]; rfl) ⟨(by show 1 ≤ sizeLine; decide), fun p1 hp1 => ?_⟩
    obtain ⟨c3, fin⟩ := cont _ _ _ (.whlD hz (by omega))
    exact q _ .dry _ c3 _ fin (rc.same (Same.new hp1)) (Tp.mk hp1 (.cons (.str _) .nil)) (kc.trans (Kp.new hp1))
end
end Lp

/-! LwM: the law's walk: tries, calls, statements. -/
namespace Lp
open PySem PySem.Spec PyProof.Rows L2
section
variable {K : PySem.W.Frag}
theorem kindV_of {H : Hp} {v : V} {k : Option Nat} (h : Tp K H v (kindD k)) : v = kindV k := by
  cases k with
  | none => exact h.nonE
  | some j => exact h.intE
theorem catA_tp {H : Hp} {x y : V} {ds es : List PyData} {Q : VK} (hx : Tp K H x (.tuple ds)) (hy : Tp K H y (.tuple es)) (hz : ds.length + es.length ≤ 1000000) (q : ∀ v H', Tp K H' v (.tuple (ds ++ es)) → Same H H' → Q v H') : rCatA K x y H Q := by
  obtain ⟨a, xs, rfl, hX, txs⟩ := id hx.tupE
  obtain ⟨b, ys, rfl, hY, tys⟩ := id hy.tupE
  have lx := txs.length
  have ly := tys.length
  refine ⟨a, b, xs, ys, rfl, rfl, hX, hY, by have := sz_le1 (n := xs.length + ys.length) (by omega); exact this, fun e => ?_, fun e1 e => ?_, fun _ _ p hp => ?_⟩
  · subst e
    have : ds = [] := List.eq_nil_of_length_eq_zero lx.symm
    subst this
    exact q _ H hy (Same.refl _)
  · subst e
    have : es = [] := List.eq_nil_of_length_eq_zero ly.symm
    subst this
    rw [List.append_nil] at q
    exact q _ H hx (Same.refl _)
  · exact q _ _ (Tp.mk hp (txs.app tys)) (Same.new hp)
abbrev N_law_tried : List Str := ["_law_run", "_law_one", "_law_slots", "_law_met_here", "_law_depth", "_law_end", "_law_handler_here"]
theorem rd_law_tried {n : Nat} (vs : List V) (H : Hp) (Q : VK) (E : XK) (h : spWalk K QTri (n + 1) vs H Q E) : t_law_tried K (spWalk K QAny n) (spMetL K) { nx := fun _ H' => Q .non H', rt := Q } (start N_law_tried vs) H := by
  obtain ⟨p, dp, rn, tl, sl, pv, v, mv, w, d, met, s, turn, hand, rfl, rs, tv, tm, pre, ⟨s1, hs, rfl⟩, q⟩ := h.ex
  obtain ⟨a, x0, x1, x2, rfl, hT, h0, h1, h2⟩ := tv.tup3
  obtain ⟨ha, hxs, rfl, hHs, ths⟩ := h2.tupE
  obtain ⟨wa, wb⟩ : s1.Wf p.cs p.kinds.length turn hand ∧ hs.Wf p.cs p.kinds.length turn := pre.wf
  have hlen : s1.len + 1 + hs.len ≤ 1900 := pre.len
  refine ⟨_, rfl, rd_ixT (j := 1) rfl hT rfl ⟨_, rfl, _, rfl, _, rfl, pWalk rs h1 tm (pre.first wa (by show s1.dep + 1 ≤ max s1.dep hs.dep + 1; omega) (by show s1.len ≤ s1.len + 1 + hs.len; omega)) trivial fun v1 o w1 c H1 hR hC hI hO r1 t1 k1 tk1 => ?_⟩⟩
  obtain ⟨ea, er, rfl, hE, _⟩ := Out.tup t1
  by_cases hf : o.isFlt = true
  case neg =>
    have hf' : o.isFlt = false := by simpa using hf
    exact r_ifF (pb_is (pb_w (i := 5) rfl hE rfl) (by cases o <;> first | rfl | exact absurd rfl hf)) ⟨_, rfl, q _ o w1 _ _ (.tri hR hf') r1 t1 k1⟩
  cases o with
  | on | brk | cnt | ret | dry | deep => cases hf
  | flt f =>
    refine r_ifT (pb_is (pb_w (i := 5) rfl hE rfl) rfl) ?_
    obtain ⟨ea', e0, e1, e2, e3, z, hE', u0, u1, u2, u3⟩ := Tp.tup4 (show Tp K H1 (.ref ea) (.tuple [.str "fault", .int (f.k : Int), .int f.v, .tuple (f.tr.map .int)]) from t1)
    cases z
    cases u0.strE; cases u1.intE; cases u2.intE
    obtain ⟨fk, fv0, fv1, ftr⟩ : FltOk p.kinds.length dp d f := hO
    refine rd_ixT (j := 2) rfl (tk1.sqT hT) rfl ⟨ha, rfl, ⟨_, tk1.sqT hHs⟩, for_tup (K := K) (a := ha) (xs := hxs) (fun i σ H' => ∃ (r : Hds) (v6 : Option V) (off : Nat), σ = [some (.ref rn), some (.ref a), some (.ref sl), some mv, some (.int (d : Int)), some (.ref ea), v6] ∧ Same H1 H' ∧ TpAll K H (hxs.drop i) r.ds ∧
        hs.pick p.kinds f.k = (r.pick p.kinds f.k).map fun z => (z.1, z.2.1, z.2.2 + off))
      ⟨hs, _, 0, rfl, Same.refl _, by rw [List.drop_zero]; exact ths, by cases hs.pick p.kinds f.k <;> rfl⟩ (fun i σ H' _ ⟨_, _, _, _, s', _⟩ => s'.sqT (tk1.sqT hHs)) ?_ ?_⟩
    · rintro i x σ H2 hx ⟨r, v6, off, rfl, s2, tr, pk⟩
      obtain ⟨k, slt, tt, r', rfl, tx, tr'⟩ := hds_at tr hx
      have tk2 := tk1.trans (Tk.same s2)
      obtain ⟨y, y0, y1, y2, rfl, hY, z0, z1, z2⟩ := tx.tup3
      cases z1.intE
      obtain rfl := kindV_of z0
      have r2 := r1.same s2
      obtain ⟨pa, kv, fv, rfl, hP, tk_, tf_⟩ := Tp.tup2 (show Tp K H2 pv (.tuple [.tuple (p.kinds.map kindD), .tuple (p.funs.map funD)]) from r2.pt)
      obtain ⟨ka, kxs, rfl, hK, hks⟩ := tk_.tupE
      obtain rfl := kinds_of hks
      refine ⟨_, rfl, rn, _, ((0 : Nat) : Int), _, rfl, rfl, SqL.of r2.run, atI_nat rfl, pa, _, ((0 : Nat) : Int), _, rfl, rfl, hP, atI_nat rfl, rd_ixT (i := 6) (j := 0) rfl (tk2.sqT hY) rfl (rd_ixT (i := 5) (j := 1) rfl (s2.sqT hE') rfl ⟨ka, p.kinds, k, f.k, rfl, hK, pre.pw.wf.kinds, fk, by have := pre.pw.wf.k8; omega, fun H3 s3 => ⟨_, rfl, ?_⟩⟩)⟩
      have s13 := s2.trans s3
      have r3 := r2.same s3
      have tk3 := tk1.trans (Tk.same s13)
      rw [show (Hds.cons k slt tt r').pick p.kinds f.k = if takes p.kinds k f.k = true then some (slt, tt, 0) else (r'.pick p.kinds f.k).map fun z => (z.1, z.2.1, z.2.2 + (2 + tt.len + 2)) by rw [Hds.pick]] at pk
      refine ifB (fun ht => ?_) (fun ht => ?_)
      · rw [if_pos ht] at pk
        replace pk : hs.pick p.kinds f.k = some (slt, tt, 0 + off) := pk
        -- told
        obtain ⟨us, hus, lus, sayR⟩ : ∃ us, H3 tl = some (.lst us) ∧ us.length = w1.told.length ∧ True := by
          obtain ⟨us, h1, h2⟩ := r3.told
          exact ⟨us, h1, by rw [h2.length, List.length_map], trivial⟩
        refine ⟨_, rfl, rn, _, ((3 : Nat) : Int), _, rfl, rfl, SqL.of r3.run, atI_nat rfl, .inl ⟨rfl, _, SqL.of hus⟩, rd_ixT (i := 5) (j := 1) rfl (s13.sqT hE') rfl (rd_ixT (i := 5) (j := 2) rfl (s13.sqT hE') rfl (rd_ixT (i := 5) (j := 3) rfl (s13.sqT hE') rfl ⟨(by show 4 ≤ sizeLine; decide), fun p4 hp4 => ?_⟩))⟩
        have s14 : Same H1 (L2.upd H3 p4 (.tup [.str "met", .int (f.k : Int), .int f.v, e3])) := s13.trans (Same.new hp4)
        have r4 := r3.same (Same.new (o := .tup [.str "met", .int (f.k : Int), .int f.v, e3]) hp4)
        have tev : Tp K (L2.upd H3 p4 (.tup [.str "met", .int (f.k : Int), .int f.v, e3])) (.ref p4) (Ev.met f).d := Tp.mk hp4 (.cons (.str _) (.cons (.int _) (.cons (.int _) (.cons (u3.mono (Tk.same s13)) .nil))))
        generalize L2.upd H3 p4 (.tup [.str "met", .int (f.k : Int), .int f.v, e3]) = H4 at s14 r4 tev ⊢
        obtain ⟨us4, hus4, lus4, r5⟩ := r4.say tev
        have tb : w1.told.length < 1000000 := by
          obtain ⟨a1, a2, a3, a4⟩ := hC
          have hb := pre.bud
          have hb' : (w.told.length : Int) + (s1.len + 1 + hs.len : Nat) + 2000 * (w.left + 1) ≤ 500000 := hb
          have a30 : 0 ≤ w1.left := a3.elim id fun z => by cases z
          omega
        refine ⟨tl, us4, _, rfl, rfl, hus4, sz_lt1 (by omega), ?_⟩
        have tk45 : Tk H4 (L2.upd H4 tl (.lst (us4 ++ [.ref p4]))) := Tk.lst hus4
        have k45 : Kp (B3 rn tl sl) H4 (L2.upd H4 tl (.lst (us4 ++ [.ref p4]))) := Kp.upd (.inr (.inl rfl))
        generalize L2.upd H4 tl (.lst (us4 ++ [.ref p4])) = H5 at r5 tk45 k45 ⊢
        have tk15 := (Tk.same s14).trans tk45
        -- the slot
        have wz : slt < 8 ∧ tt.Wf p.cs p.kinds.length turn true := by
          have := Hds.pick_wf wb pk
          exact this
        have lz := Hds.pick_len pk
        have dz := Hds.pick_dep pk
        replace lz : (0 + off) + 2 + tt.len + 2 ≤ hs.len := lz
        replace dz : tt.dep ≤ hs.dep := dz
        refine rd_ixT (i := 5) (j := 2) rfl (tk15.sqT hE') rfl ⟨_, rfl, rd_ixT (i := 6) (j := 1) rfl ((tk1.trans tk15).sqT hY) rfl ⟨sl, _, (slt : Int), slt, rfl, rfl, r5.slo, ixN_n (by rw [List.length_map]; have := hI.1; show slt < w1.σ.length; omega), ?_⟩⟩
        have r6 := r5.set (k := slt) (i := f.v)
        have k56 : Kp (B3 rn tl sl) H5 (L2.upd H5 sl (.lst ((w1.σ.map V.int).set slt (.int f.v)))) := Kp.upd (.inr (.inr rfl))
        have tk56 : Tk H5 (L2.upd H5 sl (.lst ((w1.σ.map V.int).set slt (.int f.v)))) := Tk.lst r5.slo
        generalize L2.upd H5 sl (.lst ((w1.σ.map V.int).set slt (.int f.v))) = H6 at r6 k56 tk56 ⊢
        have tk16 := tk15.trans tk56
        have tkH6 := tk1.trans tk16
        refine ⟨_, rfl, rd_ixT (i := 6) (j := 2) rfl (tkH6.sqT hY) rfl ⟨_, rfl, _, rfl, _, rfl, (by show 1 ≤ sizeLine; decide), fun p7 hp7 => ?_⟩⟩
        refine catA_tp (ds := met.map Flt.d) (es := [f.d]) ((tm.mono tkH6).mono (Tk.new hp7)) (Tp.mk hp7 (.cons (t1.mono tk16) .nil)) (by rw [List.length_map]; have := pre.mfew; simp; omega) fun mv2 H8 tm2 s8 => ?_
        have s68 : Same H6 H8 := (Same.new hp7).trans s8
        have tkH8 := tkH6.trans (Tk.same s68)
        rw [show met.map Flt.d ++ [f.d] = (met ++ [f]).map Flt.d by simp] at tm2
        have k08 : Kp (B3 rn tl sl) H H8 := (((k1.trans (Kp.same s14)).trans k45).trans k56).trans (Kp.same s68)
        have pre2 : WPre p dp n d (met ++ [f]) turn true tt { w1 with σ := w1.σ.set slt f.v, told := w1.told ++ [.met f] } := by
          obtain ⟨a1, a2, a3, a4⟩ := hC
          have a30 : 0 ≤ w1.left := a3.elim id fun z => by cases z
          have hb : (w.told.length : Int) + (s1.len + 1 + hs.len : Nat) + 2000 * (w.left + 1) ≤ 500000 := pre.bud
          have hdp : max s1.dep hs.dep + 1 + 6 * (dp - d) ≤ n + 1 := pre.dep
          have hmf : met.length + (max s1.dep hs.dep + 1) ≤ 100 := pre.mfew
          refine ⟨pre.pw, wz.2, hI.set ⟨fv0, fv1⟩, ⟨fun y hy => ?_, fun _ => by simp⟩, by simp; omega, pre.ddp, pre.dps, by omega, by omega, a30, by simp; omega⟩
          rcases List.mem_append.mp hy with z | z
          · exact pre.mok.1 y z
          · have : y = f := by simpa using z
            rw [this]; exact ⟨fk, fv0, fv1, ftr⟩
        refine ⟨_, rfl, pWalk (r6.same s68) (z2.mono tkH8) tm2 pre2 trivial fun v9 o w2 c2 H9 hR2 hC2 hI2 hO2 r9 t9 k9 tk9 => ?_⟩
        exact q v9 o w2 _ H9 (.triC hR pk hR2) r9 t9 (k08.trans k9)
      · rw [if_neg (by rw [ht]; decide)] at pk
        refine ⟨r', _, off + (2 + tt.len + 2), rfl, s13, tr', ?_⟩
        rw [pk]
        cases r'.pick p.kinds f.k with
        | none => rfl
        | some z => simp only [Option.map_some]; rw [Nat.add_assoc, Nat.add_comm (2 + tt.len + 2) off]
    · rintro σ H2 ⟨r, v6, off, rfl, s2, tr, pk⟩
      cases hds_end tr
      exact ⟨_, rfl, q _ (.flt f) w1 c _ (.triX hR pk) (r1.same s2) (t1.mono (Tk.same s2)) (k1.trans (Kp.same s2))⟩
end
end Lp

/-! LwN: the law's walk: calls, statements, the whole. -/
namespace Lp
open PySem PySem.Spec PyProof.Rows L2
section
variable {K : PySem.W.Frag}
theorem tp_ints {H : Hp} : ∀ l : List Int, TpAll K H (l.map V.int) (l.map PyData.int)
  | [] => .nil
  | i :: r => .cons (.int _) (tp_ints r)
theorem ints_of {H : Hp} : ∀ {l : List Int} {vs : List V}, TpAll K H vs (l.map PyData.int) → vs = l.map V.int
  | [], _, h => h.nilE
  | i :: r, _, h => by
    obtain ⟨v, vs, rfl, h1, h2⟩ := TpAll.consE h
    rw [h1.intE, ints_of h2]; rfl
/-- a call's end, as the function hands it back -/
def calledEnd (o : Out) : Out := if o = .on then .ret 0 else o
structure CalledP (K : PySem.W.Frag) (n : Nat) (vs : List V) (H : Hp) (Q : VK) : Prop where
  ex : ∃ (p : Pg) (dp : Nat) (rn tl sl : Addr) (pv : V) (w : WSt) (d f : Nat) (fn : Nat × Sm) (ns : List Int) (nl : Addr), vs = [.ref rn, .int (f : Int), .ref nl, .int (d : Int)] ∧ RunSt K p dp H rn tl sl pv w ∧ H nl = some (.lst (ns.map V.int)) ∧ ns.length ≤ 3 ∧ p.funs[f]? = some fn ∧ WPre p dp n d [] false false fn.2 ⟨slotsFor ns, w.left, w.told⟩ ∧
    ∀ (v' : V) (o : Out) (w1 : WSt) (c : Nat) (H' : Hp), Rn p dp d [] fn.2 ⟨slotsFor ns, w.left, w.told⟩ o w1 c → OutOk p.kinds.length dp d false o → RunSt K p dp H' rn tl sl pv ⟨w.σ, w1.left, w1.told⟩ → Tp K H' v' (calledEnd o).d → Kp (B3 rn tl sl) H H' → Q v' H'
def spCalledL (K : PySem.W.Frag) (n : Nat) : Sp := fun vs H Q _ => CalledP K n vs H Q
theorem slots_eq (ns : List Int) : ns ++ (List.range (8 - ns.length)).map (fun _ => (0 : Int)) = slotsFor ns := by
  unfold slotsFor
  congr 1
  rw [List.map_const']
  simp
abbrev N_law_called : List Str := ["_law_run", "_law_number", "_law_numbers_here", "_law_depth", "_law_slots", "_law_k", "_law_end"]
theorem rd_law_called {n : Nat} (vs : List V) (H : Hp) (Q : VK) (E : XK) (h : spCalledL K n vs H Q E) : t_law_called K (spWalk K QAny n) { nx := fun _ H' => Q .non H', rt := Q } (start N_law_called vs) H := by
  obtain ⟨p, dp, rn, tl, sl, pv, w, d, f, fn, ns, nl, rfl, rs, hn, hl, hf, pre, q⟩ := h.ex
  refine ⟨_, rfl, nl, _, rfl, .inl (SqL.of hn), fun l1 hl1 => ?_⟩
  have s1 : Same H (L2.upd H l1 (.lst (ns.map V.int))) := Same.new hl1
  have hl1' : L2.upd H l1 (.lst (ns.map V.int)) l1 = some (.lst (ns.map V.int)) := upd_same
  generalize L2.upd H l1 (.lst (ns.map V.int)) = H1 at s1 hl1' ⊢
  refine ⟨_, rfl, nl, _, rfl, .inl (SqL.of (s1 _ _ hn)), _, _, rfl, rfl, _, rfl, by rw [List.length_map]; omega, by rw [List.length_map]; omega, fun D hD => lc_range (lo := 0) (n := (8 - ((ns.map V.int).length : Int)).toNat) (fun i H' => H' D = some (.lst (((List.range i).map fun _ => (0 : Int)).map V.int)) ∧ Same H1 H')
    ⟨upd_same, Same.new hD⟩ ?_ ?_⟩
  · rintro i H2 hi ⟨hv, s2⟩
    have hi8 : i < 8 := by rw [List.length_map] at hi; omega
    refine ⟨rfl, _, hv, sz_lt1 (by simp; omega), ?_, fun b o e => by rw [upd_ne (ne_of_none e hD)]; exact s2 b o e⟩
    rw [upd_same, List.range_succ, List.map_append, List.map_append]; rfl
  · rintro H2 ⟨hv, s2⟩
    have e8 : (8 - ((ns.map V.int).length : Int)).toNat = 8 - ns.length := by rw [List.length_map]; omega
    rw [e8] at hv
    refine cat_new (K := K) (ds := ns.map .int) (es := ((List.range (8 - ns.length)).map fun _ => (0 : Int)).map .int) (s2 _ _ hl1') hv (tp_ints _) (tp_ints _) (by simp; omega) fun r us H3 hr hus t3 s3 => ?_
    rw [← List.map_append, slots_eq] at t3
    obtain rfl := ints_of t3
    have s03 := (s1.trans s2).trans s3
    have r3 := rs.same s03
    have sN := s03
    obtain ⟨pa, kv, fv, rfl, hP, tk_, tf_⟩ := Tp.tup2 (show Tp K H3 pv (.tuple [.tuple (p.kinds.map kindD), .tuple (p.funs.map funD)]) from r3.pt)
    obtain ⟨fa, fxs, rfl, hF, tfs⟩ := tf_.tupE
    obtain ⟨fx, hfx, tfx⟩ := tfs.get' (d := funD fn) (by rw [List.getElem?_map, hf]; rfl)
    obtain ⟨fxa, y0, y1, rfl, hX, z0, z1⟩ := Tp.tup2 (show Tp K H3 fx (.tuple [.int (fn.1 : Int), fn.2.d]) from tfx)
    have rH : H rn ≠ none := by rw [rs.run]; simp
    have tH : H tl ≠ none := by obtain ⟨us, h1, _⟩ := rs.told; rw [h1]; simp
    have sH : H sl ≠ none := by rw [rs.slo]; simp
    have hr0 : H r = none := ((s1.trans s2).free hr)
    refine ⟨_, rfl, _, rfl, rn, _, ((0 : Nat) : Int), _, rfl, rfl, SqL.of r3.run, atI_nat rfl, pa, _, ((1 : Nat) : Int), _, rfl, rfl, hP, atI_nat rfl, _, rfl, fa, fxs, (f : Int), _, rfl, rfl, hF, atI_nat hfx, fxa, _, ((1 : Nat) : Int), _, rfl, rfl, hX, atI_nat rfl, _, rfl, (by show 0 ≤ sizeLine; decide), fun p1 hp1 => ⟨_, rfl, ?_⟩⟩
    have s4 : Same H3 (L2.upd H3 p1 (.tup [])) := Same.new hp1
    have tmt : Tp K (L2.upd H3 p1 (.tup [])) (.ref p1) (metD []) := Tp.mk hp1 .nil
    generalize L2.upd H3 p1 (.tup []) = H4 at s4 tmt ⊢
    have r4 := r3.same s4
    have rr : RunSt K p dp H4 rn tl r (.ref pa) ⟨slotsFor ns, w.left, w.told⟩ := ⟨r4.run, r4.told, s4 _ _ hus, r4.pt, r4.n1, fun e => rH (by rw [e]; exact hr0), fun e => tH (by rw [e]; exact hr0)⟩
    refine pWalk rr (z1.mono (Tk.same s4)) tmt pre trivial fun v' o w1 c H5 hR hC hI hO r5 t5 k5 tk5 => ?_
    have slr : ¬ B3 rn tl r sl := by
      rintro (z | z | z)
      · exact rs.n2 z.symm
      · exact rs.n3 z.symm
      · exact sH (by rw [z]; exact hr0)
    have k05 : Kp (B3 rn tl sl) H H5 := fun a o' e nb => k5 _ _ (s4 _ _ (s03 _ _ e)) (by
      rintro (z | z | z)
      · exact nb (.inl z)
      · exact nb (.inr (.inl z))
      · rw [z] at e; rw [hr0] at e; cases e)
    have rZ : RunSt K p dp H5 rn tl sl (.ref pa) ⟨w.σ, w1.left, w1.told⟩ := ⟨r5.run, r5.told, k5 _ _ r4.slo slr, r5.pt, rs.n1, rs.n2, rs.n3⟩
    obtain ⟨ea, er, rfl, hE, _⟩ := Out.tup t5
    by_cases ho : o = .on
    · subst ho
      refine r_ifT (pb_is (pb_w (i := 6) rfl hE rfl) rfl) ⟨(by show 2 ≤ sizeLine; decide), fun p2 hp2 => ?_⟩
      exact q _ .on w1 c _ hR hO (rZ.same (Same.new hp2)) (Tp.mk hp2 (.cons (.str _) (.cons (.int _) .nil))) (k05.trans (Kp.new hp2))
    · refine r_ifF (pb_is (pb_w (i := 6) rfl hE rfl) (by rw [Out.on_w, decide_eq_false ho])) ⟨_, rfl, ?_⟩
      exact q _ o w1 c _ hR hO rZ (by rw [calledEnd, if_neg ho]; exact t5) k05
/-! ### _law_calls -/
structure CallsP (K : PySem.W.Frag) (n : Nat) (vs : List V) (H : Hp) (Q : VK) : Prop where
  ex : ∃ (p : Pg) (dp : Nat) (rn tl sl : Addr) (pv v : V) (w : WSt) (d : Nat) (met : List Flt) (k f : Nat) (ps : List Ex) (m : Int) (turn hand : Bool), vs = [.ref rn, v, .ref sl, .int (d : Int)] ∧ RunSt K p dp H rn tl sl pv w ∧ Tp K H v (Sm.call k f ps m).d ∧ WPre p dp (n + 1) d met turn hand (.call k f ps m) w ∧
    ∀ (v' : V) (o : Out) (w1 : WSt) (c : Nat) (H' : Hp), Rn p dp d met (.call k f ps m) w o w1 c → RunSt K p dp H' rn tl sl pv w1 → Tp K H' v' o.d → Kp (B3 rn tl sl) H H' → Q v' H'
def spCallsL (K : PySem.W.Frag) (n : Nat) : Sp := fun vs H Q _ => CallsP K n vs H Q
theorem pCalled {n : Nat} {H : Hp} {Q : VK} {p : Pg} {dp : Nat} {rn tl sl : Addr} {pv : V} {w : WSt} {d f : Nat} {fn : Nat × Sm} {ns : List Int} {nl : Addr} {di : Int} (hd : di = ((d : Nat) : Int)) (r : RunSt K p dp H rn tl sl pv w) (hn : H nl = some (.lst (ns.map V.int))) (hl : ns.length ≤ 3) (hf : p.funs[f]? = some fn) (pre : WPre p dp n d [] false false fn.2 ⟨slotsFor ns, w.left, w.told⟩)
    (q : ∀ (v' : V) (o : Out) (w1 : WSt) (c : Nat) (H' : Hp), Rn p dp d [] fn.2 ⟨slotsFor ns, w.left, w.told⟩ o w1 c → OutOk p.kinds.length dp d false o → RunSt K p dp H' rn tl sl pv ⟨w.σ, w1.left, w1.told⟩ → Tp K H' v' (calledEnd o).d → Kp (B3 rn tl sl) H H' → Q v' H') : spCalledL K n [.ref rn, .int (f : Int), .ref nl, .int di] H Q E0 := by
  subst hd
  exact ⟨p, dp, rn, tl, sl, pv, w, d, f, fn, ns, nl, rfl, r, hn, hl, hf, pre, q⟩
abbrev N_law_calls : List Str := ["_law_run", "_law_one", "_law_slots", "_law_depth", "_law_numbers_here", "_law_part_here", "_law_end"]
theorem rd_law_calls {n : Nat} (vs : List V) (H : Hp) (Q : VK) (E : XK) (h : spCallsL K n vs H Q E) : t_law_calls K (spVal K 5) (spCountL K) (spCalledL K n) { nx := fun _ H' => Q .non H', rt := Q } (start N_law_calls vs) H := by
  obtain ⟨p, dp, rn, tl, sl, pv, v, w, d, met, k, f, ps, m, turn, hand, rfl, rs, tv, pre, q⟩ := h.ex
  obtain ⟨a, x0, x1, x2, x3, x4, rfl, hT, h0, h1, h2, h3, h4⟩ := tv.tup5
  cases h1.intE; cases h2.intE; cases h4.intE
  obtain ⟨pa, pxs, rfl, hP, hps⟩ := h3.tupE
  have lpx : pxs.length = ps.length := by rw [hps.length, List.length_map]
  obtain ⟨k8, hcs, lp, wps, m0, m1⟩ : k < 8 ∧ p.cs[f]? = some ps.length ∧ ps.length ≤ 3 ∧ (∀ e ∈ ps, e.Wf ∧ e.dep ≤ 5) ∧ 0 ≤ m ∧ m < 1000 := pre.wf
  obtain ⟨fn, hfn⟩ : ∃ fn, p.funs[f]? = some fn := by
    unfold Pg.cs at hcs
    rw [List.getElem?_map] at hcs
    cases e : p.funs[f]? with
    | none => rw [e] at hcs; cases hcs
    | some fn => exact ⟨fn, rfl⟩
  refine rd_ixT (j := 3) rfl hT rfl ⟨pa, rfl, ⟨_, hP⟩, fun D hD => lc_tup (K := K) (a := pa) (xs := pxs) (fun i H' => H' D = some (.lst (((ps.take i).map (Ex.val w.σ)).map V.int)) ∧ Same H H') ⟨upd_same, Same.new hD⟩ (fun i H' _ ⟨_, s'⟩ => s'.sqT hP) ?_ ?_⟩
  · rintro i x H1 hx ⟨hv, s1⟩
    obtain ⟨de, hde, te⟩ := hps.get hx
    rw [List.getElem?_map] at hde
    cases ee : ps[i]? with
    | none => rw [ee] at hde; cases hde
    | some e =>
      rw [ee] at hde
      obtain rfl : e.d = de := Option.some.inj hde
      obtain ⟨we, dd⟩ := wps e (List.mem_of_getElem? ee)
      refine ⟨rfl, _, rfl, _, rfl, x, sl, e, w.σ, rfl, te.mono (Tk.same s1), we, dd, SqL.of (s1 _ _ rs.slo), pre.inr, _, hv, sz_lt1 (by simp; omega), ?_, fun b o e => by rw [upd_ne (ne_of_none e hD)]; exact s1 b o e⟩
      rw [upd_same, List.take_succ, ee, List.map_append, List.map_append]; rfl
  rintro H1 ⟨hv, s1⟩
  rw [List.take_of_length_le (by omega)] at hv
  have r1 := rs.same s1
  refine ⟨_, rfl, p, dp, rn, tl, sl, pv, w, rfl, r1, _, rfl, ?_⟩
  have rc := r1.count (i := w.left - 1)
  have nD : rn ≠ D := ne_of_none rs.run hD
  have hv2 : L2.upd H1 rn (.lst [pv, .int (w.left - 1), .int (dp : Int), .ref tl]) D = some (.lst ((ps.map (Ex.val w.σ)).map V.int)) := by rw [upd_ne nD.symm]; exact hv
  have kc : Kp (B3 rn tl sl) H (L2.upd H1 rn (.lst [pv, .int (w.left - 1), .int (dp : Int), .ref tl])) := (Kp.same s1).trans (Kp.upd (.inl rfl))
  generalize L2.upd H1 rn (.lst [pv, .int (w.left - 1), .int (dp : Int), .ref tl]) = H2 at rc kc hv2 ⊢
  have tk2 := rs.tk kc
  by_cases hl : 0 < w.left
  case neg =>
    refine ifT (by rw [decide_eq_false (by omega)]; rfl) ⟨(by show 1 ≤ sizeLine; decide), fun p1 hp1 => ?_⟩
    exact q _ .dry _ _ _ (.callD (by omega)) (rc.same (Same.new hp1)) (Tp.mk hp1 (.cons (.str _) .nil)) (kc.trans (Kp.new hp1))
  refine ifF (by rw [decide_eq_true (by omega)]; rfl) ?_
  refine ⟨_, rfl, rd_ixL (j := 2) rfl (SqL.of rc.run) rfl ⟨rfl, _, rfl, ?_⟩⟩
  by_cases hd : d = dp
  · subst hd
    refine ifT (dT rfl) ⟨(by show 1 ≤ sizeLine; decide), fun p1 hp1 => ?_⟩
    exact q _ .deep _ _ _ (.callP hl rfl) (rc.same (Same.new hp1)) (Tp.mk hp1 (.cons (.str _) .nil)) (kc.trans (Kp.new hp1))
  refine ifF (dF (fun z => hd (by have := V.int.inj z; omega))) ?_
  have hfm := List.mem_of_getElem? hfn
  have lenf := pre.pw.len fn hfm
  have preF : WPre p dp n (d + 1) [] false false fn.2 ⟨slotsFor (ps.map (Ex.val w.σ)), w.left - 1, w.told⟩ := by
    have hb : (w.told.length : Int) + (exsLen ps + 2 : Nat) + 2000 * (w.left + 1) ≤ 500000 := pre.bud
    have hdp : 1 + 6 * (dp - d) ≤ n + 1 := pre.dep
    have hdd := pre.ddp
    have depf := pre.pw.dep fn hfm
    refine ⟨pre.pw, pre.pw.wf.body fn hfm, slotsFor_in (by simp; omega) (fun y hy => ?_), ⟨(fun _ z => nomatch z), (fun z => nomatch z)⟩, by simp; omega, by omega, pre.dps, by omega, lenf, by show 0 ≤ w.left - 1; omega, by show (w.told.length : Int) + _ + 2000 * (w.left - 1 + 1) ≤ _; omega⟩
    obtain ⟨e, he, rfl⟩ := List.mem_map.mp hy
    exact Ex.val_in pre.inr (wps e he).1
  refine ⟨_, rfl, rd_ixT (j := 2) rfl (tk2.sqT hT) rfl ⟨_, rfl, _, rfl, _, _, rfl, rfl, pCalled (d := d + 1) (by simp) rc hv2 (by simp; omega) hfn preF fun v' o w1 c H3 hR hO r3 t3 k3 => ?_⟩⟩
  have k03 := kc.trans k3
  have tk3 := rs.tk k03
  have fin := Rn.call (met := met) (k := k) (m := m) hl hd hfn hR
  obtain ⟨ea, er, rfl, hE, he⟩ := Out.tup t3
  cases o with
  | brk => cases hO
  | cnt => cases hO
  | on =>
    obtain ⟨e1, er', rfl, z1, _⟩ := TpAll.consE (show TpAll K H3 er [.int 0] from he)
    cases z1.intE
    refine r_ifT (pb_is (pb_w (i := 6) rfl hE rfl) rfl) (rd_ixT (i := 6) (j := 1) rfl hE rfl ⟨_, rfl, rd_ixT (j := 1) rfl (tk3.sqT hT) rfl ⟨sl, _, (k : Int), k, rfl, rfl, r3.slo, ixN_n (by rw [List.length_map]; have := pre.inr.1; show k < w.σ.length; omega), ?_⟩⟩)
    refine ⟨(by show 1 ≤ sizeLine; decide), fun p4 hp4 => ?_⟩
    exact q _ .on _ _ _ fin ((r3.set (k := k) (i := 0)).same (Same.new hp4)) (Tp.mk hp4 (.cons (.str _) .nil)) ((k03.trans (Kp.upd (.inr (.inr rfl)))).trans (Kp.new hp4))
  | ret i =>
    obtain ⟨e1, er', rfl, z1, _⟩ := TpAll.consE (show TpAll K H3 er [.int i] from he)
    cases z1.intE
    refine r_ifT (pb_is (pb_w (i := 6) rfl hE rfl) rfl) (rd_ixT (i := 6) (j := 1) rfl hE rfl ⟨_, rfl, rd_ixT (j := 1) rfl (tk3.sqT hT) rfl ⟨sl, _, (k : Int), k, rfl, rfl, r3.slo, ixN_n (by rw [List.length_map]; have := pre.inr.1; show k < w.σ.length; omega), ?_⟩⟩)
    refine ⟨(by show 1 ≤ sizeLine; decide), fun p4 hp4 => ?_⟩
    exact q _ .on _ _ _ fin ((r3.set (k := k) (i := i)).same (Same.new hp4)) (Tp.mk hp4 (.cons (.str _) .nil)) ((k03.trans (Kp.upd (.inr (.inr rfl)))).trans (Kp.new hp4))
  | flt g =>
    obtain ⟨e1, r1', rfl, z1, he⟩ := TpAll.consE (show TpAll K H3 er [.int (g.k : Int), .int g.v, .tuple (g.tr.map .int)] from he)
    obtain ⟨e2, r2', rfl, z2, he⟩ := TpAll.consE he
    obtain ⟨e3, r3', rfl, z3, he⟩ := TpAll.consE he
    cases he.nilE
    cases z1.intE; cases z2.intE
    refine r_ifF (pb_is (pb_w (i := 6) rfl hE rfl) rfl) (r_ifT (pb_is (pb_w (i := 6) rfl hE rfl) rfl) ?_)
    refine rd_ixT (i := 6) (j := 1) rfl hE rfl (rd_ixT (i := 6) (j := 2) rfl hE rfl (rd_ixT (i := 6) (j := 3) rfl hE rfl (rd_ixT (j := 4) rfl (tk3.sqT hT) rfl ⟨(by show 1 ≤ sizeLine; decide), fun p4 hp4 => ?_⟩)))
    refine catA_tp (ds := g.tr.map .int) (es := [.int m]) (z3.mono (Tk.new hp4)) (Tp.mk hp4 (.cons (.int _) .nil)) (by obtain ⟨_, _, _, hh⟩ := hO; have := pre.dps; simp; omega) fun tv2 H5 t5 s5 => ⟨(by show 4 ≤ sizeLine; decide), fun p6 hp6 => ?_⟩
    have s35 : Same H3 H5 := (Same.new hp4).trans s5
    rw [show g.tr.map PyData.int ++ [.int m] = (g.tr ++ [m]).map .int by simp] at t5
    exact q _ (.flt { g with tr := g.tr ++ [m] }) _ _ _ fin ((r3.same s35).same (Same.new hp6)) (Tp.mk hp6 (.cons (.str _) (.cons (.int _) (.cons (.int _) (.cons t5 .nil))))) ((k03.trans (Kp.same s35)).trans (Kp.new hp6))
  | dry =>
    exact r_ifF (pb_is (pb_w (i := 6) rfl hE rfl) rfl) (r_ifF (pb_is (pb_w (i := 6) rfl hE rfl) rfl) ⟨_, rfl, q _ .dry _ _ _ fin r3 t3 k03⟩)
  | deep =>
    exact r_ifF (pb_is (pb_w (i := 6) rfl hE rfl) rfl) (r_ifF (pb_is (pb_w (i := 6) rfl hE rfl) rfl) ⟨_, rfl, q _ .deep _ _ _ fin r3 t3 k03⟩)
/-! ### _law_does -/
abbrev N_law_does : List Str := ["_law_run", "_law_one", "_law_slots", "_law_met_here", "_law_depth", "_law_word"]
theorem rd_law_does {n : Nat} (vs : List V) (H : Hp) (Q : VK) (E : XK) (h : spWalk K QAny (n + 1) vs H Q E) : t_law_does K (spVal K 5) (spRowed K n) (spWalk K QAny n) (spWalk K QWhl (n + 1)) (spCallsL K n) (spWalk K QTri (n + 1)) (spWalk K QCln (n + 1)) { nx := fun _ H' => Q .non H', rt := Q } (start N_law_does vs) H := by
  obtain ⟨p, dp, rn, tl, sl, pv, v, mv, w, d, met, s, turn, hand, rfl, rs, tv, tm, pre, _, q⟩ := h.ex
  have tb : w.told.length < 1000000 := by have := pre.bud; have := pre.left; omega
  cases s with
  | say e =>
    obtain ⟨a, x0, x1, rfl, hT, h0, h1⟩ := tv.tup2
    cases h0.strE
    obtain ⟨we, de⟩ : e.Wf ∧ e.dep ≤ 5 := pre.wf
    refine rd_ixT (j := 0) rfl hT rfl (r_ifT (pb_is (pb_eqS rfl) rfl) ?_)
    obtain ⟨us, hus, tus⟩ := rs.told
    refine ⟨_, rfl, rn, _, ((3 : Nat) : Int), _, rfl, rfl, SqL.of rs.run, atI_nat rfl, .inl ⟨rfl, _, SqL.of hus⟩, rd_ixT (j := 1) rfl hT rfl ⟨_, rfl, x1, sl, e, w.σ, rfl, h1, we, de, SqL.of rs.slo, pre.inr, (by show 2 ≤ sizeLine; decide), fun p1 hp1 => ?_⟩⟩
    have r1 := rs.same (Same.new (o := .tup [.str "say", .int (e.val w.σ)]) hp1)
    obtain ⟨us1, hus1, lus1, r2⟩ := r1.say (e := .say (e.val w.σ)) (Tp.mk hp1 (.cons (.str _) (.cons (.int _) .nil)))
    refine ⟨tl, us1, _, rfl, rfl, hus1, sz_lt1 (by omega), (by show 1 ≤ sizeLine; decide), fun p2 hp2 => ?_⟩
    exact q _ .on _ _ _ .say (r2.same (Same.new hp2)) (Tp.mk hp2 (.cons (.str _) .nil)) (((Kp.new hp1).trans (Kp.upd (.inr (.inl rfl)))).trans (Kp.new hp2))
  | set k e =>
    obtain ⟨a, x0, x1, x2, rfl, hT, h0, h1, h2⟩ := tv.tup3
    cases h0.strE; cases h1.intE
    obtain ⟨k8, we, de⟩ : k < 8 ∧ e.Wf ∧ e.dep ≤ 5 := pre.wf
    refine rd_ixT (j := 0) rfl hT rfl (r_ifF (pb_is (pb_eqS rfl) rfl) (r_ifT (pb_is (pb_eqS rfl) rfl) ?_))
    refine rd_ixT (j := 2) rfl hT rfl ⟨_, rfl, x2, sl, e, w.σ, rfl, h2, we, de, SqL.of rs.slo, pre.inr, _, rfl, rd_ixT (j := 1) rfl hT rfl ⟨sl, _, (k : Int), k, rfl, rfl, rs.slo, ixN_n (by rw [List.length_map]; have := pre.inr.1; omega), (by show 1 ≤ sizeLine; decide), fun p2 hp2 => ?_⟩⟩
    exact q _ .on _ _ _ .set ((rs.set (k := k) (i := e.val w.σ)).same (Same.new hp2)) (Tp.mk hp2 (.cons (.str _) .nil)) ((Kp.upd (.inr (.inr rfl))).trans (Kp.new hp2))
  | row ps =>
    obtain ⟨a, x0, x1, rfl, hT, h0, h1⟩ := tv.tup2
    cases h0.strE
    refine rd_ixT (j := 0) rfl hT rfl (r_ifF (pb_is (pb_eqS rfl) rfl) (r_ifF (pb_is (pb_eqS rfl) rfl) (r_ifT (pb_is (pb_eqS rfl) rfl) ?_)))
    exact ⟨_, rfl, rd_ixT (j := 1) rfl hT rfl ⟨_, rfl, _, rfl, _, rfl, ⟨⟨p, dp, rn, tl, sl, pv, x1, mv, w, d, met, ps, turn, hand, rfl, rs, h1, tm, pre, fun v' o w1 c H' hR r' t' k' => q v' o w1 c H' (.row hR) r' t' k'⟩⟩⟩⟩
  | ife e s1 s2 =>
    obtain ⟨a, x0, x1, x2, x3, rfl, hT, h0, h1, h2, h3⟩ := tv.tup4
    cases h0.strE
    obtain ⟨⟨we, de⟩, wa, wb⟩ : (e.Wf ∧ e.dep ≤ 5) ∧ s1.Wf p.cs p.kinds.length turn hand ∧ s2.Wf p.cs p.kinds.length turn hand := pre.wf
    refine rd_ixT (j := 0) rfl hT rfl (r_ifF (pb_is (pb_eqS rfl) rfl) (r_ifF (pb_is (pb_eqS rfl) rfl) (r_ifF (pb_is (pb_eqS rfl) rfl) (r_ifT (pb_is (pb_eqS rfl) rfl) ?_))))
    refine ⟨_, rfl, _, rfl, rd_ixT (j := 1) rfl hT rfl ⟨_, rfl, x1, sl, e, w.σ, rfl, h1, we, de, SqL.of rs.slo, pre.inr, rfl, .inr ⟨_, rfl, ?_⟩⟩⟩
    by_cases hz : e.val w.σ = 0
    · refine ⟨_, _, rfl, rfl, a, _, ((3 : Nat) : Int), x3, rfl, by rw [hz]; rfl, hT, atI_nat rfl, _, rfl, _, rfl, _, rfl, pWalk rs h3 tm (pre.first wb (by show s2.dep + 1 ≤ max s1.dep s2.dep + 1; omega) (by show s2.len ≤ e.len + 1 + s1.len + 1 + s2.len; omega)) trivial fun v' o w1 c H' hR _ _ _ r' t' k' _ => ?_⟩
      exact q v' o w1 _ H' (.ifF hz hR) r' t' k'
    · refine ⟨_, _, rfl, rfl, a, _, ((2 : Nat) : Int), x2, rfl, by rw [dF (fun z => hz (V.int.inj z))]; rfl, hT, atI_nat rfl, _, rfl, _, rfl, _, rfl, pWalk rs h2 tm (pre.first wa (by show s1.dep + 1 ≤ max s1.dep s2.dep + 1; omega) (by show s1.len ≤ e.len + 1 + s1.len + 1 + s2.len; omega)) trivial fun v' o w1 c H' hR _ _ _ r' t' k' _ => ?_⟩
      exact q v' o w1 _ H' (.ifT hz hR) r' t' k'
  | whl e s1 =>
    obtain ⟨a, x0, x1, x2, rfl, hT, h0, h1, h2⟩ := id tv.tup3
    cases h0.strE
    refine rd_ixT (j := 0) rfl hT rfl (r_ifF (pb_is (pb_eqS rfl) rfl) (r_ifF (pb_is (pb_eqS rfl) rfl) (r_ifF (pb_is (pb_eqS rfl) rfl) (r_ifF (pb_is (pb_eqS rfl) rfl) (r_ifT (pb_is (pb_eqS rfl) rfl) ?_)))))
    exact ⟨_, rfl, _, rfl, _, rfl, _, rfl, _, rfl, pWalk rs tv tm pre ⟨_, _, rfl⟩ fun v' o w1 c H' hR _ _ _ r' t' k' _ => q v' o w1 c H' hR r' t' k'⟩
  | ret e =>
    obtain ⟨a, x0, x1, rfl, hT, h0, h1⟩ := tv.tup2
    cases h0.strE
    obtain ⟨we, de⟩ : e.Wf ∧ e.dep ≤ 5 := pre.wf
    refine rd_ixT (j := 0) rfl hT rfl (r_ifF (pb_is (pb_eqS rfl) rfl) (r_ifF (pb_is (pb_eqS rfl) rfl) (r_ifF (pb_is (pb_eqS rfl) rfl) (r_ifF (pb_is (pb_eqS rfl) rfl) (r_ifF (pb_is (pb_eqS rfl) rfl) (r_ifT (pb_is (pb_eqS rfl) rfl) ?_))))))
    refine rd_ixT (j := 1) rfl hT rfl ⟨_, rfl, x1, sl, e, w.σ, rfl, h1, we, de, SqL.of rs.slo, pre.inr, (by show 2 ≤ sizeLine; decide), fun p1 hp1 => ?_⟩
    exact q _ (.ret (e.val w.σ)) w _ _ .ret (rs.same (Same.new hp1)) (Tp.mk hp1 (.cons (.str _) (.cons (.int _) .nil))) (Kp.new hp1)
  | rais kd e m =>
    obtain ⟨a, x0, x1, x2, x3, rfl, hT, h0, h1, h2, h3⟩ := tv.tup4
    cases h0.strE; cases h1.intE; cases h3.intE
    obtain ⟨_, ⟨we, de⟩, _⟩ : kd < p.kinds.length ∧ (e.Wf ∧ e.dep ≤ 5) ∧ 0 ≤ m ∧ m < 1000 := pre.wf
    refine rd_ixT (j := 0) rfl hT rfl (r_ifF (pb_is (pb_eqS rfl) rfl) (r_ifF (pb_is (pb_eqS rfl) rfl) (r_ifF (pb_is (pb_eqS rfl) rfl) (r_ifF (pb_is (pb_eqS rfl) rfl) (r_ifF (pb_is (pb_eqS rfl) rfl) (r_ifF (pb_is (pb_eqS rfl) rfl) (r_ifT (pb_is (pb_eqS rfl) rfl) ?_)))))))
    refine rd_ixT (j := 1) rfl hT rfl (rd_ixT (j := 2) rfl hT rfl ⟨_, rfl, x2, sl, e, w.σ, rfl, h2, we, de, SqL.of rs.slo, pre.inr, rd_ixT (j := 3) rfl hT rfl ⟨(by show 1 ≤ sizeLine; decide), fun p1 hp1 => ⟨(by show 4 ≤ sizeLine; decide), fun p2 hp2 => ?_⟩⟩⟩)
    exact q _ (.flt ⟨kd, e.val w.σ, [m]⟩) w _ _ .rais ((rs.same (Same.new hp1)).same (Same.new hp2)) (Tp.mk hp2 (.cons (.str _) (.cons (.int _) (.cons (.int _) (.cons (Tp.mk hp1 (.cons (.int _) .nil)) .nil))))) ((Kp.new hp1).trans (Kp.new hp2))
  | again =>
    obtain ⟨a, x0, rfl, hT, h0⟩ := id tv.tup1
    cases h0.strE
    have hne : met ≠ [] := pre.mok.2 pre.wf
    obtain ⟨ma, mxs, rfl, hM, tms⟩ := tm.tupE
    refine rd_ixT (j := 0) rfl hT rfl (r_ifF (pb_is (pb_eqS rfl) rfl) (r_ifF (pb_is (pb_eqS rfl) rfl) (r_ifF (pb_is (pb_eqS rfl) rfl) (r_ifF (pb_is (pb_eqS rfl) rfl) (r_ifF (pb_is (pb_eqS rfl) rfl) (r_ifF (pb_is (pb_eqS rfl) rfl) (r_ifF (pb_is (pb_eqS rfl) rfl) (r_ifT (pb_is (pb_eqS rfl) rfl) ?_))))))))
    have hl := List.getLast?_eq_some_getLast hne
    have lm : mxs.length = met.length := by rw [tms.length, List.length_map]
    have pos : 0 < met.length := List.length_pos_iff.mpr hne
    obtain ⟨x, hx, tx⟩ := tms.get' (i := met.length - 1) (d := (met.getLast hne).d) (by rw [List.getElem?_map, ← List.getLast?_eq_getElem?, hl]; rfl)
    have hat : atI mxs (-1) = some x := by
      have hsplit : mxs = mxs.dropLast ++ [x] := by
        have hn : mxs ≠ [] := fun z => by rw [z] at lm; simp at lm; omega
        have e1 : mxs.getLast? = some x := by rw [List.getLast?_eq_getElem?, lm]; exact hx
        have e2 : mxs.getLast hn = x := by
          have z := List.getLast?_eq_some_getLast hn
          rw [e1] at z
          exact (Option.some.inj z).symm
        rw [← e2]
        exact (List.dropLast_concat_getLast hn).symm
      rw [hsplit]; exact atI_last _ _
    exact ⟨_, rfl, _, rfl, ma, mxs, -1, x, rfl, rfl, hM, hat, q x (.flt (met.getLast hne)) w 1 H (.again hl) rs tx (Kp.refl _ _)⟩
  | call k f ps m =>
    obtain ⟨a, x0, x1, x2, x3, x4, rfl, hT, h0, h1, h2, h3, h4⟩ := id tv.tup5
    cases h0.strE
    refine rd_ixT (j := 0) rfl hT rfl (r_ifF (pb_is (pb_eqS rfl) rfl) (r_ifF (pb_is (pb_eqS rfl) rfl) (r_ifF (pb_is (pb_eqS rfl) rfl) (r_ifF (pb_is (pb_eqS rfl) rfl) (r_ifF (pb_is (pb_eqS rfl) rfl) (r_ifF (pb_is (pb_eqS rfl) rfl) (r_ifF (pb_is (pb_eqS rfl) rfl) (r_ifF (pb_is (pb_eqS rfl) rfl) (r_ifT (pb_is (pb_eqS rfl) rfl) ?_)))))))))
    exact ⟨_, rfl, _, rfl, _, rfl, _, rfl, ⟨⟨p, dp, rn, tl, sl, pv, _, w, d, met, k, f, ps, m, turn, hand, rfl, rs, tv, pre, q⟩⟩⟩
  | tri s1 hs =>
    obtain ⟨a, x0, x1, x2, rfl, hT, h0, h1, h2⟩ := id tv.tup3
    cases h0.strE
    refine rd_ixT (j := 0) rfl hT rfl (r_ifF (pb_is (pb_eqS rfl) rfl) (r_ifF (pb_is (pb_eqS rfl) rfl) (r_ifF (pb_is (pb_eqS rfl) rfl) (r_ifF (pb_is (pb_eqS rfl) rfl) (r_ifF (pb_is (pb_eqS rfl) rfl) (r_ifF (pb_is (pb_eqS rfl) rfl) (r_ifF (pb_is (pb_eqS rfl) rfl) (r_ifF (pb_is (pb_eqS rfl) rfl) (r_ifF (pb_is (pb_eqS rfl) rfl) (r_ifT (pb_is (pb_eqS rfl) rfl) ?_))))))))))
    exact ⟨_, rfl, _, rfl, _, rfl, _, rfl, _, rfl, pWalk rs tv tm pre ⟨_, _, rfl⟩ fun v' o w1 c H' hR _ _ _ r' t' k' _ => q v' o w1 c H' hR r' t' k'⟩
  | cln s1 s2 =>
    obtain ⟨a, x0, x1, x2, rfl, hT, h0, h1, h2⟩ := id tv.tup3
    cases h0.strE
    refine rd_ixT (j := 0) rfl hT rfl (r_ifF (pb_is (pb_eqS rfl) rfl) (r_ifF (pb_is (pb_eqS rfl) rfl) (r_ifF (pb_is (pb_eqS rfl) rfl) (r_ifF (pb_is (pb_eqS rfl) rfl) (r_ifF (pb_is (pb_eqS rfl) rfl) (r_ifF (pb_is (pb_eqS rfl) rfl) (r_ifF (pb_is (pb_eqS rfl) rfl) (r_ifF (pb_is (pb_eqS rfl) rfl) (r_ifF (pb_is (pb_eqS rfl) rfl) (r_ifF (pb_is (pb_eqS rfl) rfl) (r_ifT (pb_is (pb_eqS rfl) rfl) ?_)))))))))))
    exact ⟨_, rfl, _, rfl, _, rfl, _, rfl, _, rfl, pWalk rs tv tm pre ⟨_, _, rfl⟩ fun v' o w1 c H' hR _ _ _ r' t' k' _ => q v' o w1 c H' hR r' t' k'⟩
  | brk =>
    obtain ⟨a, x0, rfl, hT, h0⟩ := id tv.tup1
    cases h0.strE
    refine rd_ixT (j := 0) rfl hT rfl (r_ifF (pb_is (pb_eqS rfl) rfl) (r_ifF (pb_is (pb_eqS rfl) rfl) (r_ifF (pb_is (pb_eqS rfl) rfl) (r_ifF (pb_is (pb_eqS rfl) rfl) (r_ifF (pb_is (pb_eqS rfl) rfl) (r_ifF (pb_is (pb_eqS rfl) rfl) (r_ifF (pb_is (pb_eqS rfl) rfl) (r_ifF (pb_is (pb_eqS rfl) rfl) (r_ifF (pb_is (pb_eqS rfl) rfl) (r_ifF (pb_is (pb_eqS rfl) rfl) (r_ifF (pb_is (pb_eqS rfl) rfl) ?_)))))))))))
    exact ⟨_, rfl, q _ .brk w 1 H .brk rs tv (Kp.refl _ _)⟩
  | cnt =>
    obtain ⟨a, x0, rfl, hT, h0⟩ := id tv.tup1
    cases h0.strE
    refine rd_ixT (j := 0) rfl hT rfl (r_ifF (pb_is (pb_eqS rfl) rfl) (r_ifF (pb_is (pb_eqS rfl) rfl) (r_ifF (pb_is (pb_eqS rfl) rfl) (r_ifF (pb_is (pb_eqS rfl) rfl) (r_ifF (pb_is (pb_eqS rfl) rfl) (r_ifF (pb_is (pb_eqS rfl) rfl) (r_ifF (pb_is (pb_eqS rfl) rfl) (r_ifF (pb_is (pb_eqS rfl) rfl) (r_ifF (pb_is (pb_eqS rfl) rfl) (r_ifF (pb_is (pb_eqS rfl) rfl) (r_ifF (pb_is (pb_eqS rfl) rfl) ?_)))))))))))
    exact ⟨_, rfl, q _ .cnt w 1 H .cnt rs tv (Kp.refl _ _)⟩
end
end Lp

/-! LvA: the program's walk: state, counted, meets, slots_for, row, looped, cleaned. -/
namespace Lp
open PySem PySem.Spec PyProof.Rows L2
def t_meets (K : PySem.W.Frag) (sp_under : Sp) : TS :=
  tRet (tOrV (tOp rIsN (tVar 1) (tC .non)) (tCall sp_under [] E0 (tCons (tVar 0) (tCons (tVar 2) (tCons (tVar 1) (tNil))))))

def t_Walker_counted (K : PySem.W.Frag) : TS :=
  tSeq (sFld K (tVar 0) (tOp rSbI (tFld K (tVar 0) "left") (tC (.int 1))) "left") (tRet (tOp rGe (tFld K (tVar 0) "left") (tC (.int 0))))

structure WV where
  dx : Addr
  kv : V
  fv : V
def wfs (pv : WV) (left : Int) (dp : Nat) (tl : Addr) : List (Str × V) := [("kinds", pv.kv), ("functions", pv.fv), ("left", .int left), ("deep", .int (dp : Int)), ("told", .ref tl)]
/-- what the top has of the class and of ON -/
structure WkTxt (K : PySem.W.Frag) (C on : Addr) : Prop where
  cl : Cls K C
  kinds : NoAttr K C "kinds"
  functions : NoAttr K C "functions"
  left : NoAttr K C "left"
  deep : NoAttr K C "deep"
  told : NoAttr K C "told"
  on : ∀ H, Tp K H (.ref on) Out.on.d
section
variable {K : PySem.W.Frag} {C on : Addr} {H H' : Hp} {σ : L2.St} {p : Pg} {dp : Nat} {rn tl sl : Addr} {pv : WV} {w : WSt}
structure WkSt (K : PySem.W.Frag) (C : Addr) (p : Pg) (dp : Nat) (H : Hp) (rn tl sl : Addr) (pv : WV) (w : WSt) : Prop where
  ins : H rn = some (.ins C pv.dx (wfs pv w.left dp tl))
  told : ∃ us, H tl = some (.lst us) ∧ TpAll K H us (w.told.map Ev.d)
  slo : H sl = some (.lst (w.σ.map V.int))
  kt : Tp K H pv.kv (.tuple (p.kinds.map kindD))
  ft : Tp K H pv.fv (.tuple (p.funs.map funD))
  n1 : rn ≠ tl
  n2 : rn ≠ sl
  n3 : tl ≠ sl
theorem WkSt.noTup (r : WkSt K C p dp H rn tl sl pv w) : NoTup (B3 rn tl sl) H := by
  rintro a (rfl | rfl | rfl)
  · exact ⟨_, r.ins, (fun _ z => by cases z), (fun _ _ z => by cases z)⟩
  · obtain ⟨us, h, _⟩ := r.told
    exact ⟨_, h, (fun _ z => by cases z), (fun _ _ z => by cases z)⟩
  · exact ⟨_, r.slo, (fun _ z => by cases z), (fun _ _ z => by cases z)⟩
theorem WkSt.tk (r : WkSt K C p dp H rn tl sl pv w) (k : Kp (B3 rn tl sl) H H') : Tk H H' := k.tk r.noTup
theorem WkSt.same (r : WkSt K C p dp H rn tl sl pv w) (s : Same H H') : WkSt K C p dp H' rn tl sl pv w := by
  obtain ⟨us, h, ht⟩ := r.told
  exact ⟨s _ _ r.ins, ⟨us, s _ _ h, ht.mono (Tk.same s)⟩, s _ _ r.slo, r.kt.mono (Tk.same s), r.ft.mono (Tk.same s), r.n1, r.n2, r.n3⟩
theorem WkSt.say {x : V} {e : Ev} (r : WkSt K C p dp H rn tl sl pv w) (hx : Tp K H x e.d) : ∃ us, H tl = some (.lst us) ∧ us.length = w.told.length ∧ WkSt K C p dp (upd H tl (.lst (us ++ [x]))) rn tl sl pv { w with told := w.told ++ [e] } := by
  obtain ⟨us, h, ht⟩ := r.told
  refine ⟨us, h, by rw [ht.length, List.length_map], ⟨by rw [upd_ne r.n1]; exact r.ins, ⟨_, upd_same, ?_⟩, by rw [upd_ne r.n3.symm]; exact r.slo, r.kt.mono (Tk.lst h), r.ft.mono (Tk.lst h), r.n1, r.n2, r.n3⟩⟩
  rw [List.map_append]
  exact (ht.snoc hx).mono (Tk.lst h)
theorem WkSt.set {k : Nat} {i : Int} (r : WkSt K C p dp H rn tl sl pv w) : WkSt K C p dp (upd H sl (.lst ((w.σ.map V.int).set k (.int i)))) rn tl sl pv { w with σ := w.σ.set k i } := by
  obtain ⟨us, h, ht⟩ := r.told
  refine ⟨by rw [upd_ne r.n2]; exact r.ins, ⟨us, by rw [upd_ne r.n3]; exact h, ht.mono (Tk.lst r.slo)⟩, ?_, r.kt.mono (Tk.lst r.slo), r.ft.mono (Tk.lst r.slo), r.n1, r.n2, r.n3⟩
  rw [upd_same, List.map_set]
theorem WkSt.count {i : Int} (r : WkSt K C p dp H rn tl sl pv w) : WkSt K C p dp (upd H rn (.ins C pv.dx (wfs pv i dp tl))) rn tl sl pv { w with left := i } := by
  obtain ⟨us, h, ht⟩ := r.told
  exact ⟨upd_same, ⟨us, by rw [upd_ne r.n1.symm]; exact h, ht.mono (Tk.ins r.ins)⟩, by rw [upd_ne r.n2.symm]; exact r.slo, r.kt.mono (Tk.ins r.ins), r.ft.mono (Tk.ins r.ins), r.n1, r.n2, r.n3⟩
theorem rMethW {i : Nat} {a D dx : Addr} {fs : List (Str × V)} {Q : VK} {f : Str} {sp : Sp} {ta : TA} (hs : σ[i]? = some (some (.ref a))) (hc : H a = some (.ins D dx fs)) (l : fs.lookup f = none) (q : ta σ H fun vs H2 => sp (.ref a :: (vs ++ [])) H2 Q E0) : tMeth D f sp [] E0 (tVar i) ta σ H Q :=
  ⟨_, hs, a, dx, _, rfl, hc, l, q⟩
theorem Out.shaped (o : Out) : SeqAt.shaped o.d = true := by
  cases o with
  | flt f =>
    have h1 := lay_ints f.tr
    have h2 := dep_ints f.tr
    simp [SeqAt.shaped, Out.d, Out.r, Out.w, Flt.tl, PyData.canLay0, PyData.canLayAll0, PyData.depth, PyData.depthAll, h1]
    first | omega | (constructor <;> first | decide +kernel | omega)
  | _ => simp [SeqAt.shaped, Out.d, Out.r, Out.w, PyData.canLay0, PyData.canLayAll0, PyData.depth, PyData.depthAll] <;> decide +kernel
theorem Out.eqv_on (o : Out) : PyData.eqv o.d Out.on.d = decide (o = .on) := by
  cases o <;> simp [Out.d, Out.w, Out.r, Flt.tl, PyData.eqv, PyData.eqvAll] <;> first | rfl | (intro h; exact absurd h (by decide))
/-- end == ON -/
theorem pb_on {i : Nat} {v : V} {o : Out} (T : WkTxt K C on) (hs : σ[i]? = some (some v)) (t : Tp K H v o.d) : PB (tTest (tOp (rEqD K) (tVar i) (tC (.ref on)))) σ H (decide (o = .on)) := fun _ q =>
  ⟨_, hs, _, _, t.dp, (T.on H).dp, o.shaped, Out.on.shaped, _, rfl, by rw [Out.eqv_on]; exact q⟩
theorem pb_onN {i : Nat} {v : V} {o : Out} (T : WkTxt K C on) (hs : σ[i]? = some (some v)) (t : Tp K H v o.d) : PB (tTest (tOp (rNeD K) (tVar i) (tC (.ref on)))) σ H (!decide (o = .on)) := fun _ q =>
  ⟨_, hs, _, _, t.dp, (T.on H).dp, o.shaped, Out.on.shaped, _, rfl, by rw [Out.eqv_on]; exact q⟩
def spCountW (K : PySem.W.Frag) (C : Addr) : Sp := fun vs H Q _ => ∃ (p : Pg) (dp : Nat) (rn tl sl : Addr) (pv : WV) (w : WSt), vs = [.ref rn] ∧ WkSt K C p dp H rn tl sl pv w ∧ Q (.bl (decide (0 ≤ w.left - 1))) (upd H rn (.ins C pv.dx (wfs pv (w.left - 1) dp tl)))
theorem rd_counted (T : WkTxt K C on) (vs : List V) (H : Hp) (Q : VK) (E : XK) (h : spCountW K C vs H Q E) : t_Walker_counted K { nx := fun _ H' => Q .non H', rt := Q } (start ["self"] vs) H := by
  obtain ⟨p, dp, rn, tl, sl, pv, w, rfl, r, q⟩ := h
  refine ⟨_, rfl, rn, C, pv.dx, _, _, rfl, r.ins, T.cl, T.left, rfl, _, _, rfl, rfl, _, rfl, rn, C, pv.dx, _, rfl, r.ins, T.cl, T.left, (by show 5 < 1000; decide), ?_⟩
  have rc := r.count (i := w.left - 1)
  exact ⟨_, rfl, rn, C, pv.dx, _, _, rfl, rc.ins, T.cl, T.left, rfl, _, _, rfl, rfl, q⟩
def spMeets (K : PySem.W.Frag) : Sp := fun vs H Q _ => ∃ (a : Addr) (ks : List (Option Nat)) (wd : Option Nat) (k : Nat), vs = [.ref a, kindV wd, .int (k : Int)] ∧ SqT K H a (ks.map kindV) ∧ WfK ks ∧ k < ks.length ∧ Q (.bl (takes ks wd k)) H
theorem rd_meets (vs : List V) (H : Hp) (Q : VK) (E : XK) (h : spMeets K vs H Q E) : t_meets K (spUnder K) { nx := fun _ H' => Q .non H', rt := Q } (start ["kinds", "wanted", "kind"] vs) H := by
  obtain ⟨a, ks, wd, k, rfl, hS, wf, hk, q⟩ := h
  cases wd with
  | none => exact ⟨_, rfl, rfl, _, rfl, ifT (dT rfl) q⟩
  | some j => exact ⟨_, rfl, rfl, _, rfl, ifF (dF (by intro z; cases z)) ⟨_, rfl, _, rfl, _, rfl, a, ks, k, j, rfl, hS, wf, hk, q⟩⟩
end
end Lp

/-! LvB: the program's walk: row, looped, cleaned. -/
namespace Lp
open PySem PySem.Spec PyProof.Rows L2
def t_Walker_row (K : PySem.W.Frag) (C_Walker : Addr) (sp_Walker_does : Sp) (ad_ON : Addr) : TS :=
  tSeq (tFor (iTup K (tVar 1)) (gName 5) (tSeq (tAsg (tMeth C_Walker "does" sp_Walker_does [] E0 (tVar 0) (tCons (tVar 5) (tCons (tVar 2) (tCons (tVar 3) (tCons (tVar 4) (tNil)))))) (gName 6)) (tIfS (tTest (tOp (rNeD K) (tVar 6) (tC (.ref ad_ON)))) (tRet (tVar 6)) (tNext)))) (tRet (tC (.ref ad_ON)))

def t_Walker_looped (K : PySem.W.Frag) (sp_value_of : Sp) (C_Walker : Addr) (sp_Walker_counted : Sp) (sp_Walker_does : Sp) (ad_ON : Addr) : TS :=
  tSeq (tWhile (tTest (tOp rNe (tCall sp_value_of [] E0 (tCons (tOp (rIxT K) (tVar 1) (tC (.int 1))) (tCons (tVar 2) (tNil)))) (tC (.int 0)))) (tSeq (tIfS (tNot (tB (tMeth C_Walker "counted" sp_Walker_counted [] E0 (tVar 0) tNil))) (tRet (tTup (tCons (tC (.str "dry")) (tNil)))) (tNext)) (tSeq (tAsg (tMeth C_Walker "does" sp_Walker_does [] E0 (tVar 0) (tCons (tOp (rIxT K) (tVar 1) (tC (.int 2))) (tCons (tVar 2) (tCons (tVar 3) (tCons (tVar 4) (tNil)))))) (gName 5)) (tSeq (tIfS (tTest (tOp rEq (tOp (rIxT K) (tVar 5) (tC (.int 0))) (tC (.str "break")))) (tRet (tC (.ref ad_ON))) (tNext)) (tIfS (tAnd (tTest (tOp (rNeD K) (tVar 5) (tC (.ref ad_ON)))) (tTest (tOp rNe (tOp (rIxT K) (tVar 5) (tC (.int 0))) (tC (.str "continue"))))) (tRet (tVar 5)) (tNext)))))) (tRet (tC (.ref ad_ON)))

def t_Walker_cleaned (K : PySem.W.Frag) (C_Walker : Addr) (sp_Walker_does : Sp) (ad_ON : Addr) : TS :=
  tSeq (tAsg (tMeth C_Walker "does" sp_Walker_does [] E0 (tVar 0) (tCons (tOp (rIxT K) (tVar 1) (tC (.int 1))) (tCons (tVar 2) (tCons (tVar 3) (tCons (tVar 4) (tNil)))))) (gName 5)) (tSeq (tIfS (tTest (tOp (rIn K false) (tOp (rIxT K) (tVar 5) (tC (.int 0))) (tTup (tCons (tC (.str "dry")) (tCons (tC (.str "deep")) (tNil)))))) (tRet (tVar 5)) (tNext)) (tSeq (tAsg (tMeth C_Walker "does" sp_Walker_does [] E0 (tVar 0) (tCons (tOp (rIxT K) (tVar 1) (tC (.int 2))) (tCons (tVar 2) (tCons (tVar 3) (tCons (tVar 4) (tNil)))))) (gName 6)) (tSeq (tIfS (tTest (tOp (rEqD K) (tVar 6) (tC (.ref ad_ON)))) (tRet (tVar 5)) (tNext)) (tRet (tVar 6)))))

/-! ### what the program's walk is asked and told -/
structure WalkPW (K : PySem.W.Frag) (C : Addr) (P : Sm → Prop) (n : Nat) (vs : List V) (H : Hp) (Q : VK) : Prop where
  ex : ∃ (p : Pg) (dp : Nat) (rn tl sl : Addr) (pv : WV) (v mv : V) (w : WSt) (d : Nat) (met : List Flt) (s : Sm) (turn hand : Bool), vs = [.ref rn, v, .ref sl, mv, .int (d : Int)] ∧ WkSt K C p dp H rn tl sl pv w ∧ Tp K H v s.d ∧ Tp K H mv (metD met) ∧ WPre p dp n d met turn hand s w ∧ P s ∧
    ∀ (v' : V) (o : Out) (w1 : WSt) (c : Nat) (H' : Hp), Rn p dp d met s w o w1 c → WkSt K C p dp H' rn tl sl pv w1 → Tp K H' v' o.d → Kp (B3 rn tl sl) H H' → Q v' H'
def spWalkW (K : PySem.W.Frag) (C : Addr) (P : Sm → Prop) (n : Nat) : Sp := fun vs H Q _ => WalkPW K C P n vs H Q
theorem spWalkW_zero {K : PySem.W.Frag} {C : Addr} {P : Sm → Prop} (vs : List V) (H : Hp) (Q : VK) (E : XK) : ¬ spWalkW K C P 0 vs H Q E := by
  rintro ⟨⟨p, dp, rn, tl, sl, pv, v, mv, w, d, met, s, turn, hand, _, _, _, _, h, _⟩⟩
  have := h.dep
  have : 1 ≤ s.dep := by cases s <;> simp [Sm.dep]
  omega
theorem pWalkW {K : PySem.W.Frag} {C : Addr} {P : Sm → Prop} {n : Nat} {H : Hp} {Q : VK} {p : Pg} {dp : Nat} {rn tl sl : Addr} {pv : WV} {v mv : V} {w : WSt} {d : Nat} {met : List Flt} {s : Sm} {turn hand : Bool}
    (r : WkSt K C p dp H rn tl sl pv w) (tv : Tp K H v s.d) (tm : Tp K H mv (metD met)) (pre : WPre p dp n d met turn hand s w) (hP : P s)
    (q : ∀ (v' : V) (o : Out) (w1 : WSt) (c : Nat) (H' : Hp), Rn p dp d met s w o w1 c → Cost s.len w o w1 c → InR w1.σ → OutOk p.kinds.length dp d turn o → WkSt K C p dp H' rn tl sl pv w1 → Tp K H' v' o.d → Kp (B3 rn tl sl) H H' → Tk H H' → Q v' H') : spWalkW K C P n [.ref rn, v, .ref sl, mv, .int (d : Int)] H Q E0 :=
  ⟨p, dp, rn, tl, sl, pv, v, mv, w, d, met, s, turn, hand, rfl, r, tv, tm, pre, hP, fun v' o w1 c H' hR r' t' k' =>
    q v' o w1 c H' hR (Rn.cost pre.pw.len hR pre.len pre.left) (Rn.ok pre.pw.r rfl hR pre.wf pre.inr pre.mok pre.ddp).1 (Rn.ok pre.pw.r rfl hR pre.wf pre.inr pre.mok pre.ddp).2 r' t' k' (r.tk k')⟩
section
variable {K : PySem.W.Frag} {C on : Addr}
/-! ### rows -/
structure RowPW (K : PySem.W.Frag) (C : Addr) (n : Nat) (vs : List V) (H : Hp) (Q : VK) : Prop where
  ex : ∃ (p : Pg) (dp : Nat) (rn tl sl : Addr) (pv : WV) (v mv : V) (w : WSt) (d : Nat) (met : List Flt) (s : Sms) (turn hand : Bool), vs = [.ref rn, v, .ref sl, mv, .int (d : Int)] ∧ WkSt K C p dp H rn tl sl pv w ∧ Tp K H v (.tuple s.ds) ∧ Tp K H mv (metD met) ∧ WPre p dp (n + 1) d met turn hand (.row s) w ∧
    ∀ (v' : V) (o : Out) (w1 : WSt) (c : Nat) (H' : Hp), RnS p dp d met s w o w1 c → WkSt K C p dp H' rn tl sl pv w1 → Tp K H' v' o.d → Kp (B3 rn tl sl) H H' → Q v' H'
def spRowW (K : PySem.W.Frag) (C : Addr) (n : Nat) : Sp := fun vs H Q _ => RowPW K C n vs H Q
abbrev N_row : List Str := ["self", "parts", "slots", "met", "depth", "part", "end"]
theorem rd_row (T : WkTxt K C on) {n : Nat} (vs : List V) (H : Hp) (Q : VK) (E : XK) (h : spRowW K C n vs H Q E) : t_Walker_row K C (spWalkW K C QAny n) on { nx := fun _ H' => Q .non H', rt := Q } (start N_row vs) H := by
  obtain ⟨p, dp, rn, tl, sl, pv, v, mv, w, d, met, ps, turn, hand, rfl, rs, tv, tm, pre, q⟩ := h.ex
  obtain ⟨pa, pxs, rfl, hP, hps⟩ := tv.tupE
  have wps : ps.Wf p.cs p.kinds.length turn hand := pre.wf
  refine ⟨_, rfl, pa, rfl, ⟨_, hP⟩, for_tup (K := K) (a := pa) (xs := pxs) (fun i σ H' => ∃ (r : Sms) (w1 : WSt) (c m : Nat) (v5 v6 : Option V), σ = [some (.ref rn), some (.ref pa), some (.ref sl), some mv, some (.int (d : Int)), v5, v6] ∧ WkSt K C p dp H' rn tl sl pv w1 ∧ Kp (B3 rn tl sl) H H' ∧
      TpAll K H (pxs.drop i) r.ds ∧ r.Wf p.cs p.kinds.length turn hand ∧ r.dep ≤ ps.dep ∧ m + r.len = ps.len ∧ Cost m w .on w1 c ∧ InR w1.σ ∧ (∀ o w2 c2, RnS p dp d met r w1 o w2 c2 → RnS p dp d met ps w o w2 (c + c2)))
    ⟨ps, w, 0, 0, _, _, rfl, rs, Kp.refl _ _, by rw [List.drop_zero]; exact hps, wps, Nat.le_refl _, by simp, ⟨by simp, Int.le_refl _, .inl pre.left, by simp⟩, pre.inr, fun o w2 c2 h => by rw [Nat.zero_add]; exact h⟩ (fun i σ H' _ ⟨_, _, _, _, _, _, _, _, k', _⟩ => (rs.tk k').sqT hP) ?_ ?_⟩
  · rintro i x σ H4 hx ⟨r, w1, c, m, v5, v6, rfl, r4, k4, tr, wr, dr, lr, ct, ir, cont⟩
    obtain ⟨s, r', rfl, tx, tr'⟩ := sms_at tr hx
    obtain ⟨wa, wb⟩ : s.Wf p.cs p.kinds.length turn hand ∧ r'.Wf p.cs p.kinds.length turn hand := wr
    have dr2 : max s.dep r'.dep ≤ ps.dep := dr
    have lr2 : m + (s.len + r'.len) = ps.len := lr
    have tk4 := rs.tk k4
    refine rMethW rfl r4.ins rfl ⟨_, rfl, _, rfl, _, rfl, _, rfl, pWalkW r4 (tx.mono tk4) (tm.mono tk4) (pre.next ct (by simp) ir wa (by show s.dep + 1 ≤ ps.dep + 1; omega) (by show m + s.len ≤ ps.len; omega)) trivial fun v' o w2 c2 H5 hR hC hI hO r5 t5 k5 tk5 => ?_⟩
    obtain ⟨ea, er, rfl, hE, _⟩ := Out.tup t5
    by_cases ho : o = .on
    · subst ho
      exact r_ifF (pb_is (pb_onN T (i := 6) rfl t5) rfl) ⟨r', w2, c + c2, m + s.len, _, _, rfl, r5, k4.trans k5, tr', wb, by omega, by omega, ct.add hC, hI, fun o w3 c3 h => by rw [Nat.add_assoc]; exact cont _ _ _ (.next hR h)⟩
    · refine r_ifT (pb_is (pb_onN T (i := 6) rfl t5) (by rw [decide_eq_false ho]; rfl)) ⟨_, rfl, ?_⟩
      exact q _ o w2 (c + c2) H5 (cont _ _ _ (.stop hR ho)) r5 t5 (k4.trans k5)
  · rintro σ H4 ⟨r, w1, c, m, v5, v6, rfl, r4, k4, tr, wr, dr, lr, ct, ir, cont⟩
    cases sms_end tr
    exact q _ .on w1 (c + 0) _ (cont _ _ _ .nil) r4 (T.on _) k4
abbrev N_cleanW : List Str := ["self", "one", "slots", "met", "depth", "end", "last"]
theorem rd_cleanW (T : WkTxt K C on) {n : Nat} (vs : List V) (H : Hp) (Q : VK) (E : XK) (h : spWalkW K C QCln (n + 1) vs H Q E) : t_Walker_cleaned K C (spWalkW K C QAny n) on { nx := fun _ H' => Q .non H', rt := Q } (start N_cleanW vs) H := by
  obtain ⟨p, dp, rn, tl, sl, pv, v, mv, w, d, met, s, turn, hand, rfl, rs, tv, tm, pre, ⟨s1, s2, rfl⟩, q⟩ := h.ex
  obtain ⟨a, x0, x1, x2, rfl, hT, h0, h1, h2⟩ := tv.tup3
  obtain ⟨wa, wb⟩ : s1.Wf p.cs p.kinds.length turn hand ∧ s2.Wf p.cs p.kinds.length turn hand := pre.wf
  refine rMethW rfl (rs).ins rfl (rd_ixT (j := 1) rfl hT rfl ⟨_, rfl, _, rfl, _, rfl, pWalkW rs h1 tm (pre.first wa (by show s1.dep + 1 ≤ max s1.dep s2.dep + 1; omega) (by show s1.len ≤ s1.len + 2 + s2.len + 1; omega)) trivial fun v1 o w1 c H1 hR hC hI hO r1 t1 k1 tk1 => ?_⟩)
  obtain ⟨ea, er, rfl, hE, _⟩ := Out.tup t1
  refine rd_ixT (i := 5) (j := 0) rfl hE rfl ⟨(by show 2 ≤ sizeLine; decide), fun p1 hp1 => ⟨p1, _, rfl, .inr (SqT.of upd_same), rfl, rfl, o.over, by rw [if_neg Bool.false_ne_true, Out.over_w], ?_⟩⟩
  have sN : Same H1 (L2.upd H1 p1 (.tup [.str "dry", .str "deep"])) := Same.new hp1
  refine ifB (fun e => ⟨_, rfl, q _ o w1 c _ (.clnX hR e) (r1.same sN) (t1.mono (Tk.same sN)) (k1.trans (Kp.same sN))⟩) (fun e => ?_)
  have tk2 := tk1.trans (Tk.same sN)
  refine rMethW rfl ((r1.same sN)).ins rfl (rd_ixT (j := 2) rfl (tk2.sqT hT) rfl ⟨_, rfl, _, rfl, _, rfl, pWalkW (r1.same sN) (h2.mono tk2) (tm.mono tk2) (pre.next hC (by intro z; subst z; cases e) hI wb (by show s2.dep + 1 ≤ max s1.dep s2.dep + 1; omega) (by show s1.len + s2.len ≤ s1.len + 2 + s2.len + 1; omega)) trivial fun v2 o2 w2 c2 H3 hR2 hC2 hI2 hO2 r3 t3 k3 tk3 => ?_⟩)
  obtain ⟨fa, fr, rfl, hF, _⟩ := Out.tup t3
  have kZ := (k1.trans (Kp.same sN)).trans k3
  have fin := Rn.cln hR e hR2
  by_cases ho : o2 = .on
  · subst ho
    exact r_ifT (pb_is (pb_on T (i := 6) rfl t3) rfl) ⟨_, rfl, q _ o w2 _ H3 fin r3 (t1.mono ((Tk.same sN).trans tk3)) kZ⟩
  · rw [if_neg ho] at fin
    exact r_ifF (pb_is (pb_on T (i := 6) rfl t3) (decide_eq_false ho)) ⟨_, rfl, q _ o2 w2 _ H3 fin r3 t3 kZ⟩
abbrev N_loopW : List Str := ["self", "one", "slots", "met", "depth", "end"]
theorem rd_loopW (T : WkTxt K C on) {n : Nat} (vs : List V) (H : Hp) (Q : VK) (E : XK) (h : spWalkW K C QWhl (n + 1) vs H Q E) : t_Walker_looped K (spVal K 5) C (spCountW K C) (spWalkW K C QAny n) on { nx := fun _ H' => Q .non H', rt := Q } (start N_loopW vs) H := by
  obtain ⟨p, dp, rn, tl, sl, pv, v, mv, w, d, met, s, turn, hand, rfl, rs, tv, tm, pre, ⟨e, s1, rfl⟩, q⟩ := h.ex
  obtain ⟨a, x0, x1, x2, rfl, hT, h0, h1, h2⟩ := tv.tup3
  obtain ⟨⟨we, de⟩, wa⟩ : (e.Wf ∧ e.dep ≤ 5) ∧ s1.Wf p.cs p.kinds.length true hand := pre.wf
  refine ⟨fun m σ H' => ∃ (w1 : WSt) (v5 : Option V), σ = [some (.ref rn), some (.ref a), some (.ref sl), some mv, some (.int (d : Int)), v5] ∧ m = w1.left.toNat ∧ WkSt K C p dp H' rn tl sl pv w1 ∧ Kp (B3 rn tl sl) H H' ∧ WPre p dp (n + 1) d met turn hand (.whl e s1) w1 ∧ (∀ o w2 c2, Rn p dp d met (.whl e s1) w1 o w2 c2 → ∃ c3, Rn p dp d met (.whl e s1) w o w2 c3),
    ⟨_, w, _, rfl, rfl, rs, Kp.refl _ _, pre, fun o w2 c2 h => ⟨_, h⟩⟩, ?_⟩
  rintro m σ H1 ⟨w1, v5, rfl, rfl, r1, k1, pre1, cont⟩
  have tk1 := rs.tk k1
  refine rd_ixT (j := 1) rfl (tk1.sqT hT) rfl ⟨_, rfl, x1, sl, e, w1.σ, rfl, h1.mono tk1, we, de, SqL.of r1.slo, pre1.inr, rfl, _, rfl, ?_⟩
  by_cases hz : e.val w1.σ = 0
  · refine ifF (by rw [hz]; rfl) ?_
    obtain ⟨c3, fin⟩ := cont _ _ _ (.whl0 hz)
    exact q _ .on w1 c3 _ fin r1 (T.on _) k1
  refine ifT (by rw [decide_eq_false (fun z => hz (V.int.inj z))]; rfl) ⟨fun σ H' => ∃ m', m' < w1.left.toNat ∧ ∃ (w1 : WSt) (v5 : Option V), σ = [some (.ref rn), some (.ref a), some (.ref sl), some mv, some (.int (d : Int)), v5] ∧ m' = w1.left.toNat ∧ WkSt K C p dp H' rn tl sl pv w1 ∧ Kp (B3 rn tl sl) H H' ∧ WPre p dp (n + 1) d met turn hand (.whl e s1) w1 ∧ (∀ o w2 c2, Rn p dp d met (.whl e s1) w1 o w2 c2 → ∃ c3, Rn p dp d met (.whl e s1) w o w2 c3), fun σ' H' h => h, ?_⟩
  refine rMethW rfl r1.ins rfl ⟨p, dp, rn, tl, sl, pv, w1, rfl, r1, _, rfl, ?_⟩
  have rc := r1.count (i := w1.left - 1)
  have kc : Kp (B3 rn tl sl) H (L2.upd H1 rn (.ins C pv.dx (wfs pv (w1.left - 1) dp tl))) := k1.trans (Kp.upd (.inl rfl))
  generalize L2.upd H1 rn (.ins C pv.dx (wfs pv (w1.left - 1) dp tl)) = H2 at rc kc ⊢
  by_cases hl : 0 < w1.left
  · refine ifF (by rw [decide_eq_true (by omega)]; rfl) ?_
    have tk2 := rs.tk kc
    have preB : WPre p dp (n + 1) d met turn hand (.whl e s1) { w1 with left := w1.left - 1 } :=
      ⟨pre1.pw, pre1.wf, pre1.inr, pre1.mok, pre1.mfew, pre1.ddp, pre1.dps, pre1.dep, pre1.len, by show 0 ≤ w1.left - 1; omega, by have := pre1.bud; show (w1.told.length : Int) + _ + 2000 * (w1.left - 1 + 1) ≤ _; omega⟩
    refine rMethW rfl (rc).ins rfl (rd_ixT (j := 2) rfl (tk2.sqT hT) rfl ⟨_, rfl, _, rfl, _, rfl, pWalkW rc (h2.mono tk2) (tm.mono tk2) (preB.first (t := s1) (turn' := true) wa (by show s1.dep + 1 ≤ s1.dep + 1; omega) (by show s1.len ≤ e.len + 2 + s1.len + 1; omega)) trivial fun v2 o w2 c2 H3 hR hC hI hO r3 t3 k3 tk3 => ?_⟩)
    obtain ⟨ea, er, rfl, hE, _⟩ := Out.tup t3
    have k03 := kc.trans k3
    by_cases hb : o = .brk
    · subst hb
      refine r_ifT (pb_is (pb_w (i := 5) rfl hE rfl) rfl) ?_
      obtain ⟨c3, fin⟩ := cont _ _ _ (.whlB hz hl hR)
      exact q _ .on w2 c3 _ fin r3 (T.on _) k03
    · refine r_ifF (pb_is (pb_w (i := 5) rfl hE rfl) (by cases o <;> first | rfl | exact absurd rfl hb)) ?_
      by_cases hg : o = .on ∨ o = .cnt
      · refine r_ifF (pb_is (pb_and (pb_onN T (i := 5) rfl t3) (pb_wN (i := 5) rfl hE rfl)) (by rcases hg with z | z <;> subst z <;> rfl)) ?_
        obtain ⟨a1, a2, a3, a4⟩ := hC
        replace a1 : (c2 : Int) ≤ s1.len + 2000 * ((w1.left - 1) - w2.left) := a1
        replace a2 : w2.left ≤ w1.left - 1 := a2
        replace a4 : w2.told.length ≤ w1.told.length + c2 := a4
        have l0 : 0 ≤ w2.left := a3.elim id fun z => by subst z; rcases hg with z | z <;> cases z
        have lw : s1.len ≤ 1900 := by have h9 : e.len + 2 + s1.len + 1 ≤ 1900 := pre1.len; omega
        refine ⟨w2.left.toNat, by omega, w2, _, rfl, rfl, r3, k03, ⟨pre1.pw, pre1.wf, hI, pre1.mok, pre1.mfew, pre1.ddp, pre1.dps, pre1.dep, pre1.len, l0, by have := pre1.bud; omega⟩, fun o' w3 c3 h => cont _ _ _ (.whlN hz hl hR hg h)⟩
      · refine r_ifT (pb_is (pb_and (pb_onN T (i := 5) rfl t3) (pb_wN (i := 5) rfl hE rfl)) (by cases o <;> first | rfl | exact absurd (.inl rfl) hg | exact absurd (.inr rfl) hg)) ⟨_, rfl, ?_⟩
        obtain ⟨c3, fin⟩ := cont _ _ _ (.whlX hz hl hR (fun z => hg (.inl z)) (fun z => hg (.inr z)) hb)
        exact q _ o w2 c3 _ fin r3 t3 k03
  · refine ifT (by rw [decide_eq_false (by omega)]; rfl) ⟨(by show 1 ≤ sizeLine; decide), fun p1 hp1 => ?_⟩
    obtain ⟨c3, fin⟩ := cont _ _ _ (.whlD hz (by omega))
    exact q _ .dry _ c3 _ fin (rc.same (Same.new hp1)) (Tp.mk hp1 (.cons (.str _) .nil)) (kc.trans (Kp.new hp1))
end
end Lp

/-! LvC: the program's walk: tried, called, call, does. -/
namespace Lp
open PySem PySem.Spec PyProof.Rows L2
def t_Walker_tried (K : PySem.W.Frag) (C_Walker : Addr) (sp_Walker_does : Sp) (sp_meets : Sp) : TS :=
  tSeq (tAsg (tMeth C_Walker "does" sp_Walker_does [] E0 (tVar 0) (tCons (tOp (rIxT K) (tVar 1) (tC (.int 1))) (tCons (tVar 2) (tCons (tVar 3) (tCons (tVar 4) (tNil)))))) (gName 5)) (tSeq (tIfS (tTest (tOp rNe (tOp (rIxT K) (tVar 5) (tC (.int 0))) (tC (.str "fault")))) (tRet (tVar 5)) (tNext)) (tSeq (tFor (iTup K (tOp (rIxT K) (tVar 1) (tC (.int 2)))) (gName 6) (tIfS (tB (tCall sp_meets [] E0 (tCons (tFld K (tVar 0) "kinds") (tCons (tOp (rIxT K) (tVar 6) (tC (.int 0))) (tCons (tOp (rIxT K) (tVar 5) (tC (.int 1))) (tNil)))))) (tSeq (tDrop (tBM K "list" rAppend (tFld K (tVar 0) "told") (tCons (tTup (tCons (tC (.str "met")) (tCons (tOp (rIxT K) (tVar 5) (tC (.int 1))) (tCons (tOp (rIxT K) (tVar 5) (tC (.int 2))) (tCons (tOp (rIxT K) (tVar 5) (tC (.int 3))) (tNil)))))) (tNil)))) (tSeq (tAsg (tOp (rIxT K) (tVar 5) (tC (.int 2))) (gSub (tVar 2) (tOp (rIxT K) (tVar 6) (tC (.int 1))) rSetL)) (tRet (tMeth C_Walker "does" sp_Walker_does [] E0 (tVar 0) (tCons (tOp (rIxT K) (tVar 6) (tC (.int 2))) (tCons (tVar 2) (tCons (tOp (rCatA K) (tVar 3) (tTup (tCons (tVar 5) (tNil)))) (tCons (tVar 4) (tNil))))))))) (tNext))) (tRet (tVar 5))))

section
variable {K : PySem.W.Frag} {C on : Addr}
abbrev N_triedW : List Str := ["self", "one", "slots", "met", "depth", "end", "handler"]
theorem rd_triedW (T : WkTxt K C on) {n : Nat} (vs : List V) (H : Hp) (Q : VK) (E : XK) (h : spWalkW K C QTri (n + 1) vs H Q E) : t_Walker_tried K C (spWalkW K C QAny n) (spMeets K) { nx := fun _ H' => Q .non H', rt := Q } (start N_triedW vs) H := by
  obtain ⟨p, dp, rn, tl, sl, pv, v, mv, w, d, met, s, turn, hand, rfl, rs, tv, tm, pre, ⟨s1, hs, rfl⟩, q⟩ := h.ex
  obtain ⟨a, x0, x1, x2, rfl, hT, h0, h1, h2⟩ := tv.tup3
  obtain ⟨ha, hxs, rfl, hHs, ths⟩ := h2.tupE
  obtain ⟨wa, wb⟩ : s1.Wf p.cs p.kinds.length turn hand ∧ hs.Wf p.cs p.kinds.length turn := pre.wf
  have hlen : s1.len + 1 + hs.len ≤ 1900 := pre.len
  refine rMethW rfl (rs).ins rfl (rd_ixT (j := 1) rfl hT rfl ⟨_, rfl, _, rfl, _, rfl, pWalkW rs h1 tm (pre.first wa (by show s1.dep + 1 ≤ max s1.dep hs.dep + 1; omega) (by show s1.len ≤ s1.len + 1 + hs.len; omega)) trivial fun v1 o w1 c H1 hR hC hI hO r1 t1 k1 tk1 => ?_⟩)
  obtain ⟨ea, er, rfl, hE, _⟩ := Out.tup t1
  by_cases hf : o.isFlt = true
  case neg =>
    have hf' : o.isFlt = false := by simpa using hf
    exact r_ifT (pb_is (pb_wN (i := 5) rfl hE rfl) (by cases o <;> first | rfl | exact absurd rfl hf)) ⟨_, rfl, q _ o w1 _ _ (.tri hR hf') r1 t1 k1⟩
  cases o with
  | on | brk | cnt | ret | dry | deep => cases hf
  | flt f =>
    refine r_ifF (pb_is (pb_wN (i := 5) rfl hE rfl) rfl) ?_
    obtain ⟨ea', e0, e1, e2, e3, z, hE', u0, u1, u2, u3⟩ := Tp.tup4 (show Tp K H1 (.ref ea) (.tuple [.str "fault", .int (f.k : Int), .int f.v, .tuple (f.tr.map .int)]) from t1)
    cases z
    cases u0.strE; cases u1.intE; cases u2.intE
    obtain ⟨fk, fv0, fv1, ftr⟩ : FltOk p.kinds.length dp d f := hO
    refine rd_ixT (j := 2) rfl (tk1.sqT hT) rfl ⟨ha, rfl, ⟨_, tk1.sqT hHs⟩, for_tup (K := K) (a := ha) (xs := hxs) (fun i σ H' => ∃ (r : Hds) (v6 : Option V) (off : Nat), σ = [some (.ref rn), some (.ref a), some (.ref sl), some mv, some (.int (d : Int)), some (.ref ea), v6] ∧ Same H1 H' ∧ TpAll K H (hxs.drop i) r.ds ∧
        hs.pick p.kinds f.k = (r.pick p.kinds f.k).map fun z => (z.1, z.2.1, z.2.2 + off))
      ⟨hs, _, 0, rfl, Same.refl _, by rw [List.drop_zero]; exact ths, by cases hs.pick p.kinds f.k <;> rfl⟩ (fun i σ H' _ ⟨_, _, _, _, s', _⟩ => s'.sqT (tk1.sqT hHs)) ?_ ?_⟩
    · rintro i x σ H2 hx ⟨r, v6, off, rfl, s2, tr, pk⟩
      obtain ⟨k, slt, tt, r', rfl, tx, tr'⟩ := hds_at tr hx
      have tk2 := tk1.trans (Tk.same s2)
      obtain ⟨y, y0, y1, y2, rfl, hY, z0, z1, z2⟩ := tx.tup3
      cases z1.intE
      obtain rfl := kindV_of z0
      have r2 := r1.same s2
      obtain ⟨ka, kxs, ekv, hK, hks⟩ := r2.kt.tupE
      obtain rfl := kinds_of hks
      refine ⟨_, rfl, rn, C, pv.dx, _, _, rfl, r2.ins, T.cl, T.kinds, rfl, rd_ixT (i := 6) (j := 0) rfl (tk2.sqT hY) rfl (rd_ixT (i := 5) (j := 1) rfl (s2.sqT hE') rfl ⟨ka, p.kinds, k, f.k, by rw [ekv]; rfl, hK, pre.pw.wf.kinds, fk, _, rfl, ?_⟩)⟩
      have s13 := s2
      have r3 := r2
      have tk3 := tk2
      rw [show (Hds.cons k slt tt r').pick p.kinds f.k = if takes p.kinds k f.k = true then some (slt, tt, 0) else (r'.pick p.kinds f.k).map fun z => (z.1, z.2.1, z.2.2 + (2 + tt.len + 2)) by rw [Hds.pick]] at pk
      refine ifB (fun ht => ?_) (fun ht => ?_)
      · rw [if_pos ht] at pk
        replace pk : hs.pick p.kinds f.k = some (slt, tt, 0 + off) := pk
        -- told
        obtain ⟨us, hus, lus, sayR⟩ : ∃ us, H2 tl = some (.lst us) ∧ us.length = w1.told.length ∧ True := by
          obtain ⟨us, h1, h2⟩ := r3.told
          exact ⟨us, h1, by rw [h2.length, List.length_map], trivial⟩
        refine ⟨_, rfl, rn, C, pv.dx, _, _, rfl, r3.ins, T.cl, T.told, rfl, .inl ⟨rfl, _, SqL.of hus⟩, rd_ixT (i := 5) (j := 1) rfl (s13.sqT hE') rfl (rd_ixT (i := 5) (j := 2) rfl (s13.sqT hE') rfl (rd_ixT (i := 5) (j := 3) rfl (s13.sqT hE') rfl ⟨(by show 4 ≤ sizeLine; decide), fun p4 hp4 => ?_⟩))⟩
        have s14 : Same H1 (L2.upd H2 p4 (.tup [.str "met", .int (f.k : Int), .int f.v, e3])) := s13.trans (Same.new hp4)
        have r4 := r3.same (Same.new (o := .tup [.str "met", .int (f.k : Int), .int f.v, e3]) hp4)
        have tev : Tp K (L2.upd H2 p4 (.tup [.str "met", .int (f.k : Int), .int f.v, e3])) (.ref p4) (Ev.met f).d := Tp.mk hp4 (.cons (.str _) (.cons (.int _) (.cons (.int _) (.cons (u3.mono (Tk.same s13)) .nil))))
        generalize L2.upd H2 p4 (.tup [.str "met", .int (f.k : Int), .int f.v, e3]) = H4 at s14 r4 tev ⊢
        obtain ⟨us4, hus4, lus4, r5⟩ := r4.say tev
        have tb : w1.told.length < 1000000 := by
          obtain ⟨a1, a2, a3, a4⟩ := hC
          have hb := pre.bud
          have hb' : (w.told.length : Int) + (s1.len + 1 + hs.len : Nat) + 2000 * (w.left + 1) ≤ 500000 := hb
          have a30 : 0 ≤ w1.left := a3.elim id fun z => by cases z
          omega
        refine ⟨tl, us4, _, rfl, rfl, hus4, sz_lt1 (by omega), ?_⟩
        have tk45 : Tk H4 (L2.upd H4 tl (.lst (us4 ++ [.ref p4]))) := Tk.lst hus4
        have k45 : Kp (B3 rn tl sl) H4 (L2.upd H4 tl (.lst (us4 ++ [.ref p4]))) := Kp.upd (.inr (.inl rfl))
        generalize L2.upd H4 tl (.lst (us4 ++ [.ref p4])) = H5 at r5 tk45 k45 ⊢
        have tk15 := (Tk.same s14).trans tk45
        -- the slot
        have wz : slt < 8 ∧ tt.Wf p.cs p.kinds.length turn true := by
          have := Hds.pick_wf wb pk
          exact this
        have lz := Hds.pick_len pk
        have dz := Hds.pick_dep pk
        replace lz : (0 + off) + 2 + tt.len + 2 ≤ hs.len := lz
        replace dz : tt.dep ≤ hs.dep := dz
        refine rd_ixT (i := 5) (j := 2) rfl (tk15.sqT hE') rfl ⟨_, rfl, rd_ixT (i := 6) (j := 1) rfl ((tk1.trans tk15).sqT hY) rfl ⟨sl, _, (slt : Int), slt, rfl, rfl, r5.slo, ixN_n (by rw [List.length_map]; have := hI.1; show slt < w1.σ.length; omega), ?_⟩⟩
        have r6 := r5.set (k := slt) (i := f.v)
        have k56 : Kp (B3 rn tl sl) H5 (L2.upd H5 sl (.lst ((w1.σ.map V.int).set slt (.int f.v)))) := Kp.upd (.inr (.inr rfl))
        have tk56 : Tk H5 (L2.upd H5 sl (.lst ((w1.σ.map V.int).set slt (.int f.v)))) := Tk.lst r5.slo
        generalize L2.upd H5 sl (.lst ((w1.σ.map V.int).set slt (.int f.v))) = H6 at r6 k56 tk56 ⊢
        have tk16 := tk15.trans tk56
        have tkH6 := tk1.trans tk16
        refine rMethW rfl r6.ins rfl (rd_ixT (i := 6) (j := 2) rfl (tkH6.sqT hY) rfl ⟨_, rfl, _, rfl, _, rfl, (by show 1 ≤ sizeLine; decide), fun p7 hp7 => ?_⟩)
        refine catA_tp (ds := met.map Flt.d) (es := [f.d]) ((tm.mono tkH6).mono (Tk.new hp7)) (Tp.mk hp7 (.cons (t1.mono tk16) .nil)) (by rw [List.length_map]; have := pre.mfew; simp; omega) fun mv2 H8 tm2 s8 => ?_
        have s68 : Same H6 H8 := (Same.new hp7).trans s8
        have tkH8 := tkH6.trans (Tk.same s68)
        rw [show met.map Flt.d ++ [f.d] = (met ++ [f]).map Flt.d by simp] at tm2
        have k08 : Kp (B3 rn tl sl) H H8 := (((k1.trans (Kp.same s14)).trans k45).trans k56).trans (Kp.same s68)
        have pre2 : WPre p dp n d (met ++ [f]) turn true tt { w1 with σ := w1.σ.set slt f.v, told := w1.told ++ [.met f] } := by
          obtain ⟨a1, a2, a3, a4⟩ := hC
          have a30 : 0 ≤ w1.left := a3.elim id fun z => by cases z
          have hb : (w.told.length : Int) + (s1.len + 1 + hs.len : Nat) + 2000 * (w.left + 1) ≤ 500000 := pre.bud
          have hdp : max s1.dep hs.dep + 1 + 6 * (dp - d) ≤ n + 1 := pre.dep
          have hmf : met.length + (max s1.dep hs.dep + 1) ≤ 100 := pre.mfew
          refine ⟨pre.pw, wz.2, hI.set ⟨fv0, fv1⟩, ⟨fun y hy => ?_, fun _ => by simp⟩, by simp; omega, pre.ddp, pre.dps, by omega, by omega, a30, by simp; omega⟩
          rcases List.mem_append.mp hy with z | z
          · exact pre.mok.1 y z
          · have : y = f := by simpa using z
            rw [this]; exact ⟨fk, fv0, fv1, ftr⟩
        refine ⟨_, rfl, pWalkW (r6.same s68) (z2.mono tkH8) tm2 pre2 trivial fun v9 o w2 c2 H9 hR2 hC2 hI2 hO2 r9 t9 k9 tk9 => ?_⟩
        exact q v9 o w2 _ H9 (.triC hR pk hR2) r9 t9 (k08.trans k9)
      · rw [if_neg (by rw [ht]; decide)] at pk
        refine ⟨r', _, off + (2 + tt.len + 2), rfl, s13, tr', ?_⟩
        rw [pk]
        cases r'.pick p.kinds f.k with
        | none => rfl
        | some z => simp only [Option.map_some]; rw [Nat.add_assoc, Nat.add_comm (2 + tt.len + 2) off]
    · rintro σ H2 ⟨r, v6, off, rfl, s2, tr, pk⟩
      cases hds_end tr
      exact ⟨_, rfl, q _ (.flt f) w1 c _ (.triX hR pk) (r1.same s2) (t1.mono (Tk.same s2)) (k1.trans (Kp.same s2))⟩
end
end Lp

/-! LvD: the program's walk: called, call, does. -/
namespace Lp
open PySem PySem.Spec PyProof.Rows L2
def t_slots_for (K : PySem.W.Frag) : TS :=
  tRet (tOp rCat (tCB (rLstOf K) (tCons (tVar 0) (tNil))) (tLc (iRng1 (tCons (tOp rSbI (tC (.int 8)) (tCB (rLenQ K) (tCons (tVar 0) (tNil)))) (tNil))) (gName 1) (tYes) (tC (.int 0)) [1]))

def t_Walker_called (K : PySem.W.Frag) (C_Walker : Addr) (sp_Walker_does : Sp) (sp_slots_for : Sp) (ad_ON : Addr) : TS :=
  tSeq (tAsg (tMeth C_Walker "does" sp_Walker_does [] E0 (tVar 0) (tCons (tOp (rIxT K) (tOp (rIxT K) (tFld K (tVar 0) "functions") (tVar 1)) (tC (.int 1))) (tCons (tCall sp_slots_for [] E0 (tCons (tVar 2) (tNil))) (tCons (tTup (tNil)) (tCons (tVar 3) (tNil)))))) (gName 4)) (tSeq (tIfS (tTest (tOp (rEqD K) (tVar 4) (tC (.ref ad_ON)))) (tRet (tTup (tCons (tC (.str "return")) (tCons (tC (.int 0)) (tNil))))) (tNext)) (tRet (tVar 4)))

def t_Walker_call (K : PySem.W.Frag) (sp_value_of : Sp) (C_Walker : Addr) (sp_Walker_counted : Sp) (sp_Walker_called : Sp) (ad_ON : Addr) : TS :=
  tSeq (tAsg (tLc (iTup K (tOp (rIxT K) (tVar 1) (tC (.int 3)))) (gName 5) (tYes) (tCall sp_value_of [] E0 (tCons (tVar 5) (tCons (tVar 2) (tNil)))) [5]) (gName 4)) (tSeq (tIfS (tNot (tB (tMeth C_Walker "counted" sp_Walker_counted [] E0 (tVar 0) tNil))) (tRet (tTup (tCons (tC (.str "dry")) (tNil)))) (tNext)) (tSeq (tIfS (tTest (tOp rEq (tVar 3) (tFld K (tVar 0) "deep"))) (tRet (tTup (tCons (tC (.str "deep")) (tNil)))) (tNext)) (tSeq (tAsg (tMeth C_Walker "called" sp_Walker_called [] E0 (tVar 0) (tCons (tOp (rIxT K) (tVar 1) (tC (.int 2))) (tCons (tVar 4) (tCons (tOp rAdI (tVar 3) (tC (.int 1))) (tNil))))) (gName 6)) (tSeq (tIfS (tTest (tOp rEq (tOp (rIxT K) (tVar 6) (tC (.int 0))) (tC (.str "return")))) (tSeq (tAsg (tOp (rIxT K) (tVar 6) (tC (.int 1))) (gSub (tVar 2) (tOp (rIxT K) (tVar 1) (tC (.int 1))) rSetL)) (tRet (tC (.ref ad_ON)))) (tNext)) (tSeq (tIfS (tTest (tOp rEq (tOp (rIxT K) (tVar 6) (tC (.int 0))) (tC (.str "fault")))) (tRet (tTup (tCons (tC (.str "fault")) (tCons (tOp (rIxT K) (tVar 6) (tC (.int 1))) (tCons (tOp (rIxT K) (tVar 6) (tC (.int 2))) (tCons (tOp (rCatA K) (tOp (rIxT K) (tVar 6) (tC (.int 3))) (tTup (tCons (tOp (rIxT K) (tVar 1) (tC (.int 4))) (tNil)))) (tNil))))))) (tNext)) (tRet (tVar 6)))))))

def t_Walker_does (K : PySem.W.Frag) (sp_value_of : Sp) (ad_ON : Addr) (C_Walker : Addr) (sp_Walker_row : Sp) (sp_Walker_does : Sp) (sp_Walker_looped : Sp) (sp_Walker_call : Sp) (sp_Walker_tried : Sp) (sp_Walker_cleaned : Sp) : TS :=
  tSeq (tAsg (tOp (rIxT K) (tVar 1) (tC (.int 0))) (gName 5)) (tSeq (tIfS (tTest (tOp rEq (tVar 5) (tC (.str "say")))) (tSeq (tDrop (tBM K "list" rAppend (tFld K (tVar 0) "told") (tCons (tTup (tCons (tC (.str "say")) (tCons (tCall sp_value_of [] E0 (tCons (tOp (rIxT K) (tVar 1) (tC (.int 1))) (tCons (tVar 2) (tNil)))) (tNil)))) (tNil)))) (tRet (tC (.ref ad_ON)))) (tNext)) (tSeq (tIfS (tTest (tOp rEq (tVar 5) (tC (.str "set")))) (tSeq (tAsg (tCall sp_value_of [] E0 (tCons (tOp (rIxT K) (tVar 1) (tC (.int 2))) (tCons (tVar 2) (tNil)))) (gSub (tVar 2) (tOp (rIxT K) (tVar 1) (tC (.int 1))) rSetL)) (tRet (tC (.ref ad_ON)))) (tNext)) (tSeq (tIfS (tTest (tOp rEq (tVar 5) (tC (.str "row")))) (tRet (tMeth C_Walker "row" sp_Walker_row [] E0 (tVar 0) (tCons (tOp (rIxT K) (tVar 1) (tC (.int 1))) (tCons (tVar 2) (tCons (tVar 3) (tCons (tVar 4) (tNil))))))) (tNext)) (tSeq (tIfS (tTest (tOp rEq (tVar 5) (tC (.str "if")))) (tSeq (tIfS (tTest (tOp rNe (tCall sp_value_of [] E0 (tCons (tOp (rIxT K) (tVar 1) (tC (.int 1))) (tCons (tVar 2) (tNil)))) (tC (.int 0)))) (tRet (tMeth C_Walker "does" sp_Walker_does [] E0 (tVar 0) (tCons (tOp (rIxT K) (tVar 1) (tC (.int 2))) (tCons (tVar 2) (tCons (tVar 3) (tCons (tVar 4) (tNil))))))) (tNext)) (tRet (tMeth C_Walker "does" sp_Walker_does [] E0 (tVar 0) (tCons (tOp (rIxT K) (tVar 1) (tC (.int 3))) (tCons (tVar 2) (tCons (tVar 3) (tCons (tVar 4) (tNil)))))))) (tNext)) (tSeq (tIfS (tTest (tOp rEq (tVar 5) (tC (.str "while")))) (tRet (tMeth C_Walker "looped" sp_Walker_looped [] E0 (tVar 0) (tCons (tVar 1) (tCons (tVar 2) (tCons (tVar 3) (tCons (tVar 4) (tNil))))))) (tNext)) (tSeq (tIfS (tTest (tOp rEq (tVar 5) (tC (.str "return")))) (tRet (tTup (tCons (tC (.str "return")) (tCons (tCall sp_value_of [] E0 (tCons (tOp (rIxT K) (tVar 1) (tC (.int 1))) (tCons (tVar 2) (tNil)))) (tNil))))) (tNext)) (tSeq (tIfS (tTest (tOp rEq (tVar 5) (tC (.str "raise")))) (tRet (tTup (tCons (tC (.str "fault")) (tCons (tOp (rIxT K) (tVar 1) (tC (.int 1))) (tCons (tCall sp_value_of [] E0 (tCons (tOp (rIxT K) (tVar 1) (tC (.int 2))) (tCons (tVar 2) (tNil)))) (tCons (tTup (tCons (tOp (rIxT K) (tVar 1) (tC (.int 3))) (tNil))) (tNil))))))) (tNext)) (tSeq (tIfS (tTest (tOp rEq (tVar 5) (tC (.str "again")))) (tRet (tOp (rIxT K) (tVar 3) (tUn rNeg (tC (.int 1))))) (tNext)) (tSeq (tIfS (tTest (tOp rEq (tVar 5) (tC (.str "call")))) (tRet (tMeth C_Walker "call" sp_Walker_call [] E0 (tVar 0) (tCons (tVar 1) (tCons (tVar 2) (tCons (tVar 4) (tNil)))))) (tNext)) (tSeq (tIfS (tTest (tOp rEq (tVar 5) (tC (.str "try")))) (tRet (tMeth C_Walker "tried" sp_Walker_tried [] E0 (tVar 0) (tCons (tVar 1) (tCons (tVar 2) (tCons (tVar 3) (tCons (tVar 4) (tNil))))))) (tNext)) (tSeq (tIfS (tTest (tOp rEq (tVar 5) (tC (.str "clean")))) (tRet (tMeth C_Walker "cleaned" sp_Walker_cleaned [] E0 (tVar 0) (tCons (tVar 1) (tCons (tVar 2) (tCons (tVar 3) (tCons (tVar 4) (tNil))))))) (tNext)) (tRet (tVar 1)))))))))))))

section
variable {K : PySem.W.Frag} {C on : Addr}
def spSlots (K : PySem.W.Frag) : Sp := fun vs H Q _ => ∃ (nl : Addr) (ns : List Int), vs = [.ref nl] ∧ H nl = some (.lst (ns.map V.int)) ∧ ns.length ≤ 3 ∧ ∀ (r : Addr) (H' : Hp), H r = none → H' r = some (.lst ((slotsFor ns).map V.int)) → Same H H' → Q (.ref r) H'
theorem rd_slots_for (vs : List V) (H : Hp) (Q : VK) (E : XK) (h : spSlots K vs H Q E) : t_slots_for K { nx := fun _ H' => Q .non H', rt := Q } (start ["numbers", "k"] vs) H := by
  obtain ⟨nl, ns, rfl, hn, hl, q⟩ := h
  refine ⟨_, rfl, nl, _, rfl, .inl (SqL.of hn), fun l1 hl1 => ?_⟩
  have s1 : Same H (L2.upd H l1 (.lst (ns.map V.int))) := Same.new hl1
  have hl1' : L2.upd H l1 (.lst (ns.map V.int)) l1 = some (.lst (ns.map V.int)) := upd_same
  generalize L2.upd H l1 (.lst (ns.map V.int)) = H1 at s1 hl1' ⊢
  refine ⟨_, rfl, nl, _, rfl, .inl (SqL.of (s1 _ _ hn)), _, _, rfl, rfl, _, rfl, by rw [List.length_map]; omega, by rw [List.length_map]; omega, fun D hD => lc_range (lo := 0) (n := (8 - ((ns.map V.int).length : Int)).toNat) (fun i H' => H' D = some (.lst (((List.range i).map fun _ => (0 : Int)).map V.int)) ∧ Same H1 H')
    ⟨upd_same, Same.new hD⟩ ?_ ?_⟩
  · rintro i H2 hi ⟨hv, s2⟩
    have hi8 : i < 8 := by rw [List.length_map] at hi; omega
    refine ⟨rfl, _, hv, sz_lt1 (by simp; omega), ?_, fun b o e => by rw [upd_ne (ne_of_none e hD)]; exact s2 b o e⟩
    rw [upd_same, List.range_succ, List.map_append, List.map_append]; rfl
  · rintro H2 ⟨hv, s2⟩
    have e8 : (8 - ((ns.map V.int).length : Int)).toNat = 8 - ns.length := by rw [List.length_map]; omega
    rw [e8] at hv
    refine cat_new (K := K) (ds := ns.map .int) (es := ((List.range (8 - ns.length)).map fun _ => (0 : Int)).map .int) (s2 _ _ hl1') hv (tp_ints _) (tp_ints _) (by simp; omega) fun r us H3 hr hus t3 s3 => ?_
    rw [← List.map_append, slots_eq] at t3
    obtain rfl := ints_of t3
    exact q r H3 ((s1.trans s2).free hr) hus ((s1.trans s2).trans s3)
structure CalledPW (K : PySem.W.Frag) (C : Addr) (n : Nat) (vs : List V) (H : Hp) (Q : VK) : Prop where
  ex : ∃ (p : Pg) (dp : Nat) (rn tl sl : Addr) (pv : WV) (w : WSt) (d f : Nat) (fn : Nat × Sm) (ns : List Int) (nl : Addr), vs = [.ref rn, .int (f : Int), .ref nl, .int (d : Int)] ∧ WkSt K C p dp H rn tl sl pv w ∧ H nl = some (.lst (ns.map V.int)) ∧ ns.length ≤ 3 ∧ p.funs[f]? = some fn ∧ WPre p dp n d [] false false fn.2 ⟨slotsFor ns, w.left, w.told⟩ ∧
    ∀ (v' : V) (o : Out) (w1 : WSt) (c : Nat) (H' : Hp), Rn p dp d [] fn.2 ⟨slotsFor ns, w.left, w.told⟩ o w1 c → OutOk p.kinds.length dp d false o → WkSt K C p dp H' rn tl sl pv ⟨w.σ, w1.left, w1.told⟩ → Tp K H' v' (calledEnd o).d → Kp (B3 rn tl sl) H H' → Q v' H'
def spCalledW (K : PySem.W.Frag) (C : Addr) (n : Nat) : Sp := fun vs H Q _ => CalledPW K C n vs H Q
theorem rd_calledW (T : WkTxt K C on) {n : Nat} (vs : List V) (H : Hp) (Q : VK) (E : XK) (h : spCalledW K C n vs H Q E) : t_Walker_called K C (spWalkW K C QAny n) (spSlots K) on { nx := fun _ H' => Q .non H', rt := Q } (start ["self", "number", "numbers", "depth", "end"] vs) H := by
  obtain ⟨p, dp, rn, tl, sl, pv, w, d, f, fn, ns, nl, rfl, rs, hn, hl, hf, pre, q⟩ := h.ex
  have rH : H rn ≠ none := by rw [rs.ins]; simp
  have tH : H tl ≠ none := by obtain ⟨us, h1, _⟩ := rs.told; rw [h1]; simp
  have sH : H sl ≠ none := by rw [rs.slo]; simp
  obtain ⟨fa, fxs, efv, hF, tfs⟩ := rs.ft.tupE
  obtain ⟨fx, hfx, tfx⟩ := tfs.get' (d := funD fn) (by rw [List.getElem?_map, hf]; rfl)
  obtain ⟨fxa, y0, y1, rfl, hX, z0, z1⟩ := Tp.tup2 (show Tp K H fx (.tuple [.int (fn.1 : Int), fn.2.d]) from tfx)
  refine rMethW rfl rs.ins rfl ⟨_, rfl, rn, C, pv.dx, _, _, rfl, rs.ins, T.cl, T.functions, rfl, _, rfl, fa, fxs, (f : Int), _, efv, rfl, hF, atI_nat hfx, fxa, _, ((1 : Nat) : Int), _, rfl, rfl, hX, atI_nat rfl, _, rfl, nl, ns, rfl, hn, hl, fun r H3 hr0 hus s03 => ⟨(by show 0 ≤ sizeLine; decide), fun p1 hp1 => ⟨_, rfl, ?_⟩⟩⟩
  have r3 := rs.same s03
  have s4 : Same H3 (L2.upd H3 p1 (.tup [])) := Same.new hp1
  have tmt : Tp K (L2.upd H3 p1 (.tup [])) (.ref p1) (metD []) := Tp.mk hp1 .nil
  generalize L2.upd H3 p1 (.tup []) = H4 at s4 tmt ⊢
  have r4 := r3.same s4
  have rr : WkSt K C p dp H4 rn tl r pv ⟨slotsFor ns, w.left, w.told⟩ := ⟨r4.ins, r4.told, s4 _ _ hus, r4.kt, r4.ft, r4.n1, fun e => rH (by rw [e]; exact hr0), fun e => tH (by rw [e]; exact hr0)⟩
  refine pWalkW rr ((z1.mono (Tk.same s03)).mono (Tk.same s4)) tmt pre trivial fun v' o w1 c H5 hR hC hI hO r5 t5 k5 tk5 => ?_
  have slr : ¬ B3 rn tl r sl := by
    rintro (z | z | z)
    · exact rs.n2 z.symm
    · exact rs.n3 z.symm
    · exact sH (by rw [z]; exact hr0)
  have k05 : Kp (B3 rn tl sl) H H5 := fun a o' e nb => k5 _ _ (s4 _ _ (s03 _ _ e)) (by
    rintro (z | z | z)
    · exact nb (.inl z)
    · exact nb (.inr (.inl z))
    · rw [z] at e; rw [hr0] at e; cases e)
  have rZ : WkSt K C p dp H5 rn tl sl pv ⟨w.σ, w1.left, w1.told⟩ := ⟨r5.ins, r5.told, k5 _ _ r4.slo slr, r5.kt, r5.ft, rs.n1, rs.n2, rs.n3⟩
  by_cases ho : o = .on
  · subst ho
    refine r_ifT (pb_is (pb_on T (i := 4) rfl t5) rfl) ⟨(by show 2 ≤ sizeLine; decide), fun p2 hp2 => ?_⟩
    exact q _ .on w1 c _ hR hO (rZ.same (Same.new hp2)) (Tp.mk hp2 (.cons (.str _) (.cons (.int _) .nil))) (k05.trans (Kp.new hp2))
  · refine r_ifF (pb_is (pb_on T (i := 4) rfl t5) (decide_eq_false ho)) ⟨_, rfl, ?_⟩
    exact q _ o w1 c _ hR hO rZ (by rw [calledEnd, if_neg ho]; exact t5) k05
structure CallsPW (K : PySem.W.Frag) (C : Addr) (n : Nat) (vs : List V) (H : Hp) (Q : VK) : Prop where
  ex : ∃ (p : Pg) (dp : Nat) (rn tl sl : Addr) (pv : WV) (v : V) (w : WSt) (d : Nat) (met : List Flt) (k f : Nat) (ps : List Ex) (m : Int) (turn hand : Bool), vs = [.ref rn, v, .ref sl, .int (d : Int)] ∧ WkSt K C p dp H rn tl sl pv w ∧ Tp K H v (Sm.call k f ps m).d ∧ WPre p dp (n + 1) d met turn hand (.call k f ps m) w ∧
    ∀ (v' : V) (o : Out) (w1 : WSt) (c : Nat) (H' : Hp), Rn p dp d met (.call k f ps m) w o w1 c → WkSt K C p dp H' rn tl sl pv w1 → Tp K H' v' o.d → Kp (B3 rn tl sl) H H' → Q v' H'
def spCallW (K : PySem.W.Frag) (C : Addr) (n : Nat) : Sp := fun vs H Q _ => CallsPW K C n vs H Q
theorem pCalledW {n : Nat} {H : Hp} {Q : VK} {p : Pg} {dp : Nat} {rn tl sl : Addr} {pv : WV} {w : WSt} {d f : Nat} {fn : Nat × Sm} {ns : List Int} {nl : Addr} {di : Int} (hd : di = ((d : Nat) : Int)) (r : WkSt K C p dp H rn tl sl pv w) (hn : H nl = some (.lst (ns.map V.int))) (hl : ns.length ≤ 3) (hf : p.funs[f]? = some fn) (pre : WPre p dp n d [] false false fn.2 ⟨slotsFor ns, w.left, w.told⟩)
    (q : ∀ (v' : V) (o : Out) (w1 : WSt) (c : Nat) (H' : Hp), Rn p dp d [] fn.2 ⟨slotsFor ns, w.left, w.told⟩ o w1 c → OutOk p.kinds.length dp d false o → WkSt K C p dp H' rn tl sl pv ⟨w.σ, w1.left, w1.told⟩ → Tp K H' v' (calledEnd o).d → Kp (B3 rn tl sl) H H' → Q v' H') : spCalledW K C n [.ref rn, .int (f : Int), .ref nl, .int di] H Q E0 := by
  subst hd
  exact ⟨p, dp, rn, tl, sl, pv, w, d, f, fn, ns, nl, rfl, r, hn, hl, hf, pre, q⟩
abbrev N_callW : List Str := ["self", "one", "slots", "depth", "numbers", "part", "end"]
theorem rd_callW (T : WkTxt K C on) {n : Nat} (vs : List V) (H : Hp) (Q : VK) (E : XK) (h : spCallW K C n vs H Q E) : t_Walker_call K (spVal K 5) C (spCountW K C) (spCalledW K C n) on { nx := fun _ H' => Q .non H', rt := Q } (start N_callW vs) H := by
  obtain ⟨p, dp, rn, tl, sl, pv, v, w, d, met, k, f, ps, m, turn, hand, rfl, rs, tv, pre, q⟩ := h.ex
  obtain ⟨a, x0, x1, x2, x3, x4, rfl, hT, h0, h1, h2, h3, h4⟩ := tv.tup5
  cases h1.intE; cases h2.intE; cases h4.intE
  obtain ⟨pa, pxs, rfl, hP, hps⟩ := h3.tupE
  have lpx : pxs.length = ps.length := by rw [hps.length, List.length_map]
  obtain ⟨k8, hcs, lp, wps, m0, m1⟩ : k < 8 ∧ p.cs[f]? = some ps.length ∧ ps.length ≤ 3 ∧ (∀ e ∈ ps, e.Wf ∧ e.dep ≤ 5) ∧ 0 ≤ m ∧ m < 1000 := pre.wf
  obtain ⟨fn, hfn⟩ : ∃ fn, p.funs[f]? = some fn := by
    unfold Pg.cs at hcs
    rw [List.getElem?_map] at hcs
    cases e : p.funs[f]? with
    | none => rw [e] at hcs; cases hcs
    | some fn => exact ⟨fn, rfl⟩
  refine rd_ixT (j := 3) rfl hT rfl ⟨pa, rfl, ⟨_, hP⟩, fun D hD => lc_tup (K := K) (a := pa) (xs := pxs) (fun i H' => H' D = some (.lst (((ps.take i).map (Ex.val w.σ)).map V.int)) ∧ Same H H') ⟨upd_same, Same.new hD⟩ (fun i H' _ ⟨_, s'⟩ => s'.sqT hP) ?_ ?_⟩
  · rintro i x H1 hx ⟨hv, s1⟩
    obtain ⟨de, hde, te⟩ := hps.get hx
    rw [List.getElem?_map] at hde
    cases ee : ps[i]? with
    | none => rw [ee] at hde; cases hde
    | some e =>
      rw [ee] at hde
      obtain rfl : e.d = de := Option.some.inj hde
      obtain ⟨we, dd⟩ := wps e (List.mem_of_getElem? ee)
      refine ⟨rfl, _, rfl, _, rfl, x, sl, e, w.σ, rfl, te.mono (Tk.same s1), we, dd, SqL.of (s1 _ _ rs.slo), pre.inr, _, hv, sz_lt1 (by simp; omega), ?_, fun b o e => by rw [upd_ne (ne_of_none e hD)]; exact s1 b o e⟩
      rw [upd_same, List.take_succ, ee, List.map_append, List.map_append]; rfl
  rintro H1 ⟨hv, s1⟩
  rw [List.take_of_length_le (by omega)] at hv
  have r1 := rs.same s1
  refine rMethW rfl r1.ins rfl ⟨p, dp, rn, tl, sl, pv, w, rfl, r1, _, rfl, ?_⟩
  have rc := r1.count (i := w.left - 1)
  have nD : rn ≠ D := ne_of_none rs.ins hD
  have hv2 : L2.upd H1 rn (.ins C pv.dx (wfs pv (w.left - 1) dp tl)) D = some (.lst ((ps.map (Ex.val w.σ)).map V.int)) := by rw [upd_ne nD.symm]; exact hv
  have kc : Kp (B3 rn tl sl) H (L2.upd H1 rn (.ins C pv.dx (wfs pv (w.left - 1) dp tl))) := (Kp.same s1).trans (Kp.upd (.inl rfl))
  generalize L2.upd H1 rn (.ins C pv.dx (wfs pv (w.left - 1) dp tl)) = H2 at rc kc hv2 ⊢
  have tk2 := rs.tk kc
  by_cases hl : 0 < w.left
  case neg =>
    refine ifT (by rw [decide_eq_false (by omega)]; rfl) ⟨(by show 1 ≤ sizeLine; decide), fun p1 hp1 => ?_⟩
    exact q _ .dry _ _ _ (.callD (by omega)) (rc.same (Same.new hp1)) (Tp.mk hp1 (.cons (.str _) .nil)) (kc.trans (Kp.new hp1))
  refine ifF (by rw [decide_eq_true (by omega)]; rfl) ?_
  refine ⟨_, rfl, _, rfl, rn, C, pv.dx, _, _, rfl, rc.ins, T.cl, T.deep, rfl, rfl, _, rfl, ?_⟩
  by_cases hd : d = dp
  · subst hd
    refine ifT (dT rfl) ⟨(by show 1 ≤ sizeLine; decide), fun p1 hp1 => ?_⟩
    exact q _ .deep _ _ _ (.callP hl rfl) (rc.same (Same.new hp1)) (Tp.mk hp1 (.cons (.str _) .nil)) (kc.trans (Kp.new hp1))
  refine ifF (dF (fun z => hd (by have := V.int.inj z; omega))) ?_
  have hfm := List.mem_of_getElem? hfn
  have lenf := pre.pw.len fn hfm
  have preF : WPre p dp n (d + 1) [] false false fn.2 ⟨slotsFor (ps.map (Ex.val w.σ)), w.left - 1, w.told⟩ := by
    have hb : (w.told.length : Int) + (exsLen ps + 2 : Nat) + 2000 * (w.left + 1) ≤ 500000 := pre.bud
    have hdp : 1 + 6 * (dp - d) ≤ n + 1 := pre.dep
    have hdd := pre.ddp
    have depf := pre.pw.dep fn hfm
    refine ⟨pre.pw, pre.pw.wf.body fn hfm, slotsFor_in (by simp; omega) (fun y hy => ?_), ⟨(fun _ z => nomatch z), (fun z => nomatch z)⟩, by simp; omega, by omega, pre.dps, by omega, lenf, by show 0 ≤ w.left - 1; omega, by show (w.told.length : Int) + _ + 2000 * (w.left - 1 + 1) ≤ _; omega⟩
    obtain ⟨e, he, rfl⟩ := List.mem_map.mp hy
    exact Ex.val_in pre.inr (wps e he).1
  refine rMethW rfl rc.ins rfl (rd_ixT (j := 2) rfl (tk2.sqT hT) rfl ⟨_, rfl, _, rfl, _, _, rfl, rfl, pCalledW (d := d + 1) (by simp) rc hv2 (by simp; omega) hfn preF fun v' o w1 c H3 hR hO r3 t3 k3 => ?_⟩)
  have k03 := kc.trans k3
  have tk3 := rs.tk k03
  have fin := Rn.call (met := met) (k := k) (m := m) hl hd hfn hR
  obtain ⟨ea, er, rfl, hE, he⟩ := Out.tup t3
  cases o with
  | brk => cases hO
  | cnt => cases hO
  | on =>
    obtain ⟨e1, er', rfl, z1, _⟩ := TpAll.consE (show TpAll K H3 er [.int 0] from he)
    cases z1.intE
    refine r_ifT (pb_is (pb_w (i := 6) rfl hE rfl) rfl) (rd_ixT (i := 6) (j := 1) rfl hE rfl ⟨_, rfl, rd_ixT (j := 1) rfl (tk3.sqT hT) rfl ⟨sl, _, (k : Int), k, rfl, rfl, r3.slo, ixN_n (by rw [List.length_map]; have := pre.inr.1; show k < w.σ.length; omega), ?_⟩⟩)
    exact q _ .on _ _ _ fin (r3.set (k := k) (i := 0)) (T.on _) (k03.trans (Kp.upd (.inr (.inr rfl))))
  | ret i =>
    obtain ⟨e1, er', rfl, z1, _⟩ := TpAll.consE (show TpAll K H3 er [.int i] from he)
    cases z1.intE
    refine r_ifT (pb_is (pb_w (i := 6) rfl hE rfl) rfl) (rd_ixT (i := 6) (j := 1) rfl hE rfl ⟨_, rfl, rd_ixT (j := 1) rfl (tk3.sqT hT) rfl ⟨sl, _, (k : Int), k, rfl, rfl, r3.slo, ixN_n (by rw [List.length_map]; have := pre.inr.1; show k < w.σ.length; omega), ?_⟩⟩)
    exact q _ .on _ _ _ fin (r3.set (k := k) (i := i)) (T.on _) (k03.trans (Kp.upd (.inr (.inr rfl))))
  | flt g =>
    obtain ⟨e1, r1', rfl, z1, he⟩ := TpAll.consE (show TpAll K H3 er [.int (g.k : Int), .int g.v, .tuple (g.tr.map .int)] from he)
    obtain ⟨e2, r2', rfl, z2, he⟩ := TpAll.consE he
    obtain ⟨e3, r3', rfl, z3, he⟩ := TpAll.consE he
    cases he.nilE
    cases z1.intE; cases z2.intE
    refine r_ifF (pb_is (pb_w (i := 6) rfl hE rfl) rfl) (r_ifT (pb_is (pb_w (i := 6) rfl hE rfl) rfl) ?_)
    refine rd_ixT (i := 6) (j := 1) rfl hE rfl (rd_ixT (i := 6) (j := 2) rfl hE rfl (rd_ixT (i := 6) (j := 3) rfl hE rfl (rd_ixT (j := 4) rfl (tk3.sqT hT) rfl ⟨(by show 1 ≤ sizeLine; decide), fun p4 hp4 => ?_⟩)))
    refine catA_tp (ds := g.tr.map .int) (es := [.int m]) (z3.mono (Tk.new hp4)) (Tp.mk hp4 (.cons (.int _) .nil)) (by obtain ⟨_, _, _, hh⟩ := hO; have := pre.dps; simp; omega) fun tv2 H5 t5 s5 => ⟨(by show 4 ≤ sizeLine; decide), fun p6 hp6 => ?_⟩
    have s35 : Same H3 H5 := (Same.new hp4).trans s5
    rw [show g.tr.map PyData.int ++ [.int m] = (g.tr ++ [m]).map .int by simp] at t5
    exact q _ (.flt { g with tr := g.tr ++ [m] }) _ _ _ fin ((r3.same s35).same (Same.new hp6)) (Tp.mk hp6 (.cons (.str _) (.cons (.int _) (.cons (.int _) (.cons t5 .nil))))) ((k03.trans (Kp.same s35)).trans (Kp.new hp6))
  | dry =>
    exact r_ifF (pb_is (pb_w (i := 6) rfl hE rfl) rfl) (r_ifF (pb_is (pb_w (i := 6) rfl hE rfl) rfl) ⟨_, rfl, q _ .dry _ _ _ fin r3 t3 k03⟩)
  | deep =>
    exact r_ifF (pb_is (pb_w (i := 6) rfl hE rfl) rfl) (r_ifF (pb_is (pb_w (i := 6) rfl hE rfl) rfl) ⟨_, rfl, q _ .deep _ _ _ fin r3 t3 k03⟩)
abbrev N_doesW : List Str := ["self", "one", "slots", "met", "depth", "word"]
theorem rd_doesW (T : WkTxt K C on) {n : Nat} (vs : List V) (H : Hp) (Q : VK) (E : XK) (h : spWalkW K C QAny (n + 1) vs H Q E) : t_Walker_does K (spVal K 5) on C (spRowW K C n) (spWalkW K C QAny n) (spWalkW K C QWhl (n + 1)) (spCallW K C n) (spWalkW K C QTri (n + 1)) (spWalkW K C QCln (n + 1)) { nx := fun _ H' => Q .non H', rt := Q } (start N_doesW vs) H := by
  obtain ⟨p, dp, rn, tl, sl, pv, v, mv, w, d, met, s, turn, hand, rfl, rs, tv, tm, pre, _, q⟩ := h.ex
  have tb : w.told.length < 1000000 := by have := pre.bud; have := pre.left; omega
  cases s with
  | say e =>
    obtain ⟨a, x0, x1, rfl, hT, h0, h1⟩ := tv.tup2
    cases h0.strE
    obtain ⟨we, de⟩ : e.Wf ∧ e.dep ≤ 5 := pre.wf
    refine rd_ixT (j := 0) rfl hT rfl (r_ifT (pb_is (pb_eqS rfl) rfl) ?_)
    obtain ⟨us, hus, tus⟩ := rs.told
    refine ⟨_, rfl, rn, C, pv.dx, _, _, rfl, rs.ins, T.cl, T.told, rfl, .inl ⟨rfl, _, SqL.of hus⟩, rd_ixT (j := 1) rfl hT rfl ⟨_, rfl, x1, sl, e, w.σ, rfl, h1, we, de, SqL.of rs.slo, pre.inr, (by show 2 ≤ sizeLine; decide), fun p1 hp1 => ?_⟩⟩
    have r1 := rs.same (Same.new (o := .tup [.str "say", .int (e.val w.σ)]) hp1)
    obtain ⟨us1, hus1, lus1, r2⟩ := r1.say (e := .say (e.val w.σ)) (Tp.mk hp1 (.cons (.str _) (.cons (.int _) .nil)))
    refine ⟨tl, us1, _, rfl, rfl, hus1, sz_lt1 (by omega), ?_⟩
    exact q _ .on _ _ _ .say r2 (T.on _) ((Kp.new hp1).trans (Kp.upd (.inr (.inl rfl))))
  | set k e =>
    obtain ⟨a, x0, x1, x2, rfl, hT, h0, h1, h2⟩ := tv.tup3
    cases h0.strE; cases h1.intE
    obtain ⟨k8, we, de⟩ : k < 8 ∧ e.Wf ∧ e.dep ≤ 5 := pre.wf
    refine rd_ixT (j := 0) rfl hT rfl (r_ifF (pb_is (pb_eqS rfl) rfl) (r_ifT (pb_is (pb_eqS rfl) rfl) ?_))
    refine rd_ixT (j := 2) rfl hT rfl ⟨_, rfl, x2, sl, e, w.σ, rfl, h2, we, de, SqL.of rs.slo, pre.inr, _, rfl, rd_ixT (j := 1) rfl hT rfl ⟨sl, _, (k : Int), k, rfl, rfl, rs.slo, ixN_n (by rw [List.length_map]; have := pre.inr.1; omega), ?_⟩⟩
    exact q _ .on _ _ _ .set (rs.set (k := k) (i := e.val w.σ)) (T.on _) (Kp.upd (.inr (.inr rfl)))
  | row ps =>
    obtain ⟨a, x0, x1, rfl, hT, h0, h1⟩ := tv.tup2
    cases h0.strE
    refine rd_ixT (j := 0) rfl hT rfl (r_ifF (pb_is (pb_eqS rfl) rfl) (r_ifF (pb_is (pb_eqS rfl) rfl) (r_ifT (pb_is (pb_eqS rfl) rfl) ?_)))
    exact rMethW rfl rs.ins rfl (rd_ixT (j := 1) rfl hT rfl ⟨_, rfl, _, rfl, _, rfl, ⟨⟨p, dp, rn, tl, sl, pv, x1, mv, w, d, met, ps, turn, hand, rfl, rs, h1, tm, pre, fun v' o w1 c H' hR r' t' k' => q v' o w1 c H' (.row hR) r' t' k'⟩⟩⟩)
  | ife e s1 s2 =>
    obtain ⟨a, x0, x1, x2, x3, rfl, hT, h0, h1, h2, h3⟩ := tv.tup4
    cases h0.strE
    obtain ⟨⟨we, de⟩, wa, wb⟩ : (e.Wf ∧ e.dep ≤ 5) ∧ s1.Wf p.cs p.kinds.length turn hand ∧ s2.Wf p.cs p.kinds.length turn hand := pre.wf
    refine rd_ixT (j := 0) rfl hT rfl (r_ifF (pb_is (pb_eqS rfl) rfl) (r_ifF (pb_is (pb_eqS rfl) rfl) (r_ifF (pb_is (pb_eqS rfl) rfl) (r_ifT (pb_is (pb_eqS rfl) rfl) ?_))))
    refine rd_ixT (j := 1) rfl hT rfl ⟨_, rfl, x1, sl, e, w.σ, rfl, h1, we, de, SqL.of rs.slo, pre.inr, rfl, _, rfl, ?_⟩
    by_cases hz : e.val w.σ = 0
    · refine ifF (by rw [hz]; rfl) (rMethW rfl rs.ins rfl (rd_ixT (j := 3) rfl hT rfl ⟨_, rfl, _, rfl, _, rfl, pWalkW rs h3 tm (pre.first wb (by show s2.dep + 1 ≤ max s1.dep s2.dep + 1; omega) (by show s2.len ≤ e.len + 1 + s1.len + 1 + s2.len; omega)) trivial fun v' o w1 c H' hR _ _ _ r' t' k' _ => ?_⟩))
      exact q v' o w1 _ H' (.ifF hz hR) r' t' k'
    · refine ifT (by rw [decide_eq_false (fun z => hz (V.int.inj z))]; rfl) (rMethW rfl rs.ins rfl (rd_ixT (j := 2) rfl hT rfl ⟨_, rfl, _, rfl, _, rfl, pWalkW rs h2 tm (pre.first wa (by show s1.dep + 1 ≤ max s1.dep s2.dep + 1; omega) (by show s1.len ≤ e.len + 1 + s1.len + 1 + s2.len; omega)) trivial fun v' o w1 c H' hR _ _ _ r' t' k' _ => ?_⟩))
      exact q v' o w1 _ H' (.ifT hz hR) r' t' k'
  | whl e s1 =>
    obtain ⟨a, x0, x1, x2, rfl, hT, h0, h1, h2⟩ := id tv.tup3
    cases h0.strE
    refine rd_ixT (j := 0) rfl hT rfl (r_ifF (pb_is (pb_eqS rfl) rfl) (r_ifF (pb_is (pb_eqS rfl) rfl) (r_ifF (pb_is (pb_eqS rfl) rfl) (r_ifF (pb_is (pb_eqS rfl) rfl) (r_ifT (pb_is (pb_eqS rfl) rfl) ?_)))))
    exact rMethW rfl rs.ins rfl ⟨_, rfl, _, rfl, _, rfl, _, rfl, pWalkW rs tv tm pre ⟨_, _, rfl⟩ fun v' o w1 c H' hR _ _ _ r' t' k' _ => q v' o w1 c H' hR r' t' k'⟩
  | ret e =>
    obtain ⟨a, x0, x1, rfl, hT, h0, h1⟩ := tv.tup2
    cases h0.strE
    obtain ⟨we, de⟩ : e.Wf ∧ e.dep ≤ 5 := pre.wf
    refine rd_ixT (j := 0) rfl hT rfl (r_ifF (pb_is (pb_eqS rfl) rfl) (r_ifF (pb_is (pb_eqS rfl) rfl) (r_ifF (pb_is (pb_eqS rfl) rfl) (r_ifF (pb_is (pb_eqS rfl) rfl) (r_ifF (pb_is (pb_eqS rfl) rfl) (r_ifT (pb_is (pb_eqS rfl) rfl) ?_))))))
    refine rd_ixT (j := 1) rfl hT rfl ⟨_, rfl, x1, sl, e, w.σ, rfl, h1, we, de, SqL.of rs.slo, pre.inr, (by show 2 ≤ sizeLine; decide), fun p1 hp1 => ?_⟩
    exact q _ (.ret (e.val w.σ)) w _ _ .ret (rs.same (Same.new hp1)) (Tp.mk hp1 (.cons (.str _) (.cons (.int _) .nil))) (Kp.new hp1)
  | rais kd e m =>
    obtain ⟨a, x0, x1, x2, x3, rfl, hT, h0, h1, h2, h3⟩ := tv.tup4
    cases h0.strE; cases h1.intE; cases h3.intE
    obtain ⟨_, ⟨we, de⟩, _⟩ : kd < p.kinds.length ∧ (e.Wf ∧ e.dep ≤ 5) ∧ 0 ≤ m ∧ m < 1000 := pre.wf
    refine rd_ixT (j := 0) rfl hT rfl (r_ifF (pb_is (pb_eqS rfl) rfl) (r_ifF (pb_is (pb_eqS rfl) rfl) (r_ifF (pb_is (pb_eqS rfl) rfl) (r_ifF (pb_is (pb_eqS rfl) rfl) (r_ifF (pb_is (pb_eqS rfl) rfl) (r_ifF (pb_is (pb_eqS rfl) rfl) (r_ifT (pb_is (pb_eqS rfl) rfl) ?_)))))))
    refine rd_ixT (j := 1) rfl hT rfl (rd_ixT (j := 2) rfl hT rfl ⟨_, rfl, x2, sl, e, w.σ, rfl, h2, we, de, SqL.of rs.slo, pre.inr, rd_ixT (j := 3) rfl hT rfl ⟨(by show 1 ≤ sizeLine; decide), fun p1 hp1 => ⟨(by show 4 ≤ sizeLine; decide), fun p2 hp2 => ?_⟩⟩⟩)
    exact q _ (.flt ⟨kd, e.val w.σ, [m]⟩) w _ _ .rais ((rs.same (Same.new hp1)).same (Same.new hp2)) (Tp.mk hp2 (.cons (.str _) (.cons (.int _) (.cons (.int _) (.cons (Tp.mk hp1 (.cons (.int _) .nil)) .nil))))) ((Kp.new hp1).trans (Kp.new hp2))
  | again =>
    obtain ⟨a, x0, rfl, hT, h0⟩ := id tv.tup1
    cases h0.strE
    have hne : met ≠ [] := pre.mok.2 pre.wf
    obtain ⟨ma, mxs, rfl, hM, tms⟩ := tm.tupE
    refine rd_ixT (j := 0) rfl hT rfl (r_ifF (pb_is (pb_eqS rfl) rfl) (r_ifF (pb_is (pb_eqS rfl) rfl) (r_ifF (pb_is (pb_eqS rfl) rfl) (r_ifF (pb_is (pb_eqS rfl) rfl) (r_ifF (pb_is (pb_eqS rfl) rfl) (r_ifF (pb_is (pb_eqS rfl) rfl) (r_ifF (pb_is (pb_eqS rfl) rfl) (r_ifT (pb_is (pb_eqS rfl) rfl) ?_))))))))
    have hl := List.getLast?_eq_some_getLast hne
    have lm : mxs.length = met.length := by rw [tms.length, List.length_map]
    have pos : 0 < met.length := List.length_pos_iff.mpr hne
    obtain ⟨x, hx, tx⟩ := tms.get' (i := met.length - 1) (d := (met.getLast hne).d) (by rw [List.getElem?_map, ← List.getLast?_eq_getElem?, hl]; rfl)
    have hat : atI mxs (-1) = some x := by
      have hsplit : mxs = mxs.dropLast ++ [x] := by
        have hn : mxs ≠ [] := fun z => by rw [z] at lm; simp at lm; omega
        have e1 : mxs.getLast? = some x := by rw [List.getLast?_eq_getElem?, lm]; exact hx
        have e2 : mxs.getLast hn = x := by
          have z := List.getLast?_eq_some_getLast hn
          rw [e1] at z
          exact (Option.some.inj z).symm
        rw [← e2]
        exact (List.dropLast_concat_getLast hn).symm
      rw [hsplit]; exact atI_last _ _
    exact ⟨_, rfl, _, rfl, ma, mxs, -1, x, rfl, rfl, hM, hat, q x (.flt (met.getLast hne)) w 1 H (.again hl) rs tx (Kp.refl _ _)⟩
  | call k f ps m =>
    obtain ⟨a, x0, x1, x2, x3, x4, rfl, hT, h0, h1, h2, h3, h4⟩ := id tv.tup5
    cases h0.strE
    refine rd_ixT (j := 0) rfl hT rfl (r_ifF (pb_is (pb_eqS rfl) rfl) (r_ifF (pb_is (pb_eqS rfl) rfl) (r_ifF (pb_is (pb_eqS rfl) rfl) (r_ifF (pb_is (pb_eqS rfl) rfl) (r_ifF (pb_is (pb_eqS rfl) rfl) (r_ifF (pb_is (pb_eqS rfl) rfl) (r_ifF (pb_is (pb_eqS rfl) rfl) (r_ifF (pb_is (pb_eqS rfl) rfl) (r_ifT (pb_is (pb_eqS rfl) rfl) ?_)))))))))
    exact rMethW rfl rs.ins rfl ⟨_, rfl, _, rfl, _, rfl, ⟨⟨p, dp, rn, tl, sl, pv, _, w, d, met, k, f, ps, m, turn, hand, rfl, rs, tv, pre, q⟩⟩⟩
  | tri s1 hs =>
    obtain ⟨a, x0, x1, x2, rfl, hT, h0, h1, h2⟩ := id tv.tup3
    cases h0.strE
    refine rd_ixT (j := 0) rfl hT rfl (r_ifF (pb_is (pb_eqS rfl) rfl) (r_ifF (pb_is (pb_eqS rfl) rfl) (r_ifF (pb_is (pb_eqS rfl) rfl) (r_ifF (pb_is (pb_eqS rfl) rfl) (r_ifF (pb_is (pb_eqS rfl) rfl) (r_ifF (pb_is (pb_eqS rfl) rfl) (r_ifF (pb_is (pb_eqS rfl) rfl) (r_ifF (pb_is (pb_eqS rfl) rfl) (r_ifF (pb_is (pb_eqS rfl) rfl) (r_ifT (pb_is (pb_eqS rfl) rfl) ?_))))))))))
    exact rMethW rfl rs.ins rfl ⟨_, rfl, _, rfl, _, rfl, _, rfl, pWalkW rs tv tm pre ⟨_, _, rfl⟩ fun v' o w1 c H' hR _ _ _ r' t' k' _ => q v' o w1 c H' hR r' t' k'⟩
  | cln s1 s2 =>
    obtain ⟨a, x0, x1, x2, rfl, hT, h0, h1, h2⟩ := id tv.tup3
    cases h0.strE
    refine rd_ixT (j := 0) rfl hT rfl (r_ifF (pb_is (pb_eqS rfl) rfl) (r_ifF (pb_is (pb_eqS rfl) rfl) (r_ifF (pb_is (pb_eqS rfl) rfl) (r_ifF (pb_is (pb_eqS rfl) rfl) (r_ifF (pb_is (pb_eqS rfl) rfl) (r_ifF (pb_is (pb_eqS rfl) rfl) (r_ifF (pb_is (pb_eqS rfl) rfl) (r_ifF (pb_is (pb_eqS rfl) rfl) (r_ifF (pb_is (pb_eqS rfl) rfl) (r_ifF (pb_is (pb_eqS rfl) rfl) (r_ifT (pb_is (pb_eqS rfl) rfl) ?_)))))))))))
    exact rMethW rfl rs.ins rfl ⟨_, rfl, _, rfl, _, rfl, _, rfl, pWalkW rs tv tm pre ⟨_, _, rfl⟩ fun v' o w1 c H' hR _ _ _ r' t' k' _ => q v' o w1 c H' hR r' t' k'⟩
  | brk =>
    obtain ⟨a, x0, rfl, hT, h0⟩ := id tv.tup1
    cases h0.strE
    refine rd_ixT (j := 0) rfl hT rfl (r_ifF (pb_is (pb_eqS rfl) rfl) (r_ifF (pb_is (pb_eqS rfl) rfl) (r_ifF (pb_is (pb_eqS rfl) rfl) (r_ifF (pb_is (pb_eqS rfl) rfl) (r_ifF (pb_is (pb_eqS rfl) rfl) (r_ifF (pb_is (pb_eqS rfl) rfl) (r_ifF (pb_is (pb_eqS rfl) rfl) (r_ifF (pb_is (pb_eqS rfl) rfl) (r_ifF (pb_is (pb_eqS rfl) rfl) (r_ifF (pb_is (pb_eqS rfl) rfl) (r_ifF (pb_is (pb_eqS rfl) rfl) ?_)))))))))))
    exact ⟨_, rfl, q _ .brk w 1 H .brk rs tv (Kp.refl _ _)⟩
  | cnt =>
    obtain ⟨a, x0, rfl, hT, h0⟩ := id tv.tup1
    cases h0.strE
    refine rd_ixT (j := 0) rfl hT rfl (r_ifF (pb_is (pb_eqS rfl) rfl) (r_ifF (pb_is (pb_eqS rfl) rfl) (r_ifF (pb_is (pb_eqS rfl) rfl) (r_ifF (pb_is (pb_eqS rfl) rfl) (r_ifF (pb_is (pb_eqS rfl) rfl) (r_ifF (pb_is (pb_eqS rfl) rfl) (r_ifF (pb_is (pb_eqS rfl) rfl) (r_ifF (pb_is (pb_eqS rfl) rfl) (r_ifF (pb_is (pb_eqS rfl) rfl) (r_ifF (pb_is (pb_eqS rfl) rfl) (r_ifF (pb_is (pb_eqS rfl) rfl) ?_)))))))))))
    exact ⟨_, rfl, q _ .cnt w 1 H .cnt rs tv (Kp.refl _ _)⟩
end
end Lp

/-! LvE: both walks whole. -/
namespace Lp
open PySem PySem.Spec PyProof.Rows L2
def t_Walker_init (K : PySem.W.Frag) : TS :=
  tSeq (sFld K (tVar 0) (tOp (rIxT K) (tVar 1) (tC (.int 0))) "kinds") (tSeq (sFld K (tVar 0) (tOp (rIxT K) (tVar 1) (tC (.int 1))) "functions") (tSeq (sFld K (tVar 0) (tVar 2) "left") (tSeq (sFld K (tVar 0) (tVar 3) "deep") (sFld K (tVar 0) (tLst (tNil)) "told"))))

def t_walked (K : PySem.W.Frag) (C_Walker : Addr) (sp_Walker_init : Sp) (sp_Walker_called : Sp) : TS :=
  tSeq (tAsg (tMake C_Walker sp_Walker_init [] E0 (tCons (tVar 0) (tCons (tVar 2) (tCons (tVar 3) (tNil))))) (gName 4)) (tSeq (tAsg (tMeth C_Walker "called" sp_Walker_called [] E0 (tVar 4) (tCons (tC (.int 0)) (tCons (tVar 1) (tCons (tC (.int 1)) (tNil))))) (gName 5)) (tRet (tTup (tCons (tFld K (tVar 4) "told") (tCons (tVar 5) (tNil))))))

def t_law_numbers (K : PySem.W.Frag) (sp_law_take : Sp) : TS :=
  tRet (tLc (iRng1 (tCons (tVar 1) (tNil))) (gName 2) (tYes) (tCall sp_law_take [] E0 (tCons (tVar 0) (tCons (tC (.int 10007)) (tNil)))) [2])

section
variable {K : PySem.W.Frag} {C on : Addr}
mutual
theorem Dp.tkS {H H' : Hp} (s : Same H H') : ∀ (d : PyData) (v : V), Dp K H v d → Dp K H' v d
  | _, _, .non => .non
  | _, _, .bl k => .bl k
  | _, _, .int i => .int i
  | _, _, .str x => .str x
  | _, _, .lst h a => .lst (s.seq h) (DpAll.tkS s _ _ a)
  | _, _, .tup h a => .tup (s.sqT h) (DpAll.tkS s _ _ a)
theorem DpAll.tkS {H H' : Hp} (s : Same H H') : ∀ (ds : List PyData) (vs : List V), DpAll K H vs ds → DpAll K H' vs ds
  | _, _, .nil => .nil
  | _, _, .cons h a => .cons (Dp.tkS s _ _ h) (DpAll.tkS s _ _ a)
end
/-- what a walk hands back -/
def walkedD (o : Out) (w1 : WSt) : PyData := .tuple [.list (w1.told.map Ev.d), (calledEnd o).d]
/-- what a walk is handed -/
structure WIn (p : Pg) (fn : Nat × Sm) (ns : List Int) (most : Int) (dp : Nat) : Prop where
  pw : PgW p
  f0 : p.funs[0]? = some fn
  few : ns.length ≤ 3
  inr : ∀ n ∈ ns, 0 ≤ n ∧ n < 10007
  m0 : 0 ≤ most
  m1 : most ≤ 100
  d0 : 1 ≤ dp
  d1 : dp ≤ 6
theorem WIn.pre {p : Pg} {fn : Nat × Sm} {ns : List Int} {most : Int} {dp : Nat} (h : WIn p fn ns most dp) : WPre p dp 41 1 [] false false fn.2 ⟨slotsFor ns, most, []⟩ := by
  have hm := List.mem_of_getElem? h.f0
  have h1 := h.pw.dep fn hm
  have h2 := h.pw.len fn hm
  have := h.d0; have := h.d1; have := h.few; have := h.m0; have := h.m1
  exact ⟨h.pw, h.pw.wf.body fn hm, slotsFor_in (by omega) h.inr, ⟨(fun _ z => nomatch z), (fun z => nomatch z)⟩, by simp; omega, by omega, by omega, by omega, h2, h.m0, by simp; omega⟩
structure WalkedP (K : PySem.W.Frag) (vs : List V) (H : Hp) (Q : VK) : Prop where
  ex : ∃ (p : Pg) (fn : Nat × Sm) (ns : List Int) (most : Int) (dp : Nat) (pv : V) (nl : Addr), vs = [pv, .ref nl, .int most, .int (dp : Int)] ∧ WIn p fn ns most dp ∧ Tp K H pv p.d ∧ H nl = some (.lst (ns.map V.int)) ∧
    ∀ (v : V) (o : Out) (w1 : WSt) (c : Nat) (H' : Hp), Rn p dp 1 [] fn.2 ⟨slotsFor ns, most, []⟩ o w1 c → OutOk p.kinds.length dp 1 false o → Dp K H' v (walkedD o w1) → Same H H' → Q v H'
def spWalked (K : PySem.W.Frag) : Sp := fun vs H Q _ => WalkedP K vs H Q
theorem rd_law_walked (vs : List V) (H : Hp) (Q : VK) (E : XK) (h : spWalked K vs H Q E) : t_law_walked K (spCalledL K 41) { nx := fun _ H' => Q .non H', rt := Q } (start ["_law_program_here", "_law_numbers_here", "_law_most", "_law_deep", "_law_run", "_law_end"] vs) H := by
  obtain ⟨p, fn, ns, most, dp, pv, nl, rfl, hi, tp, hn, q⟩ := h.ex
  refine ⟨_, rfl, _, rfl, _, rfl, (by show 0 ≤ sizeLine; decide), fun tl htl => ⟨(by show 4 ≤ sizeLine; decide), fun rn hrn => ?_⟩⟩
  have s1 : Same H (L2.upd H tl (.lst [])) := Same.new htl
  have tt : L2.upd H tl (.lst []) tl = some (.lst []) := upd_same
  have s2 : Same (L2.upd H tl (.lst [])) (L2.upd (L2.upd H tl (.lst [])) rn (.lst [pv, .int most, .int (dp : Int), .ref tl])) := Same.new hrn
  have rt : L2.upd (L2.upd H tl (.lst [])) rn (.lst [pv, .int most, .int (dp : Int), .ref tl]) rn = some (.lst [pv, .int most, .int (dp : Int), .ref tl]) := upd_same
  generalize L2.upd H tl (.lst []) = H1 at s1 tt s2 rt hrn ⊢
  generalize L2.upd H1 rn (.lst [pv, .int most, .int (dp : Int), .ref tl]) = H2 at s2 rt ⊢
  have s12 := s1.trans s2
  have rs : RunSt K p dp H2 rn tl nl pv ⟨ns, most, []⟩ := ⟨rt, ⟨[], s2 _ _ tt, .nil⟩, s12 _ _ hn, tp.mono (Tk.same s12), (ne_of_none tt hrn).symm, (ne_of_none (s1 _ _ hn) hrn).symm, (ne_of_none hn htl).symm⟩
  have hr1 := s1.free hrn
  refine ⟨_, rfl, _, rfl, pCalled (d := 1) (f := 0) rfl rs (s12 _ _ hn) hi.few hi.f0 hi.pre fun v' o w1 c H3 hR hO r3 t3 k3 => ?_⟩
  obtain ⟨us, hus, tus⟩ := r3.told
  refine rd_ixL (j := 3) rfl (SqL.of r3.run) rfl ⟨_, rfl, (by show 2 ≤ sizeLine; decide), fun p1 hp1 => ?_⟩
  have s4 : Same H3 (L2.upd H3 p1 (.tup [.ref tl, v'])) := Same.new hp1
  refine q _ o w1 c _ hR hO (.tup (SqT.of upd_same) (.cons (.lst (SqL.of (s4 _ _ hus)) (tus.mono (Tk.same s4)).dp) (.cons (t3.mono (Tk.same s4)).dp .nil))) ?_
  intro a u e
  refine s4 _ _ ?_
  by_cases ha : a = nl
  · subst ha
    rw [hn] at e; cases e
    exact r3.slo
  · refine k3 _ _ (s12 _ _ e) ?_
    rintro (z | z | z)
    · exact ne_of_none e hr1 z
    · exact ne_of_none e htl z
    · exact ha z
def spWkInit (K : PySem.W.Frag) (C : Addr) : Sp := fun vs H Q _ => ∃ (c dx : Addr) (pgv : V) (p : Pg) (most : Int) (dp : Nat), vs = [.ref c, pgv, .int most, .int (dp : Int)] ∧ H c = some (.ins C dx []) ∧ Tp K H pgv p.d ∧
  ∀ (pv : WV) (tl : Addr) (H' : Hp), pv.dx = dx → H tl = none → H' c = some (.ins C dx (wfs pv most dp tl)) → H' tl = some (.lst []) → Tp K H' pv.kv (.tuple (p.kinds.map kindD)) → Tp K H' pv.fv (.tuple (p.funs.map funD)) → Kp (fun x => x = c) H H' → Q .non H'
theorem rd_wk_init (T : WkTxt K C on) (vs : List V) (H : Hp) (Q : VK) (E : XK) (h : spWkInit K C vs H Q E) : t_Walker_init K { nx := fun _ H' => Q .non H', rt := Q } (start ["self", "program", "most", "deep"] vs) H := by
  obtain ⟨c, dx, pgv, p, most, dp, rfl, hc, tp, q⟩ := h
  obtain ⟨a, kv, fv, rfl, hT, tk_, tf_⟩ := Tp.tup2 (show Tp K H pgv (.tuple [.tuple (p.kinds.map kindD), .tuple (p.funs.map funD)]) from tp)
  refine rd_ixT (j := 0) rfl hT rfl ⟨_, rfl, c, C, dx, _, rfl, hc, T.cl, T.kinds, (by show 0 < 1000; decide), ?_⟩
  have kp1 : Kp (fun x => x = c) H (L2.upd H c (.ins C dx (putF "kinds" kv []))) := Kp.upd rfl
  have tk1 : Tk H (L2.upd H c (.ins C dx (putF "kinds" kv []))) := Tk.ins hc
  have c1 : L2.upd H c (.ins C dx (putF "kinds" kv [])) c = some (.ins C dx [("kinds", kv)]) := upd_same
  generalize L2.upd H c (.ins C dx (putF "kinds" kv [])) = H1 at kp1 tk1 c1 ⊢
  refine rd_ixT (j := 1) rfl (tk1.sqT hT) rfl ⟨_, rfl, c, C, dx, _, rfl, c1, T.cl, T.functions, (by show 1 < 1000; decide), ?_⟩
  have kp2 : Kp (fun x => x = c) H (L2.upd H1 c (.ins C dx (putF "functions" fv [("kinds", kv)]))) := kp1.trans (Kp.upd rfl)
  have tk2 : Tk H (L2.upd H1 c (.ins C dx (putF "functions" fv [("kinds", kv)]))) := tk1.trans (Tk.ins c1)
  have c2 : L2.upd H1 c (.ins C dx (putF "functions" fv [("kinds", kv)])) c = some (.ins C dx [("kinds", kv), ("functions", fv)]) := upd_same
  generalize L2.upd H1 c (.ins C dx (putF "functions" fv [("kinds", kv)])) = H2 at kp2 tk2 c2 ⊢
  refine ⟨_, rfl, _, rfl, c, C, dx, _, rfl, c2, T.cl, T.left, (by show 2 < 1000; decide), ?_⟩
  have kp3 : Kp (fun x => x = c) H (L2.upd H2 c (.ins C dx (putF "left" (.int most) [("kinds", kv), ("functions", fv)]))) := kp2.trans (Kp.upd rfl)
  have tk3 : Tk H (L2.upd H2 c (.ins C dx (putF "left" (.int most) [("kinds", kv), ("functions", fv)]))) := tk2.trans (Tk.ins c2)
  have c3 : L2.upd H2 c (.ins C dx (putF "left" (.int most) [("kinds", kv), ("functions", fv)])) c = some (.ins C dx [("kinds", kv), ("functions", fv), ("left", .int most)]) := upd_same
  generalize L2.upd H2 c (.ins C dx (putF "left" (.int most) [("kinds", kv), ("functions", fv)])) = H3 at kp3 tk3 c3 ⊢
  refine ⟨_, rfl, _, rfl, c, C, dx, _, rfl, c3, T.cl, T.deep, (by show 3 < 1000; decide), ?_⟩
  have kp4 : Kp (fun x => x = c) H (L2.upd H3 c (.ins C dx (putF "deep" (.int (dp : Int)) [("kinds", kv), ("functions", fv), ("left", .int most)]))) := kp3.trans (Kp.upd rfl)
  have tk4 : Tk H (L2.upd H3 c (.ins C dx (putF "deep" (.int (dp : Int)) [("kinds", kv), ("functions", fv), ("left", .int most)]))) := tk3.trans (Tk.ins c3)
  have c4 : L2.upd H3 c (.ins C dx (putF "deep" (.int (dp : Int)) [("kinds", kv), ("functions", fv), ("left", .int most)])) c = some (.ins C dx [("kinds", kv), ("functions", fv), ("left", .int most), ("deep", .int (dp : Int))]) := upd_same
  generalize L2.upd H3 c (.ins C dx (putF "deep" (.int (dp : Int)) [("kinds", kv), ("functions", fv), ("left", .int most)])) = H4 at kp4 tk4 c4 ⊢
  refine ⟨(by show 0 ≤ sizeLine; decide), fun tl htl => ⟨_, rfl, c, C, dx, _, rfl, by rw [upd_ne (ne_of_none c4 htl)]; exact c4, T.cl, T.told, (by show 4 < 1000; decide), ?_⟩⟩
  have ct : c ≠ tl := ne_of_none c4 htl
  have htlH : H tl = none := kp4.free htl (fun z => ct z.symm)
  have tk5 : Tk H4 (L2.upd (L2.upd H4 tl (.lst [])) c (.ins C dx (putF "told" (.ref tl) [("kinds", kv), ("functions", fv), ("left", .int most), ("deep", .int (dp : Int))]))) := (Tk.new htl).trans (Tk.ins (by rw [upd_ne ct]; exact c4))
  refine q ⟨dx, kv, fv⟩ tl _ rfl htlH (by rw [upd_same]; rfl) (by rw [upd_ne ct.symm, upd_same]) (tk_.mono (tk4.trans tk5)) (tf_.mono (tk4.trans tk5)) ((kp4.trans (Kp.new htl)).trans (Kp.upd rfl))
theorem rd_walked (T : WkTxt K C on) (vs : List V) (H : Hp) (Q : VK) (E : XK) (h : spWalked K vs H Q E) : t_walked K C (spWkInit K C) (spCalledW K C 41) { nx := fun _ H' => Q .non H', rt := Q } (start ["program", "numbers", "most", "deep", "walker", "end"] vs) H := by
  obtain ⟨p, fn, ns, most, dp, pgv, nl, rfl, hi, tp, hn, q⟩ := h.ex
  refine ⟨_, rfl, _, rfl, _, rfl, fun rn dx hrn hdx dxr => ?_⟩
  have s0 : Same H (L2.upd (L2.upd H dx (.own rn)) rn (.ins C dx [])) := fun b o e => by rw [upd_ne (ne_of_none e hrn), upd_ne (ne_of_none e hdx)]; exact e
  refine ⟨rn, dx, pgv, p, most, dp, rfl, upd_same, tp.mono (Tk.same s0), fun pv tl H2 ed htl hr2 ht2 tk_ tf_ k2 => ⟨rfl, ?_⟩⟩
  subst ed
  have s2 : Same H H2 := fun b o e => k2 _ _ (s0 _ _ e) (ne_of_none e hrn)
  have htlH : H tl = none := s0.free htl
  have rs : WkSt K C p dp H2 rn tl nl pv ⟨ns, most, []⟩ := ⟨hr2, ⟨[], ht2, .nil⟩, s2 _ _ hn, tk_, tf_, ne_of hr2 ht2 (by intro z; cases z), (ne_of_none hn hrn).symm, (ne_of_none hn htlH).symm⟩
  refine rMethW rfl rs.ins rfl ⟨_, rfl, pCalledW (d := 1) (f := 0) rfl rs (s2 _ _ hn) hi.few hi.f0 hi.pre fun v' o w1 c H3 hR hO r3 t3 k3 => ?_⟩
  obtain ⟨us, hus, tus⟩ := r3.told
  refine ⟨_, rfl, rn, C, pv.dx, _, _, rfl, r3.ins, T.cl, T.told, rfl, _, rfl, (by show 2 ≤ sizeLine; decide), fun p1 hp1 => ?_⟩
  have s4 : Same H3 (L2.upd H3 p1 (.tup [.ref tl, v'])) := Same.new hp1
  refine q _ o w1 c _ hR hO (.tup (SqT.of upd_same) (.cons (.lst (SqL.of (s4 _ _ hus)) (tus.mono (Tk.same s4)).dp) (.cons (t3.mono (Tk.same s4)).dp .nil))) ?_
  intro a u e
  refine s4 _ _ ?_
  by_cases ha : a = nl
  · subst ha
    rw [hn] at e; cases e
    exact r3.slo
  · refine k3 _ _ (s2 _ _ e) ?_
    rintro (z | z | z)
    · exact ne_of_none e hrn z
    · exact ne_of_none e htlH z
    · exact ha z
def spNums (K : PySem.W.Frag) : Sp := fun vs H Q _ => ∃ (b : Addr) (l : List Int) (m : Nat), vs = [.ref b, .int (m : Int)] ∧ H b = some (.lst (l.map V.int)) ∧ m ≤ 1000 ∧
  ∀ (r : Addr) (ns l' : List Int) (H' : Hp), ns.length = m → (∀ n ∈ ns, 0 ≤ n ∧ n < 10007) → H r = none → H' r = some (.lst (ns.map V.int)) → H' b = some (.lst (l'.map V.int)) → Kp (fun x => x = b) H H' → Q (.ref r) H'
theorem rd_law_numbers (vs : List V) (H : Hp) (Q : VK) (E : XK) (h : spNums K vs H Q E) : t_law_numbers K spTake { nx := fun _ H' => Q .non H', rt := Q } (start ["_law_box", "_law_many", "_law_k"] vs) H := by
  obtain ⟨b, l, m, rfl, hb, hm, q⟩ := h
  refine ⟨_, rfl, _, rfl, by omega, by omega, fun s hs => lc_range (lo := 0) (n := ((m : Int)).toNat) (fun i H' => ∃ σ l : List Int, σ.length = i ∧ (∀ n ∈ σ, 0 ≤ n ∧ n < 10007) ∧ H' s = some (.lst (σ.map V.int)) ∧ H' b = some (.lst (l.map V.int)) ∧ Kp (fun x => x = b) H H')
    ⟨[], l, rfl, (by simp), upd_same, by rw [upd_ne (ne_of_none hb hs)]; exact hb, Kp.new hs⟩ ?_ ?_⟩
  · rintro i H1 hi ⟨σ, l, hl, hr, h1, h2, kp1⟩
    have sb : s ≠ b := fun e => by rw [e, hb] at hs; cases hs
    refine ⟨rfl, _, rfl, b, l, 10007, rfl, h2, by decide, by decide, fun r l' H2 r0 r1 hb2 kp => ⟨_, kp s _ h1 sb, by rw [List.length_map]; exact sz_lt1 (by omega), σ ++ [r], l', by simp [hl], ?_, ?_, ?_, ?_⟩⟩
    · intro n hn
      rcases List.mem_append.mp hn with z | z
      · exact hr n z
      · have e : n = r := by simpa using z
        rw [e]; exact ⟨r0, r1⟩
    · rw [upd_same, List.map_append]; rfl
    · rw [upd_ne sb.symm]; exact hb2
    · exact (kp1.trans kp).late hs
  · rintro H1 ⟨σ, l, hl, hr, h1, h2, kp1⟩
    exact q s σ l H1 (by omega) hr hs h1 h2 kp1
end
end Lp

/-! Lw4: what was told is small. -/
namespace Lp
open PySem PySem.Spec PyProof.Rows L2
def EvOk (D : Nat) (es : List Ev) : Prop := ∀ f, Ev.met f ∈ es → f.tr.length ≤ D
section
variable {p : Pg} {dp nk : Nat}
mutual
theorem Rn.evs (hp : PgR p) (hn : nk = p.kinds.length) : ∀ {d met s w o w1 c turn hand}, Rn p dp d met s w o w1 c → s.Wf p.cs nk turn hand → InR w.σ → MetOk nk dp d hand met → d ≤ dp → EvOk (dp + 1) w.told → EvOk (dp + 1) w1.told
  | _, _, _, w, _, _, _, _, _, .say, _, _, _, _, h => fun f hf => by
    rcases List.mem_append.mp hf with z | z
    · exact h f z
    · simp at z
  | _, _, _, w, _, _, _, _, _, .set, _, _, _, _, h => h
  | _, _, _, w, _, _, _, _, _, .row a, wf, hr, hm, hd, h => RnS.evs hp hn a wf hr hm hd h
  | _, _, _, w, _, _, _, _, _, .ifT _ a, wf, hr, hm, hd, h => Rn.evs hp hn a wf.2.1 hr hm hd h
  | _, _, _, w, _, _, _, _, _, .ifF _ a, wf, hr, hm, hd, h => Rn.evs hp hn a wf.2.2 hr hm hd h
  | _, _, _, w, _, _, _, _, _, .whl0 _, _, _, _, _, h => h
  | _, _, _, w, _, _, _, _, _, .whlD _ _, _, _, _, _, h => h
  | _, _, _, w, _, _, _, _, _, .whlB _ _ a, wf, hr, hm, hd, h => Rn.evs hp hn a wf.2 hr hm hd h
  | _, _, _, w, _, _, _, _, _, .whlN _ _ a _ a2, wf, hr, hm, hd, h => Rn.evs hp hn a2 wf (Rn.ok hp hn a wf.2 hr hm hd).1 hm hd (Rn.evs hp hn a wf.2 hr hm hd h)
  | _, _, _, w, _, _, _, _, _, .whlX _ _ a _ _ _, wf, hr, hm, hd, h => Rn.evs hp hn a wf.2 hr hm hd h
  | _, _, _, w, _, _, _, _, _, .brk, _, _, _, _, h => h
  | _, _, _, w, _, _, _, _, _, .cnt, _, _, _, _, h => h
  | _, _, _, w, _, _, _, _, _, .ret, _, _, _, _, h => h
  | _, _, _, w, _, _, _, _, _, .rais, _, _, _, _, h => h
  | _, _, _, w, _, _, _, _, _, .again _, _, _, _, _, h => h
  | _, _, _, w, _, _, _, _, _, .callD _, _, _, _, _, h => h
  | _, _, _, w, _, _, _, _, _, .callP _ _, _, _, _, _, h => h
  | d, _, _, w, _, _, _, _, _, .call (ps := ps) (fn := fn) _ ne g a, wf, hr, hm, hd, h => by
    obtain ⟨_, _, hl, hps, _, _⟩ := wf
    have hs : InR (slotsFor (ps.map (Ex.val w.σ))) := slotsFor_in (by simp; omega) (fun n hn2 => by
      obtain ⟨e, he, rfl⟩ := List.mem_map.mp hn2
      exact Ex.val_in hr (hps e he).1)
    have hmm : MetOk nk dp (d + 1) false [] := ⟨(fun _ z => nomatch z), (fun z => nomatch z)⟩
    have hw : fn.2.Wf p.cs nk false false := by rw [hn]; exact hp.body _ (List.mem_of_getElem? g)
    have r := Rn.evs hp hn a hw hs hmm (by omega) h
    exact r
  | _, _, _, w, _, _, _, _, _, .tri a _, wf, hr, hm, hd, h => Rn.evs hp hn a wf.1 hr hm hd h
  | d, met, _, w, _, _, _, _, _, .triC (f := f) a g a2, wf, hr, hm, hd, h => by
    obtain ⟨h1, h2⟩ := Rn.ok hp hn a wf.1 hr hm hd
    obtain ⟨_, wz⟩ := Hds.pick_wf wf.2 g
    refine Rn.evs hp hn a2 wz (h1.set ⟨h2.2.1, h2.2.2.1⟩) ⟨fun y hy => ?_, fun _ => by simp⟩ hd (fun y hy => ?_)
    · rcases List.mem_append.mp hy with z | z
      · exact hm.1 y z
      · have : y = f := by simpa using z
        rw [this]; exact h2
    · rcases List.mem_append.mp hy with z | z
      · exact Rn.evs hp hn a wf.1 hr hm hd h y z
      · have : y = f := by simpa using z
        rw [this]
        have := h2.2.2.2
        omega
  | _, _, _, w, _, _, _, _, _, .triX a _, wf, hr, hm, hd, h => Rn.evs hp hn a wf.1 hr hm hd h
  | _, _, _, w, _, _, _, _, _, .clnX a _, wf, hr, hm, hd, h => Rn.evs hp hn a wf.1 hr hm hd h
  | _, _, _, w, _, _, _, _, _, .cln a _ a2, wf, hr, hm, hd, h => Rn.evs hp hn a2 wf.2 (Rn.ok hp hn a wf.1 hr hm hd).1 hm hd (Rn.evs hp hn a wf.1 hr hm hd h)
theorem RnS.evs (hp : PgR p) (hn : nk = p.kinds.length) : ∀ {d met s w o w1 c turn hand}, RnS p dp d met s w o w1 c → s.Wf p.cs nk turn hand → InR w.σ → MetOk nk dp d hand met → d ≤ dp → EvOk (dp + 1) w.told → EvOk (dp + 1) w1.told
  | _, _, _, w, _, _, _, _, _, .nil, _, _, _, _, h => h
  | _, _, _, w, _, _, _, _, _, .next a a2, wf, hr, hm, hd, h => RnS.evs hp hn a2 wf.2 (Rn.ok hp hn a wf.1 hr hm hd).1 hm hd (Rn.evs hp hn a wf.1 hr hm hd h)
  | _, _, _, w, _, _, _, _, _, .stop a _, wf, hr, hm, hd, h => Rn.evs hp hn a wf.1 hr hm hd h
end
end
section
variable {p : Pg} {dp : Nat}
mutual
theorem Rn.left_ge : ∀ {d met s w o w1 c}, Rn p dp d met s w o w1 c → 0 ≤ w.left → -1 ≤ w1.left ∧ (o ≠ .dry → 0 ≤ w1.left)
  | _, _, _, w, _, _, _, .say, h => ⟨by show -1 ≤ w.left; omega, fun _ => h⟩
  | _, _, _, w, _, _, _, .set, h => ⟨by show -1 ≤ w.left; omega, fun _ => h⟩
  | _, _, _, w, _, _, _, .row a, h => RnS.left_ge a h
  | _, _, _, w, _, _, _, .ifT _ a, h => Rn.left_ge a h
  | _, _, _, w, _, _, _, .ifF _ a, h => Rn.left_ge a h
  | _, _, _, w, _, _, _, .whl0 _, h => ⟨by omega, fun _ => h⟩
  | _, _, _, w, _, _, _, .whlD _ _, h => ⟨by show -1 ≤ w.left - 1; omega, fun z => absurd rfl z⟩
  | _, _, _, w, _, _, _, .whlB _ l a, h => by
    obtain ⟨h1, h2⟩ := Rn.left_ge a (by show 0 ≤ w.left - 1; omega)
    exact ⟨h1, fun _ => h2 (by simp)⟩
  | _, _, _, w, _, _, _, .whlN _ l a q a2, h => by
    obtain ⟨h1, h2⟩ := Rn.left_ge a (by show 0 ≤ w.left - 1; omega)
    exact Rn.left_ge a2 (h2 (by rcases q with rfl | rfl <;> simp))
  | _, _, _, w, _, _, _, .whlX _ l a _ _ _, h => Rn.left_ge a (by show 0 ≤ w.left - 1; omega)
  | _, _, _, w, _, _, _, .brk, h => ⟨by omega, fun _ => h⟩
  | _, _, _, w, _, _, _, .cnt, h => ⟨by omega, fun _ => h⟩
  | _, _, _, w, _, _, _, .ret, h => ⟨by omega, fun _ => h⟩
  | _, _, _, w, _, _, _, .rais, h => ⟨by omega, fun _ => h⟩
  | _, _, _, w, _, _, _, .again _, h => ⟨by omega, fun _ => h⟩
  | _, _, _, w, _, _, _, .callD _, h => ⟨by show -1 ≤ w.left - 1; omega, fun z => absurd rfl z⟩
  | _, _, _, w, _, _, _, .callP l _, h => ⟨by show -1 ≤ w.left - 1; omega, fun _ => by show 0 ≤ w.left - 1; omega⟩
  | _, _, _, w, _, _, _, .call (o := o) l _ _ a, h => by
    obtain ⟨h1, h2⟩ := Rn.left_ge a (by show 0 ≤ w.left - 1; omega)
    exact ⟨h1, fun z => h2 (fun y => z (by rw [y]; rfl))⟩
  | _, _, _, w, _, _, _, .tri a _, h => Rn.left_ge a h
  | _, _, _, w, _, _, _, .triC a _ a2, h => by
    obtain ⟨h1, h2⟩ := Rn.left_ge a h
    exact Rn.left_ge a2 (h2 (by simp))
  | _, _, _, w, _, _, _, .triX a _, h => Rn.left_ge a h
  | _, _, _, w, _, _, _, .clnX a _, h => Rn.left_ge a h
  | _, _, _, w, _, _, _, .cln (o := o) (o2 := o2) a q a2, h => by
    obtain ⟨h1, h2⟩ := Rn.left_ge a h
    have ho : o ≠ .dry := fun z => by rw [z] at q; cases q
    obtain ⟨k1, k2⟩ := Rn.left_ge a2 (h2 ho)
    refine ⟨k1, fun z => k2 fun y => z ?_⟩
    rw [y]; rfl
theorem RnS.left_ge : ∀ {d met s w o w1 c}, RnS p dp d met s w o w1 c → 0 ≤ w.left → -1 ≤ w1.left ∧ (o ≠ .dry → 0 ≤ w1.left)
  | _, _, _, w, _, _, _, .nil, h => ⟨by omega, fun _ => h⟩
  | _, _, _, w, _, _, _, .next a a2, h => by
    obtain ⟨h1, h2⟩ := Rn.left_ge a h
    exact RnS.left_ge a2 (h2 (by simp))
  | _, _, _, w, _, _, _, .stop a _, h => Rn.left_ge a h
end
end
theorem ints_wid (l : List Int) : widAll (l.map PyData.int) = 0 := by induction l with | nil => rfl | cons i l ih => simp [widAll, wid, ih]
theorem ints_dep (l : List Int) : PyData.depthAll (l.map PyData.int) = 0 := by induction l with | nil => rfl | cons i l ih => simp [PyData.depthAll, PyData.depth, ih]
theorem evs_small {D : Nat} : ∀ {es : List Ev}, EvOk D es → PyData.depthAll (es.map Ev.d) ≤ 2 ∧ widAll (es.map Ev.d) ≤ max D 4
  | [], _ => by simp [PyData.depthAll, widAll]
  | .say n :: es, h => by
    obtain ⟨h1, h2⟩ := evs_small (es := es) fun f hf => h f (List.mem_cons_of_mem _ hf)
    simp [PyData.depthAll, widAll, Ev.d, PyData.depth, wid]; omega
  | .met f :: es, h => by
    obtain ⟨h1, h2⟩ := evs_small (es := es) fun f hf => h f (List.mem_cons_of_mem _ hf)
    have := h f List.mem_cons_self
    simp [PyData.depthAll, widAll, Ev.d, Flt.tl, PyData.depth, wid, ints_wid, ints_dep]; omega
theorem out_small {nk dp d : Nat} {turn : Bool} {o : Out} (hd : dp ≤ 1000) (h : OutOk nk dp d turn o) : (calledEnd o).d.depth ≤ 2 ∧ wid (calledEnd o).d ≤ 1004 := by
  cases o with
  | flt f =>
    have := h.2.2.2
    simp [calledEnd, Out.d, Out.r, Flt.tl, PyData.depth, PyData.depthAll, wid, widAll, ints_wid, ints_dep]; omega
  | _ => simp [calledEnd, Out.d, Out.r, PyData.depth, PyData.depthAll, wid, widAll]
theorem walked_small {p : Pg} {fn : Nat × Sm} {ns : List Int} {most : Int} {dp : Nat} {o : Out} {w1 : WSt} {c : Nat} (h : WIn p fn ns most dp) (hR : Rn p dp 1 [] fn.2 ⟨slotsFor ns, most, []⟩ o w1 c) (hO : OutOk p.kinds.length dp 1 false o) : (walkedD o w1).depth < 5 ∧ wid (walkedD o w1) ≤ 1000000 := by
  have pre := h.pre
  have ev := Rn.evs pre.pw.r rfl hR pre.wf pre.inr pre.mok pre.ddp (fun f hf => nomatch hf)
  obtain ⟨c1, c2, c3, c4⟩ := Rn.cost pre.pw.len hR pre.len pre.left
  obtain ⟨e1, e2⟩ := evs_small ev
  have hd := h.d1
  obtain ⟨o1, o2⟩ := out_small (by omega) hO
  have m1 := h.m1
  have lf := pre.len
  replace c1 : (c : Int) ≤ fn.2.len + 2000 * (most - w1.left) := c1
  replace c4 : w1.told.length ≤ 0 + c := c4
  obtain ⟨lw, _⟩ := Rn.left_ge hR (by show (0 : Int) ≤ most; exact h.m0)
  have ll : w1.told.length ≤ 250000 := by omega
  unfold walkedD
  simp only [PyData.depth, PyData.depthAll, wid, widAll, List.length_map, List.length_cons, List.length_nil]
  omega
end Lp

/-! Lm: the machine as a function: frames (the top one first), one row more. -/
namespace Lp
open PySem PySem.Spec PyProof.Rows L2
inductive Hl where
  | on
  | leap (q D : Int)
  | ret (v : Int)
  | flt (f : Flt)
  | met (f : Flt)
  deriving DecidableEq
structure Fr where
  fn : Nat
  σ : List Int
  pc : Int
  stk : List Int
  held : List Hl
structure Mc where
  left : Int
  told : List Ev
  last : Option Out
  frs : List Fr
section
variable (code : List Fc) (ks : List (Option Nat)) (dp : Nat)
def tabOf (f : Fr) : List Tb := match code[f.fn]? with
  | some c => c.tab
  | none => []
def rowAt (f : Fr) : Option Rw := match code[f.fn]? with
  | some c => c.rows[f.pc.toNat]?
  | none => none
/-- a cleanup that is left from q to a goal (none: out of all) -/
def catchC (q : Int) (goal : Option Int) (t : Tb) : Bool := t.kd.isNone && decide (t.b ≤ q) && decide (q < t.x) && (match goal with
  | none => true
  | some g => !(decide (t.b ≤ g) && decide (g < t.x)))
/-- a row that a fault of kind k at q comes to -/
def catchF (q : Int) (k : Nat) (t : Tb) : Bool := decide (t.b ≤ q) && decide (q < t.x) && (match t.kd with
  | none => true
  | some w => takes ks w k)
def Fr.enter (f : Fr) (t : Tb) (h : Hl) : Fr := { f with held := f.held.take t.D.toNat ++ [h], pc := t.p }
def doLeap (m : Mc) (f : Fr) (fs : List Fr) (g D : Int) : Mc := match (tabOf code f).find? (catchC f.pc (some g)) with
  | some t => { m with frs := f.enter t (.leap g D) :: fs }
  | none => { m with frs := { f with held := f.held.take D.toNat, pc := g } :: fs }
def doRet (m : Mc) (f : Fr) (fs : List Fr) (v : Int) : Mc := match (tabOf code f).find? (catchC f.pc none) with
  | some t => { m with frs := f.enter t (.ret v) :: fs }
  | none => match fs with
    | [] => { m with frs := [], last := some (.ret v) }
    | g :: r => { m with frs := { g with stk := g.stk ++ [v], pc := g.pc + 1 } :: r }
def markOf (f : Fr) : Int := match rowAt code f with
  | some (.call _ _ m) => m
  | _ => 0
def doFly (m : Mc) : List Fr → Flt → Mc
  | [], flt => { m with frs := [], last := some (.flt flt) }
  | f :: fs, flt => match (tabOf code f).find? (catchF ks f.pc flt.k) with
    | some t => { m with frs := f.enter t (if t.kd.isNone then .flt flt else .met flt) :: fs }
    | none => match fs with
      | [] => { m with frs := [], last := some (.flt flt) }
      | g :: r => doFly m (g :: r) { flt with tr := flt.tr ++ [markOf code g] }
def metsOf (h : List Hl) : List Flt := h.filterMap fun
  | .met f => some f
  | _ => none
/-- one row -/
def step (m : Mc) : Mc := match m.frs with
  | [] => m
  | f :: fs =>
    let nx (f : Fr) : Mc := { m with frs := { f with pc := f.pc + 1 } :: fs }
    match rowAt code f with
    | none => m
    | some (.num n) => nx { f with stk := f.stk ++ [n] }
    | some (.var k) => nx { f with stk := f.stk ++ [f.σ.getD k 0] }
    | some (.op o) => nx { f with stk := f.stk.dropLast.dropLast ++ [o.ap (f.stk.dropLast.getLastD 0) (f.stk.getLastD 0)] }
    | some .say => { m with told := m.told ++ [.say (f.stk.getLastD 0)], frs := { f with stk := f.stk.dropLast, pc := f.pc + 1 } :: fs }
    | some (.set k) => nx { f with σ := f.σ.set k (f.stk.getLastD 0), stk := f.stk.dropLast }
    | some (.unless q) => if f.stk.getLastD 0 = 0 then { m with frs := { f with stk := f.stk.dropLast, pc := q } :: fs } else nx { f with stk := f.stk.dropLast }
    | some (.go z) => { m with frs := { f with pc := z } :: fs }
    | some .turn => { m with left := m.left - 1, last := if m.left - 1 < 0 then some .dry else none, frs := { f with pc := f.pc + 1 } :: fs }
    | some (.leap q D) => doLeap code m f fs q D
    | some .ret => doRet code m { f with stk := f.stk.dropLast } fs (f.stk.getLastD 0)
    | some (.rais kd mk) => doFly code ks m ({ f with stk := f.stk.dropLast } :: fs) ⟨kd, f.stk.getLastD 0, [mk]⟩
    | some .again => match (metsOf f.held).getLast? with
      | some flt => doFly code ks m (f :: fs) flt
      | none => m
    | some (.call fn n _) =>
      if m.left - 1 < 0 then { m with left := m.left - 1, last := some .dry }
      else if fs.length + 1 = dp then { m with left := m.left - 1, last := some .deep }
      else { m with left := m.left - 1, frs := ⟨fn, slotsFor (f.stk.drop (f.stk.length - n)), 0, [], []⟩ :: { f with stk := f.stk.take (f.stk.length - n) } :: fs }
    | some (.hand _ _ _ _) => match f.held.getLast? with
      | some (.met flt) => { m with told := m.told ++ [.met flt], frs := { f with stk := f.stk ++ [flt.v], pc := f.pc + 1 } :: fs }
      | _ => m
    | some .settled => nx { f with held := f.held.dropLast }
    | some .mend => nx { f with held := f.held ++ [.on] }
    | some (.cup _ _ _) => nx f
    | some .resume => match f.held.getLast? with
      | some .on => nx { f with held := f.held.dropLast }
      | some (.leap q D) => doLeap code m { f with held := f.held.dropLast } fs q D
      | some (.ret v) => doRet code m { f with held := f.held.dropLast } fs v
      | some (.flt flt) => doFly code ks m ({ f with held := f.held.dropLast } :: fs) flt
      | _ => m
/-- so many rows, as long as it goes on -/
def steps : Nat → Mc → Mc
  | 0, m => m
  | n + 1, m => if m.last.isSome then m else steps n (step code ks dp m)
end
end Lp

/-! Lg: the machine goes on, row by row; what it needs there; where code and tables stand. -/
namespace Lp
open PySem PySem.Spec PyProof.Rows L2
def rowLegal (f : Fr) : Rw → Prop
  | .op _ => 2 ≤ f.stk.length
  | .say => f.stk ≠ []
  | .set _ => f.stk ≠ []
  | .unless _ => f.stk ≠ []
  | .ret => f.stk ≠ []
  | .rais _ _ => f.stk ≠ []
  | .again => metsOf f.held ≠ []
  | .call _ n _ => n ≤ f.stk.length
  | .hand _ _ _ _ => ∃ flt, f.held.getLast? = some (.met flt)
  | .settled => f.held ≠ []
  | .resume => ∃ h, f.held.getLast? = some h ∧ ∀ flt, h ≠ .met flt
  | _ => True
section
variable (code : List Fc) (ks : List (Option Nat)) (dp : Nat)
structure Legal (m : Mc) : Prop where
  ex : ∃ f fs r, m.frs = f :: fs ∧ rowAt code f = some r ∧ rowLegal f r
inductive Go : Nat → Mc → Mc → Prop
  | nil {m} : Go 0 m m
  | next {n m m'} : m.last = none → Legal code m → Go n (step code ks dp m) m' → Go (n + 1) m m'
end
section
variable {code : List Fc} {ks : List (Option Nat)} {dp : Nat}
theorem Go.trans {b : Nat} {m1 m2 : Mc} : ∀ {a : Nat} {m : Mc}, Go code ks dp a m m1 → Go code ks dp b m1 m2 → Go code ks dp (a + b) m m2
  | 0, _, .nil, h => by rw [Nat.zero_add]; exact h
  | a + 1, _, .next e l g, h => by rw [Nat.succ_add]; exact .next e l (g.trans h)
theorem Go.cast {a b : Nat} {m m' : Mc} (g : Go code ks dp a m m') (h : a = b) : Go code ks dp b m m' := h ▸ g
theorem Go.of {l : Int} {t : List Ev} {f : Fr} {fs : List Fr} {r : Rw} {m' : Mc} (h : rowAt code f = some r) (hl : rowLegal f r) (e : step code ks dp ⟨l, t, none, f :: fs⟩ = m') : Go code ks dp 1 ⟨l, t, none, f :: fs⟩ m' :=
  .next rfl ⟨⟨f, fs, r, rfl, h, hl⟩⟩ (e ▸ .nil)
/-- so many rows of a longer way -/
theorem Go.split {b : Nat} {m2 : Mc} : ∀ {a : Nat} {m : Mc}, Go code ks dp (a + b) m m2 → ∃ m1, Go code ks dp a m m1 ∧ Go code ks dp b m1 m2
  | 0, m, h => ⟨m, .nil, by rw [Nat.zero_add] at h; exact h⟩
  | a + 1, m, h => by
    rw [Nat.succ_add] at h
    cases h with
    | next e l g =>
      obtain ⟨m1, g1, g2⟩ := Go.split g
      exact ⟨m1, .next e l g1, g2⟩

/-! ### what is done where something is left -/
inductive Act where
  | leap (g D : Int)
  | ret (v : Int)
  | flt (f : Flt)
def Act.pend : Act → Hl
  | .leap g D => .leap g D
  | .ret v => .ret v
  | .flt f => .flt f
def doAct (code : List Fc) (ks : List (Option Nat)) (l : Int) (t : List Ev) (f : Fr) (fs : List Fr) : Act → Mc
  | .leap g D => doLeap code ⟨l, t, none, []⟩ f fs g D
  | .ret v => doRet code ⟨l, t, none, []⟩ f fs v
  | .flt x => doFly code ks ⟨l, t, none, []⟩ (f :: fs) x
def catchA (ks : List (Option Nat)) (q : Int) : Act → Tb → Bool
  | .leap g _ => catchC q (some g)
  | .ret _ => catchC q none
  | .flt f => catchF ks q f.k
theorem doLeap_m {m : Mc} {x : List Fr} {f : Fr} {fs : List Fr} {g D : Int} : doLeap code { m with frs := x } f fs g D = doLeap code m f fs g D := by
  unfold doLeap; split <;> rfl
theorem doRet_m {m : Mc} {x : List Fr} {f : Fr} {fs : List Fr} {v : Int} : doRet code { m with frs := x } f fs v = doRet code m f fs v := by
  unfold doRet; split
  · rfl
  · split <;> rfl
theorem doFly_m {m : Mc} {x : List Fr} : ∀ {fs : List Fr} {v : Flt}, doFly code ks { m with frs := x } fs v = doFly code ks m fs v
  | [], v => rfl
  | f :: fs, v => by
    unfold doFly; split
    · rfl
    · split
      · rfl
      · exact doFly_m
theorem find_skip {p : Tb → Bool} {A B : List Tb} (h : ∀ e ∈ A, p e = false) : (A ++ B).find? p = B.find? p := by
  rw [List.find?_append, List.find?_eq_none.mpr (fun e he => by rw [h e he]; decide)]; rfl
theorem find_no {p : Tb → Bool} {A : List Tb} (h : ∀ e ∈ A, p e = false) : A.find? p = none := List.find?_eq_none.mpr (fun e he => by rw [h e he]; decide)
theorem catchA_in {q : Int} {a : Act} {e : Tb} (h : e.x ≤ q ∨ q < e.b) : catchA ks q a e = false := by
  cases a <;> simp only [catchA, catchC, catchF]
  all_goals
    rcases h with h | h
    · rw [show decide (q < e.x) = false from decide_eq_false (by omega)]; simp
    · rw [show decide (e.b ≤ q) = false from decide_eq_false (by omega)]; simp
/-- a cleanup takes it -/
theorem doAct_cln {l : Int} {t : List Ev} {f : Fr} {fs : List Fr} {a : Act} {e : Tb} (h : (tabOf code f).find? (catchA ks f.pc a) = some e) (hk : e.kd = none) : doAct code ks l t f fs a = ⟨l, t, none, f.enter e a.pend :: fs⟩ := by
  cases a with
  | leap g D => show doLeap code _ f fs g D = _; unfold doLeap; rw [show (tabOf code f).find? (catchC f.pc (some g)) = some e from h]; rfl
  | ret v => show doRet code _ f fs v = _; unfold doRet; rw [show (tabOf code f).find? (catchC f.pc none) = some e from h]; rfl
  | flt x =>
    show doFly code ks _ (f :: fs) x = _; unfold doFly; rw [show (tabOf code f).find? (catchF ks f.pc x.k) = some e from h]
    simp [hk, Act.pend]
theorem doAct_hand {l : Int} {t : List Ev} {f : Fr} {fs : List Fr} {x : Flt} {e : Tb} {w : Option Nat} (h : (tabOf code f).find? (catchF ks f.pc x.k) = some e) (hk : e.kd = some w) : doAct code ks l t f fs (.flt x) = ⟨l, t, none, f.enter e (.met x) :: fs⟩ := by
  show doFly code ks _ (f :: fs) x = _
  unfold doFly; rw [h]
  simp [hk]
theorem doAct_leap {l : Int} {t : List Ev} {f : Fr} {fs : List Fr} {g D : Int} (h : (tabOf code f).find? (catchC f.pc (some g)) = none) : doAct code ks l t f fs (.leap g D) = ⟨l, t, none, { f with held := f.held.take D.toNat, pc := g } :: fs⟩ := by
  show doLeap code _ f fs g D = _; unfold doLeap; rw [h]
theorem doAct_ret {l : Int} {t : List Ev} {f g : Fr} {fs : List Fr} {v : Int} (h : (tabOf code f).find? (catchC f.pc none) = none) : doAct code ks l t f (g :: fs) (.ret v) = ⟨l, t, none, { g with stk := g.stk ++ [v], pc := g.pc + 1 } :: fs⟩ := by
  show doRet code _ f (g :: fs) v = _; unfold doRet; rw [h]
theorem doAct_ret0 {l : Int} {t : List Ev} {f : Fr} {v : Int} (h : (tabOf code f).find? (catchC f.pc none) = none) : doAct code ks l t f [] (.ret v) = ⟨l, t, some (.ret v), []⟩ := by
  show doRet code _ f [] v = _; unfold doRet; rw [h]
theorem doAct_flt {l : Int} {t : List Ev} {f g : Fr} {fs : List Fr} {x : Flt} (h : (tabOf code f).find? (catchF ks f.pc x.k) = none) : doAct code ks l t f (g :: fs) (.flt x) = doAct code ks l t g fs (.flt { x with tr := x.tr ++ [markOf code g] }) := by
  show doFly code ks _ (f :: g :: fs) x = doFly code ks _ (g :: fs) _
  conv => lhs; unfold doFly
  rw [h]
theorem doAct_flt0 {l : Int} {t : List Ev} {f : Fr} {x : Flt} (h : (tabOf code f).find? (catchF ks f.pc x.k) = none) : doAct code ks l t f [] (.flt x) = ⟨l, t, some (.flt x), []⟩ := by
  show doFly code ks _ (f :: []) x = _; unfold doFly; rw [h]

/-! ### rows, one by one -/
section
variable {l : Int} {t : List Ev} {f : Fr} {fs : List Fr}
theorem go_num {n : Int} (h : rowAt code f = some (.num n)) : Go code ks dp 1 ⟨l, t, none, f :: fs⟩ ⟨l, t, none, { f with stk := f.stk ++ [n], pc := f.pc + 1 } :: fs⟩ := .of h trivial (by simp only [step, h])
theorem go_var {k : Nat} (h : rowAt code f = some (.var k)) : Go code ks dp 1 ⟨l, t, none, f :: fs⟩ ⟨l, t, none, { f with stk := f.stk ++ [f.σ.getD k 0], pc := f.pc + 1 } :: fs⟩ := .of h trivial (by simp only [step, h])
theorem go_op {o : BOp} {S : List Int} {a b : Int} (h : rowAt code f = some (.op o)) (hs : f.stk = S ++ [a] ++ [b]) : Go code ks dp 1 ⟨l, t, none, f :: fs⟩ ⟨l, t, none, { f with stk := S ++ [o.ap a b], pc := f.pc + 1 } :: fs⟩ :=
  .of h (by show 2 ≤ f.stk.length; rw [hs]; simp) (by simp only [step, h]; rw [hs]; simp)
theorem go_say {S : List Int} {v : Int} (h : rowAt code f = some .say) (hs : f.stk = S ++ [v]) : Go code ks dp 1 ⟨l, t, none, f :: fs⟩ ⟨l, t ++ [.say v], none, { f with stk := S, pc := f.pc + 1 } :: fs⟩ :=
  .of h (by show f.stk ≠ []; rw [hs]; simp) (by simp only [step, h]; rw [hs]; simp)
theorem go_set {S : List Int} {v : Int} {k : Nat} (h : rowAt code f = some (.set k)) (hs : f.stk = S ++ [v]) : Go code ks dp 1 ⟨l, t, none, f :: fs⟩ ⟨l, t, none, { f with σ := f.σ.set k v, stk := S, pc := f.pc + 1 } :: fs⟩ :=
  .of h (by show f.stk ≠ []; rw [hs]; simp) (by simp only [step, h]; rw [hs]; simp)
theorem go_unless0 {S : List Int} {v q : Int} (h : rowAt code f = some (.unless q)) (hs : f.stk = S ++ [v]) (hv : v = 0) : Go code ks dp 1 ⟨l, t, none, f :: fs⟩ ⟨l, t, none, { f with stk := S, pc := q } :: fs⟩ :=
  .of h (by show f.stk ≠ []; rw [hs]; simp) (by simp only [step, h]; rw [hs]; simp [hv])
theorem go_unless1 {S : List Int} {v q : Int} (h : rowAt code f = some (.unless q)) (hs : f.stk = S ++ [v]) (hv : v ≠ 0) : Go code ks dp 1 ⟨l, t, none, f :: fs⟩ ⟨l, t, none, { f with stk := S, pc := f.pc + 1 } :: fs⟩ :=
  .of h (by show f.stk ≠ []; rw [hs]; simp) (by simp only [step, h]; rw [hs]; simp [hv])
theorem go_go {z : Int} (h : rowAt code f = some (.go z)) : Go code ks dp 1 ⟨l, t, none, f :: fs⟩ ⟨l, t, none, { f with pc := z } :: fs⟩ := .of h trivial (by simp only [step, h])
theorem go_turn (h : rowAt code f = some .turn) (hl : 0 < l) : Go code ks dp 1 ⟨l, t, none, f :: fs⟩ ⟨l - 1, t, none, { f with pc := f.pc + 1 } :: fs⟩ :=
  .of h trivial (by simp only [step, h]; rw [if_neg (by omega)])
theorem go_dry (h : rowAt code f = some .turn) (hl : l ≤ 0) : Go code ks dp 1 ⟨l, t, none, f :: fs⟩ ⟨l - 1, t, some .dry, { f with pc := f.pc + 1 } :: fs⟩ :=
  .of h trivial (by simp only [step, h]; rw [if_pos (by omega)])
theorem go_leap {g D : Int} (h : rowAt code f = some (.leap g D)) : Go code ks dp 1 ⟨l, t, none, f :: fs⟩ (doAct code ks l t f fs (.leap g D)) :=
  .of h trivial (by simp only [step, h]; exact (doLeap_m (m := ⟨l, t, none, f :: fs⟩) (x := [])).symm)
theorem go_ret {S : List Int} {v : Int} (h : rowAt code f = some .ret) (hs : f.stk = S ++ [v]) : Go code ks dp 1 ⟨l, t, none, f :: fs⟩ (doAct code ks l t { f with stk := S } fs (.ret v)) :=
  .of h (by show f.stk ≠ []; rw [hs]; simp) (by simp only [step, h]; rw [hs]; simp only [List.getLastD_concat, List.dropLast_concat]; exact (doRet_m (m := ⟨l, t, none, f :: fs⟩) (x := [])).symm)
theorem go_rais {S : List Int} {v m : Int} {kd : Nat} (h : rowAt code f = some (.rais kd m)) (hs : f.stk = S ++ [v]) : Go code ks dp 1 ⟨l, t, none, f :: fs⟩ (doAct code ks l t { f with stk := S } fs (.flt ⟨kd, v, [m]⟩)) :=
  .of h (by show f.stk ≠ []; rw [hs]; simp) (by simp only [step, h]; rw [hs]; simp only [List.getLastD_concat, List.dropLast_concat]; exact (doFly_m (m := ⟨l, t, none, f :: fs⟩) (x := [])).symm)
theorem go_again {x : Flt} (h : rowAt code f = some .again) (hm : (metsOf f.held).getLast? = some x) : Go code ks dp 1 ⟨l, t, none, f :: fs⟩ (doAct code ks l t f fs (.flt x)) :=
  .of h (by show metsOf f.held ≠ []; intro z; rw [z] at hm; cases hm) (by simp only [step, h, hm]; exact (doFly_m (m := ⟨l, t, none, f :: fs⟩) (x := [])).symm)
theorem go_callD {fn n : Nat} {m : Int} (h : rowAt code f = some (.call fn n m)) (hn : n ≤ f.stk.length) (hl : l ≤ 0) : Go code ks dp 1 ⟨l, t, none, f :: fs⟩ ⟨l - 1, t, some .dry, f :: fs⟩ :=
  .of h hn (by simp only [step, h]; rw [if_pos (by omega)])
theorem go_callP {fn n : Nat} {m : Int} (h : rowAt code f = some (.call fn n m)) (hn : n ≤ f.stk.length) (hl : 0 < l) (hd : fs.length + 1 = dp) : Go code ks dp 1 ⟨l, t, none, f :: fs⟩ ⟨l - 1, t, some .deep, f :: fs⟩ :=
  .of h hn (by simp only [step, h]; rw [if_neg (by omega), if_pos hd])
theorem go_call {fn : Nat} {m : Int} {S as : List Int} (h : rowAt code f = some (.call fn as.length m)) (hs : f.stk = S ++ as) (hl : 0 < l) (hd : fs.length + 1 ≠ dp) : Go code ks dp 1 ⟨l, t, none, f :: fs⟩ ⟨l - 1, t, none, ⟨fn, slotsFor as, 0, [], []⟩ :: { f with stk := S } :: fs⟩ :=
  .of h (by show as.length ≤ f.stk.length; rw [hs]; simp) (by
    simp only [step, h]; rw [if_neg (by omega), if_neg hd, hs]
    simp)
theorem go_hand {b x D : Int} {kd : Option Nat} {y : Flt} (h : rowAt code f = some (.hand b x kd D)) (hm : f.held.getLast? = some (.met y)) : Go code ks dp 1 ⟨l, t, none, f :: fs⟩ ⟨l, t ++ [.met y], none, { f with stk := f.stk ++ [y.v], pc := f.pc + 1 } :: fs⟩ :=
  .of h ⟨y, hm⟩ (by simp only [step, h, hm])
theorem go_settled {B : List Hl} {y : Hl} (h : rowAt code f = some .settled) (hm : f.held = B ++ [y]) : Go code ks dp 1 ⟨l, t, none, f :: fs⟩ ⟨l, t, none, { f with held := B, pc := f.pc + 1 } :: fs⟩ :=
  .of h (by show f.held ≠ []; rw [hm]; simp) (by simp only [step, h]; rw [hm]; simp)
theorem go_mend (h : rowAt code f = some .mend) : Go code ks dp 1 ⟨l, t, none, f :: fs⟩ ⟨l, t, none, { f with held := f.held ++ [.on], pc := f.pc + 1 } :: fs⟩ := .of h trivial (by simp only [step, h])
theorem go_cup {b x D : Int} (h : rowAt code f = some (.cup b x D)) : Go code ks dp 1 ⟨l, t, none, f :: fs⟩ ⟨l, t, none, { f with pc := f.pc + 1 } :: fs⟩ := .of h trivial (by simp only [step, h])
theorem go_resOn {B : List Hl} (h : rowAt code f = some .resume) (hm : f.held = B ++ [.on]) : Go code ks dp 1 ⟨l, t, none, f :: fs⟩ ⟨l, t, none, { f with held := B, pc := f.pc + 1 } :: fs⟩ :=
  .of h ⟨.on, by rw [hm]; simp, fun _ z => by cases z⟩ (by simp only [step, h]; rw [hm]; simp)
theorem go_resAct {B : List Hl} {a : Act} (h : rowAt code f = some .resume) (hm : f.held = B ++ [a.pend]) : Go code ks dp 1 ⟨l, t, none, f :: fs⟩ (doAct code ks l t { f with held := B } fs a) :=
  .of h ⟨a.pend, by rw [hm]; simp, fun _ z => by cases a <;> cases z⟩ (by
    have e : f.held.getLast? = some a.pend := by rw [hm]; simp
    have e2 : f.held.dropLast = B := by rw [hm]; simp
    cases a with
    | leap g D =>
      simp only [step, h, e, Act.pend, e2]; exact (doLeap_m (m := ⟨l, t, none, f :: fs⟩) (x := [])).symm
    | ret v => simp only [step, h, e, Act.pend, e2]; exact (doRet_m (m := ⟨l, t, none, f :: fs⟩) (x := [])).symm
    | flt v => simp only [step, h, e, Act.pend, e2]; exact (doFly_m (m := ⟨l, t, none, f :: fs⟩) (x := [])).symm)
end

/-! ### where code stands -/
def CodeAt (rows : List Rw) (b : Int) (l : List Rw) : Prop := 0 ≤ b ∧ ∀ (i : Nat) (r : Rw), l[i]? = some r → rows[(b + (i : Int)).toNat]? = some r
theorem CodeAt.app {rows l m : List Rw} {b : Int} (h : CodeAt rows b (l ++ m)) : CodeAt rows b l ∧ CodeAt rows (b + l.length) m := by
  refine ⟨⟨h.1, fun i r e => h.2 i r ?_⟩, by have := h.1; omega, fun i r e => ?_⟩
  · rw [List.getElem?_append_left (List.getElem?_eq_some_iff.mp e).1]; exact e
  · have := h.2 (l.length + i) r (by rw [List.getElem?_append_right (by omega)]; rw [Nat.add_sub_cancel_left]; exact e)
    rw [show b + (l.length : Int) + (i : Int) = b + ((l.length + i : Nat) : Int) from by omega]
    exact this
theorem CodeAt.cons {rows l : List Rw} {b : Int} {r : Rw} (h : CodeAt rows b (r :: l)) : rows[b.toNat]? = some r ∧ CodeAt rows (b + 1) l := by
  refine ⟨by have := h.2 0 r rfl; rwa [show b + ((0 : Nat) : Int) = b from by omega] at this, by have := h.1; omega, fun i y e => ?_⟩
  have := h.2 (i + 1) y (by simpa using e)
  rw [show b + 1 + (i : Int) = b + ((i + 1 : Nat) : Int) from by omega]
  exact this
theorem CodeAt.at {rows l : List Rw} {b c : Int} (h : CodeAt rows b l) (e : b = c) : CodeAt rows c l := e ▸ h
theorem CodeAt.whole {l m : List Rw} : CodeAt (l ++ m) 0 l := ⟨Int.le_refl 0, fun i r e => by
  rw [show ((0 : Int) + (i : Int)).toNat = i from by omega, List.getElem?_append_left (List.getElem?_eq_some_iff.mp e).1]; exact e⟩
theorem rowAt_of {f : Fr} {c : Fc} {r : Rw} {q : Int} (h : code[f.fn]? = some c) (e : c.rows[q.toNat]? = some r) (hq : f.pc = q) : rowAt code f = some r := by
  unfold rowAt; rw [h, hq]; exact e
theorem tabOf_of {f : Fr} {c : Fc} (h : code[f.fn]? = some c) : tabOf code f = c.tab := by unfold tabOf; rw [h]
/-- the rows of an expression -/
theorem go_ex {σ : List Int} {fn : Nat} {c : Fc} {held : List Hl} (hc : code[fn]? = some c) {l : Int} {t : List Ev} {fs : List Fr} : ∀ {e : Ex} {b : Int} {S : List Int}, CodeAt c.rows b e.code → Go code ks dp e.len ⟨l, t, none, ⟨fn, σ, b, S, held⟩ :: fs⟩ ⟨l, t, none, ⟨fn, σ, b + e.len, S ++ [e.val σ], held⟩ :: fs⟩
  | .num n, b, S, h => go_num (f := ⟨fn, σ, b, S, held⟩) (rowAt_of hc h.cons.1 rfl)
  | .var k, b, S, h => go_var (f := ⟨fn, σ, b, S, held⟩) (rowAt_of hc h.cons.1 rfl)
  | .bin o a e, b, S, h => by
    obtain ⟨h1, h2⟩ := CodeAt.app (show CodeAt c.rows b (a.code ++ e.code ++ [.op o]) from h)
    obtain ⟨h3, h4⟩ := h1.app
    rw [Ex.code_len] at h4
    have h5 := (h2.at (c := b + a.len + e.len) (by simp [Ex.code_len]; omega)).cons.1
    have g := ((go_ex hc (l := l) (t := t) (fs := fs) (S := S) h3).trans (go_ex hc h4)).trans (go_op (f := ⟨fn, σ, b + a.len + e.len, S ++ [a.val σ] ++ [e.val σ], held⟩) (rowAt_of hc h5 rfl) rfl)
    rw [show b + ((Ex.bin o a e).len : Int) = b + a.len + e.len + 1 from by simp [Ex.len]; omega]
    exact g
theorem go_exs {σ : List Int} {fn : Nat} {c : Fc} {held : List Hl} (hc : code[fn]? = some c) {l : Int} {t : List Ev} {fs : List Fr} : ∀ {ps : List Ex} {b : Int} {S : List Int}, CodeAt c.rows b (exsCode ps) → Go code ks dp (exsLen ps) ⟨l, t, none, ⟨fn, σ, b, S, held⟩ :: fs⟩ ⟨l, t, none, ⟨fn, σ, b + exsLen ps, S ++ ps.map (Ex.val σ), held⟩ :: fs⟩
  | [], b, S, h => by
    rw [show b + ((exsLen [] : Nat) : Int) = b from by simp [exsLen]]
    simp only [List.map_nil, List.append_nil]
    exact .nil
  | e :: ps, b, S, h => by
    obtain ⟨h1, h2⟩ := CodeAt.app (show CodeAt c.rows b (e.code ++ exsCode ps) from h)
    rw [Ex.code_len] at h2
    have g := (go_ex hc (ks := ks) (dp := dp) (l := l) (t := t) (fs := fs) (S := S) (σ := σ) (held := held) h1).trans (go_exs hc h2)
    rw [show b + ((exsLen (e :: ps) : Nat) : Int) = b + e.len + exsLen ps from by simp [exsLen]; omega]
    simp only [List.append_assoc, List.singleton_append] at g
    exact g
end
end Lp

/-! Lh: what a program does by its tree, the machine does over its code. -/
namespace Lp
open PySem PySem.Spec PyProof.Rows L2
/-! ### where a table stands -/
def OutP (b : Int) (n : Nat) (e : Tb) : Prop := e.x ≤ b ∨ b + n ≤ e.b ∨ (e.b ≤ b ∧ b + n ≤ e.x ∧ (e.kd = none → b + n < e.x))
theorem OutP.sub {b b' : Int} {n n' : Nat} {e : Tb} (h : OutP b n e) (hb : b ≤ b') (hn : b' + n' ≤ b + n) : OutP b' n' e := by
  rcases h with h | h | ⟨h1, h2, h3⟩
  · exact .inl (by omega)
  · exact .inr (.inl (by omega))
  · exact .inr (.inr ⟨by omega, by omega, fun z => by have := h3 z; omega⟩)
structure TabAt (T : List Tb) (b : Int) (n : Nat) (L : List Tb) : Prop where
  ex : ∃ pre post, T = pre ++ (L ++ post) ∧ (∀ e ∈ pre, e.x ≤ b) ∧ (∀ e ∈ post, OutP b n e)
theorem TabAt.sub {T L L1 L2 L3 : List Tb} {b b' : Int} {n n' : Nat} (h : TabAt T b n L) (e : L = L1 ++ (L2 ++ L3)) (hb : b ≤ b') (hn : b' + n' ≤ b + n) (h1 : ∀ e ∈ L1, e.x ≤ b') (h3 : ∀ e ∈ L3, OutP b' n' e) : TabAt T b' n' L2 := by
  obtain ⟨pre, post, rfl, hpre, hpost⟩ := h.ex
  subst e
  refine ⟨pre ++ L1, L3 ++ post, by simp only [List.append_assoc], fun t ht => ?_, fun t ht => ?_⟩
  · rcases List.mem_append.mp ht with ht | ht
    · have := hpre t ht; omega
    · exact h1 t ht
  · rcases List.mem_append.mp ht with ht | ht
    · exact h3 t ht
    · exact (hpost t ht).sub hb hn
structure Sit (c : Fc) (b : Int) (l : List Rw) : Prop where
  code : CodeAt c.rows b l
  tab : TabAt c.tab b l.length (tabAt b l)
theorem Sit.sub {c : Fc} {b b' : Int} {l l1 l2 l3 : List Rw} (h : Sit c b l) (e : l = l1 ++ (l2 ++ l3)) (hb : b' = b + l1.length) (h1 : ∀ t ∈ tabAt b l1, t.x ≤ b') (h3 : ∀ t ∈ tabAt (b' + l2.length) l3, OutP b' l2.length t) : Sit c b' l2 := by
  subst e
  subst hb
  refine ⟨h.code.app.2.app.1, h.tab.sub (L1 := tabAt b l1) (L3 := tabAt (b + l1.length + l2.length) l3) (by rw [tabAt_app, tabAt_app]) (by omega) (by simp; omega) h1 h3⟩
theorem mem_tab {s : Sm} {b c D : Int} {tn : Tn} {t : Tb} (h : t ∈ tabAt c (s.code b D tn)) (e : c = b) : Inn b s.len D t := by
  subst e; exact (Sm.tab s c D tn).1 t h
theorem mem_tabs {s : Sms} {b c D : Int} {tn : Tn} {t : Tb} (h : t ∈ tabAt c (s.code b D tn)) (e : c = b) : Inn b s.len D t := by
  subst e; exact (Sms.tab s c D tn).1 t h
theorem tab_ex {e : Ex} {b : Int} {X : List Rw} : tabAt b (e.code ++ X) = tabAt (b + e.len) X := by rw [tabAt_app, Ex.tab, Ex.code_len]; rfl
theorem tab_exs {ps : List Ex} {b : Int} {X : List Rw} : tabAt b (exsCode ps ++ X) = tabAt (b + exsLen ps) X := by rw [tabAt_app, exs_tab, exsCode_len]; rfl
theorem tab_sm {s : Sm} {b c D : Int} {tn : Tn} {X : List Rw} : tabAt c (s.code b D tn ++ X) = tabAt c (s.code b D tn) ++ tabAt (c + s.len) X := by rw [tabAt_app, Sm.code_len]
theorem CodeAt.ex {rows X : List Rw} {e : Ex} {b : Int} (h : CodeAt rows b (e.code ++ X)) : CodeAt rows b e.code ∧ CodeAt rows (b + e.len) X := by
  have := h.app; rwa [Ex.code_len] at this
theorem CodeAt.exs {rows X : List Rw} {ps : List Ex} {b : Int} (h : CodeAt rows b (exsCode ps ++ X)) : CodeAt rows b (exsCode ps) ∧ CodeAt rows (b + exsLen ps) X := by
  have := h.app; rwa [exsCode_len] at this
theorem CodeAt.sm {rows X : List Rw} {s : Sm} {b c D : Int} {tn : Tn} (h : CodeAt rows c (s.code b D tn ++ X)) : CodeAt rows (c + s.len) X := by
  have := h.app.2; rwa [Sm.code_len] at this
/-- the handlers' rows of a table -/
theorem Hds.tab2 : ∀ (hs : Hds) (b x z at_ D : Int) (tn : Tn), x ≤ at_ → ∀ e ∈ tabAt at_ (hs.code b x z at_ D tn), e.x ≤ e.p ∧ at_ ≤ e.p ∧ e.p < at_ + hs.len ∧ ((e.b = b ∧ e.x = x ∧ e.D = D ∧ e.kd ≠ none) ∨ at_ ≤ e.b)
  | .nil, _, _, _, _, _, _, _, _, h => nomatch h
  | .cons k sl t r, b, x, z, at_, D, tn, hxa, e, h => by
    have e1 : tabAt at_ ((Hds.cons k sl t r).code b x z at_ D tn) = ⟨b, x, some k, at_, D⟩ :: (tabAt (at_ + 2) (t.code (at_ + 2) (D + 1) tn) ++ tabAt (at_ + 2 + t.len + 2) (r.code b x z (at_ + 2 + t.len + 2) D tn)) := by
      simp only [Hds.code, tabAt_app, Sm.code_len, List.length_append, List.length_cons, List.length_nil]
      have z1 : at_ + ((0 + 1 + 1 : Nat) : Int) = at_ + 2 := by omega
      have z2 : at_ + ((0 + 1 + 1 + t.len + (0 + 1 + 1) : Nat) : Int) = at_ + 2 + t.len + 2 := by omega
      rw [z1, z2]
      simp [tabAt, tbOf]
    rw [e1] at h
    show e.x ≤ e.p ∧ at_ ≤ e.p ∧ e.p < at_ + ((2 + t.len + 2 + r.len : Nat) : Int) ∧ _
    rcases List.mem_cons.mp h with rfl | h
    · exact ⟨hxa, Int.le_refl _, by simp; omega, .inl ⟨rfl, rfl, rfl, by simp⟩⟩
    · rcases List.mem_append.mp h with h | h
      · obtain ⟨k1, k2, k3, k4, k5⟩ := mem_tab h rfl
        exact ⟨k3, by omega, by omega, .inr (by omega)⟩
      · obtain ⟨k1, k2, k3, k4⟩ := Hds.tab2 r b x z (at_ + 2 + t.len + 2) D tn (by omega) e h
        exact ⟨k1, by omega, by omega, k4.imp id fun z => by omega⟩
def blk (b x z at_ D : Int) (tn : Tn) (k : Option Nat) (sl : Nat) (t : Sm) : List Rw := .hand b x k D :: .set sl :: (t.code (at_ + 2) (D + 1) tn ++ [.settled, .go z])
theorem hds_cons {k : Option Nat} {sl : Nat} {t : Sm} {r : Hds} {b x z at_ D : Int} {tn : Tn} : (Hds.cons k sl t r).code b x z at_ D tn = [] ++ (blk b x z at_ D tn k sl t ++ r.code b x z (at_ + 2 + t.len + 2) D tn) := by
  simp only [Hds.code, blk, List.append_assoc, List.cons_append, List.nil_append]
theorem blk_len {b x z at_ D : Int} {tn : Tn} {k : Option Nat} {sl : Nat} {t : Sm} : (blk b x z at_ D tn k sl t).length = 2 + t.len + 2 := by
  simp [blk, Sm.code_len]; omega
theorem blk_tab {b x z at_ D : Int} {tn : Tn} {k : Option Nat} {sl : Nat} {t : Sm} : tabAt at_ (blk b x z at_ D tn k sl t) = ⟨b, x, some k, at_, D⟩ :: tabAt (at_ + 2) (t.code (at_ + 2) (D + 1) tn) := by
  simp only [blk, tabAt, tbOf, tab_sm, List.append_nil, List.singleton_append, List.nil_append, List.cons_append]
  rw [show at_ + 1 + 1 = at_ + 2 from by omega]
/-- the handler that takes a fault -/
theorem Hds.find {ks : List (Option Nat)} {k : Nat} {c : Fc} {b x z D q : Int} {tn : Tn} (hq : b ≤ q) (hq2 : q < x) : ∀ {hs : Hds} {at_ : Int}, x ≤ at_ → Sit c at_ (hs.code b x z at_ D tn) →
    (hs.pick ks k = none → ∀ e ∈ tabAt at_ (hs.code b x z at_ D tn), catchF ks q k e = false) ∧
    (∀ y, hs.pick ks k = some y → ∃ w, (tabAt at_ (hs.code b x z at_ D tn)).find? (catchF ks q k) = some ⟨b, x, some w, at_ + y.2.2, D⟩ ∧ Sit c (at_ + y.2.2) (blk b x z (at_ + y.2.2) D tn w y.1 y.2.1))
  | .nil, at_, _, _ => ⟨fun _ _ h => (nomatch h), fun _ h => by cases h⟩
  | .cons w sl t r, at_, hxa, hs => by
    have e1 : tabAt at_ ((Hds.cons w sl t r).code b x z at_ D tn) = ⟨b, x, some w, at_, D⟩ :: (tabAt (at_ + 2) (t.code (at_ + 2) (D + 1) tn) ++ tabAt (at_ + 2 + t.len + 2) (r.code b x z (at_ + 2 + t.len + 2) D tn)) := by
      rw [hds_cons, List.nil_append, tabAt_app, blk_tab, blk_len, List.cons_append]
      rw [show at_ + ((2 + t.len + 2 : Nat) : Int) = at_ + 2 + t.len + 2 from by omega]
    have s2 : Sit c (at_ + 2 + t.len + 2) (r.code b x z (at_ + 2 + t.len + 2) D tn) := by
      refine hs.sub (l1 := blk b x z at_ D tn w sl t) (l3 := []) (by rw [hds_cons]; simp) (by rw [blk_len]; omega) (fun e he => ?_) (fun _ h => nomatch h)
      rw [blk_tab] at he
      rcases List.mem_cons.mp he with rfl | he
      · show x ≤ _; omega
      · obtain ⟨k1, k2, k3, k4, k5⟩ := mem_tab he rfl; omega
    have ih := Hds.find (ks := ks) (k := k) hq hq2 (hs := r) (by omega) s2
    have ht : ∀ e ∈ tabAt (at_ + 2) (t.code (at_ + 2) (D + 1) tn), catchF ks q k e = false := fun e he => by
      obtain ⟨k1, k2, k3, k4, k5⟩ := mem_tab he rfl
      exact catchA_in (a := .flt ⟨k, 0, []⟩) (.inr (by omega))
    have own : catchF ks q k ⟨b, x, some w, at_, D⟩ = takes ks w k := by
      simp [catchF, hq, hq2]
    rw [e1]
    unfold Hds.pick
    by_cases hw : takes ks w k = true
    · rw [if_pos hw]
      refine ⟨fun z => (by cases z), fun y ey => ?_⟩
      cases ey
      have e0 : at_ + ((0 : Nat) : Int) = at_ := by omega
      refine ⟨w, ?_, ?_⟩
      · rw [List.find?_cons_of_pos (by rw [own]; exact hw)]
        show some _ = some (⟨b, x, some w, at_ + ((0 : Nat) : Int), D⟩ : Tb)
        rw [e0]
      · show Sit c (at_ + ((0 : Nat) : Int)) (blk b x z (at_ + ((0 : Nat) : Int)) D tn w sl t)
        rw [e0]
        refine hs.sub (l1 := []) (l3 := r.code b x z (at_ + 2 + t.len + 2) D tn) hds_cons (by simp) (fun _ h => nomatch h) fun e he => ?_
        rw [blk_len, show at_ + ((2 + t.len + 2 : Nat) : Int) = at_ + 2 + t.len + 2 from by omega] at he
        rw [blk_len]
        obtain ⟨k1, k2, k3, k4 | k4⟩ := Hds.tab2 r b x z _ D tn (by omega) e he
        · exact .inl (by omega)
        · exact .inr (.inl (by omega))
    · rw [if_neg hw]
      have hw' : takes ks w k = false := by simpa using hw
      have skip : ∀ l, (⟨b, x, some w, at_, D⟩ :: (tabAt (at_ + 2) (t.code (at_ + 2) (D + 1) tn) ++ l)).find? (catchF ks q k) = l.find? (catchF ks q k) := fun l => by
        rw [List.find?_cons_of_neg (by rw [own, hw']; decide), find_skip ht]
      cases e2 : r.pick ks k with
      | none =>
        refine ⟨fun _ e he => ?_, fun y ey => (by cases ey)⟩
        rcases List.mem_cons.mp he with rfl | he
        · rw [own]; exact hw'
        · rcases List.mem_append.mp he with he | he
          · exact ht e he
          · exact ih.1 e2 e he
      | some y0 =>
        refine ⟨fun z => (nomatch z), fun y ey => ?_⟩
        cases ey
        obtain ⟨w', f1, f2⟩ := ih.2 y0 e2
        have eo : at_ + 2 + (t.len : Int) + 2 + (y0.2.2 : Int) = at_ + ((y0.2.2 + (2 + t.len + 2) : Nat) : Int) := by omega
        rw [eo] at f1 f2
        exact ⟨w', by rw [skip]; exact f1, f2⟩

/-! ### how a statement's rows end -/
def actOf (tn : Tn) : Out → Option Act
  | .brk => some (.leap tn.2.1 tn.2.2)
  | .cnt => some (.leap tn.1 tn.2.2)
  | .ret v => some (.ret v)
  | .flt f => some (.flt f)
  | _ => none
section
variable (code : List Fc) (ks : List (Option Nat)) (fn : Nat) (fs : List Fr)
inductive Fin (b : Int) (n : Nat) (L : List Tb) (turn : Bool) (tn : Tn) (held : List Hl) : Out → WSt → Mc → Prop
  | on {w pc} : pc = b + n → Fin b n L turn tn held .on w ⟨w.left, w.told, none, ⟨fn, w.σ, pc, [], held⟩ :: fs⟩
  | over {o w m} : o.over = true → m.last = some o → m.told = w.told → m.left = w.left → Fin b n L turn tn held o w m
  | act {o w a q x} : actOf tn o = some a → (o = .brk ∨ o = .cnt → turn = true) → b ≤ q → q < b + n → (∀ e ∈ L, catchA ks q a e = false) → Fin b n L turn tn held o w (doAct code ks w.left w.told ⟨fn, w.σ, q, [], held ++ x⟩ fs a)
end
section
variable {code : List Fc} {ks : List (Option Nat)} {fn : Nat} {fs : List Fr} {b b' : Int} {n n' : Nat} {L L' : List Tb} {turn turn' : Bool} {tn tn' : Tn} {held : List Hl} {o : Out} {w : WSt} {m : Mc}
theorem Fin.on_eq (h : Fin code ks fn fs b n L turn tn held .on w m) : m = ⟨w.left, w.told, none, ⟨fn, w.σ, b + n, [], held⟩ :: fs⟩ := by
  cases h with
  | on e => rw [e]
  | over h => cases h
  | act h => cases h
theorem Fin.up {y : List Hl} (h : Fin code ks fn fs b' n' L' turn' tn' (held ++ y) o w m) (ho : o ≠ .on) (hb : b ≤ b') (hn : b' + n' ≤ b + n) (ht : actOf tn' o = actOf tn o) (hu : o = .brk ∨ o = .cnt → turn' = true → turn = true)
    (hL : ∀ e ∈ L, e ∈ L' ∨ ∀ q, b' ≤ q → q < b' + n' → ∀ a, actOf tn o = some a → catchA ks q a e = false) : Fin code ks fn fs b n L turn tn held o w m := by
  cases h with
  | on _ => exact absurd rfl ho
  | over h1 h2 h3 h4 => exact .over h1 h2 h3 h4
  | act h1 h2 h3 h4 h5 =>
    rw [List.append_assoc]
    refine .act (ht ▸ h1) (fun z => hu z (h2 z)) (by omega) (by omega) fun e he => ?_
    rcases hL e he with z | z
    · exact h5 e z
    · exact z _ h3 h4 _ (ht ▸ h1)
/-- the same, nothing more held -/
theorem Fin.up0 (h : Fin code ks fn fs b' n' L' turn tn held o w m) (ho : o ≠ .on) (hb : b ≤ b') (hn : b' + n' ≤ b + n)
    (hL : ∀ e ∈ L, e ∈ L' ∨ e.x ≤ b' ∨ b' + n' ≤ e.b) : Fin code ks fn fs b n L turn tn held o w m :=
  Fin.up (y := []) (by rw [List.append_nil]; exact h) ho hb hn rfl (fun _ => id) fun e he => (hL e he).imp id fun z q h1 h2 a _ => catchA_in (z.imp (fun y => by omega) fun y => by omega)
end
end Lp

/-! Li: what a program does by its tree, the machine does over its code. -/
namespace Lp
open PySem PySem.Spec PyProof.Rows L2
def GoalOut (tn : Tn) (b : Int) (n : Nat) : Prop := tn.1 < b ∧ b + n ≤ tn.2.1
theorem GoalOut.sub {tn : Tn} {b b' : Int} {n n' : Nat} (h : GoalOut tn b n) (hb : b ≤ b') (hn : b' + n' ≤ b + n) : GoalOut tn b' n' := by
  obtain ⟨h1, h2⟩ := h; exact ⟨by omega, by omega⟩
def SimP (p : Pg) (dp d : Nat) (met : List Flt) (s : Sm) (w : WSt) (o : Out) (w1 : WSt) (c : Nat) : Prop :=
  ∀ (turn hand : Bool) (tn : Tn) (b D : Int) (fn : Nat) (fc : Fc) (held : List Hl) (fs : List Fr), s.Wf p.cs p.kinds.length turn hand → p.code[fn]? = some fc → D = held.length → Sit fc b (s.code b D tn) → (turn = true → GoalOut tn b s.len) → metsOf held = met → fs.length + 1 = d →
    ∃ m', Go p.code p.kinds dp c ⟨w.left, w.told, none, ⟨fn, w.σ, b, [], held⟩ :: fs⟩ m' ∧ Fin p.code p.kinds fn fs b s.len (tabAt b (s.code b D tn)) turn tn held o w1 m'
def SimS (p : Pg) (dp d : Nat) (met : List Flt) (s : Sms) (w : WSt) (o : Out) (w1 : WSt) (c : Nat) : Prop :=
  ∀ (turn hand : Bool) (tn : Tn) (b D : Int) (fn : Nat) (fc : Fc) (held : List Hl) (fs : List Fr), s.Wf p.cs p.kinds.length turn hand → p.code[fn]? = some fc → D = held.length → Sit fc b (s.code b D tn) → (turn = true → GoalOut tn b s.len) → metsOf held = met → fs.length + 1 = d →
    ∃ m', Go p.code p.kinds dp c ⟨w.left, w.told, none, ⟨fn, w.σ, b, [], held⟩ :: fs⟩ m' ∧ Fin p.code p.kinds fn fs b s.len (tabAt b (s.code b D tn)) turn tn held o w1 m'
theorem tick_on (n : Nat) : Out.on.tick n = n := by simp [Out.tick]
theorem tick_off {o : Out} (h : o ≠ .on) (n : Nat) : o.tick n = 0 := by simp [Out.tick, h]
section
variable {b D : Int} {tn : Tn}
theorem tab_ife {e : Ex} {s t : Sm} : tabAt b ((Sm.ife e s t).code b D tn) = tabAt (b + e.len + 1) (s.code (b + e.len + 1) D tn) ++ tabAt (b + e.len + 1 + s.len + 1) (t.code (b + e.len + 1 + s.len + 1) D tn) := by
  simp only [Sm.code, tabAt_app, Ex.tab, Ex.code_len, Sm.code_len, List.length_append, List.nil_append, List.length_cons, List.length_nil]
  have z1 : b + ((e.len + (0 + 1) : Nat) : Int) = b + e.len + 1 := by omega
  have z2 : b + ((e.len + (0 + 1) + s.len + (0 + 1) : Nat) : Int) = b + e.len + 1 + s.len + 1 := by omega
  rw [z1, z2]
  simp [tabAt, tbOf]
theorem tab_whl {e : Ex} {s : Sm} : tabAt b ((Sm.whl e s).code b D tn) = tabAt (b + e.len + 2) (s.code (b + e.len + 2) D (b, b + e.len + 2 + s.len + 1, D)) := by
  simp only [Sm.code, tabAt_app, Ex.tab, Ex.code_len, Sm.code_len, List.length_append, List.nil_append, List.length_cons, List.length_nil]
  have z1 : b + ((e.len + (0 + 1 + 1) : Nat) : Int) = b + e.len + 2 := by omega
  rw [z1]
  simp [tabAt, tbOf]
theorem tab_tri {s : Sm} {hs : Hds} : tabAt b ((Sm.tri s hs).code b D tn) = tabAt b (s.code b D tn) ++ tabAt (b + s.len + 1) (hs.code b (b + s.len) (b + s.len + 1 + hs.len) (b + s.len + 1) D tn) := by
  simp only [Sm.code, tabAt_app, Sm.code_len, List.length_append, List.length_cons, List.length_nil]
  have z1 : b + ((s.len + (0 + 1) : Nat) : Int) = b + s.len + 1 := by omega
  rw [z1]
  simp [tabAt, tbOf]
theorem tab_cln {s c : Sm} : tabAt b ((Sm.cln s c).code b D tn) = tabAt b (s.code b D tn) ++ ⟨b, b + s.len + 1, none, b + s.len + 1, D⟩ :: tabAt (b + s.len + 2) (c.code (b + s.len + 2) (D + 1) tn) := by
  simp only [Sm.code, tabAt_app, Sm.code_len, List.length_append, List.length_cons, List.length_nil]
  have z1 : b + ((s.len + (0 + 1 + 1) : Nat) : Int) = b + s.len + 2 := by omega
  rw [z1]
  simp [tabAt, tbOf]
theorem tab_cons {s : Sm} {r : Sms} : tabAt b ((Sms.cons s r).code b D tn) = tabAt b (s.code b D tn) ++ tabAt (b + s.len) (r.code (b + s.len) D tn) := by
  simp only [Sms.code, tabAt_app, Sm.code_len]
end
/-- no cleanup is left by a leap within -/
theorem leap_none {ks : List (Option Nat)} {T L : List Tb} {b q g D : Int} {n : Nat} (h : TabAt T b n L) (h1 : b ≤ q) (h2 : q < b + n) (hL : ∀ e ∈ L, catchA ks q (.leap g D) e = false) (g1 : b ≤ g) (g2 : g ≤ b + n) : T.find? (catchA ks q (.leap g D)) = none := by
  obtain ⟨pre, post, rfl, hpre, hpost⟩ := h.ex
  refine find_no fun e he => ?_
  rcases List.mem_append.mp he with he | he
  · exact catchA_in (.inl (by have := hpre e he; omega))
  · rcases List.mem_append.mp he with he | he
    · exact hL e he
    · rcases hpost e he with z | z | ⟨z1, z2, z3⟩
      · exact catchA_in (.inl (by omega))
      · exact catchA_in (.inr (by omega))
      · cases hk : e.kd with
        | some w => simp [catchA, catchC, hk]
        | none =>
          have := z3 hk
          simp only [catchA, catchC, hk]
          rw [decide_eq_true (show e.b ≤ g by omega), decide_eq_true (show g < e.x by omega)]; simp
/-- nothing of the whole function's table takes it -/
theorem find_body {ks : List (Option Nat)} {T L : List Tb} {b q : Int} {a : Act} {n : Nat} {x : Option Tb} (h : TabAt T b n L) (h1 : b ≤ q) (hL : ∀ Y, (L ++ Y).find? (catchA ks q a) = x) : T.find? (catchA ks q a) = x := by
  obtain ⟨pre, post, rfl, hpre, hpost⟩ := h.ex
  rw [find_skip fun e he => catchA_in (.inl (by have := hpre e he; omega))]
  exact hL post
section
variable {p : Pg} {dp d : Nat} {met : List Flt} {s t : Sm} {e : Ex} {w w1 w2 : WSt} {o o2 : Out} {c c2 : Nat}
theorem sim_say : SimP p dp d met (.say e) w .on { w with told := w.told ++ [.say (e.val w.σ)] } (e.len + 1) := by
  intro turn hand tn b D fn fc held fs wf hc hD hs hg hm hf
  obtain ⟨h1, h2⟩ := CodeAt.ex (show CodeAt fc.rows b (e.code ++ [.say]) from hs.code)
  exact ⟨_, (go_ex hc h1).trans (go_say (f := ⟨fn, w.σ, b + e.len, [] ++ [e.val w.σ], held⟩) (S := []) (rowAt_of hc h2.cons.1 rfl) rfl), .on (w := { w with told := w.told ++ [.say (e.val w.σ)] }) (by show b + e.len + 1 = b + ((e.len + 1 : Nat) : Int); omega)⟩
theorem sim_set {k : Nat} : SimP p dp d met (.set k e) w .on { w with σ := w.σ.set k (e.val w.σ) } (e.len + 1) := by
  intro turn hand tn b D fn fc held fs wf hc hD hs hg hm hf
  obtain ⟨h1, h2⟩ := CodeAt.ex (show CodeAt fc.rows b (e.code ++ [.set k]) from hs.code)
  exact ⟨_, (go_ex hc h1).trans (go_set (f := ⟨fn, w.σ, b + e.len, [] ++ [e.val w.σ], held⟩) (S := []) (rowAt_of hc h2.cons.1 rfl) rfl), .on (w := { w with σ := w.σ.set k (e.val w.σ) }) (by show b + e.len + 1 = b + ((e.len + 1 : Nat) : Int); omega)⟩
theorem noneL {X : List Tb} {ks : List (Option Nat)} {q : Int} {a : Act} (h : X = []) : ∀ e ∈ X, catchA ks q a e = false := by subst h; exact fun _ h => nomatch h
/-- where it is left: the frame as it stands -/
theorem Fin.act0 {code : List Fc} {ks : List (Option Nat)} {fn : Nat} {fs : List Fr} {b q : Int} {n : Nat} {L : List Tb} {turn : Bool} {tn : Tn} {held : List Hl} {a : Act} {f : Fr} (h : actOf tn o = some a) (hu : o = .brk ∨ o = .cnt → turn = true) (h1 : b ≤ q) (h2 : q < b + n) (hL : ∀ e ∈ L, catchA ks q a e = false) (hf : f = ⟨fn, w.σ, q, [], held⟩) :
    Fin code ks fn fs b n L turn tn held o w (doAct code ks w.left w.told f fs a) := by
  subst hf
  have := Fin.act (code := code) (ks := ks) (fn := fn) (fs := fs) (b := b) (n := n) (L := L) (turn := turn) (tn := tn) (held := held) (w := w) (x := []) h hu h1 h2 hL
  rwa [List.append_nil] at this
theorem sim_brk : SimP p dp d met .brk w .brk w 1 := by
  intro turn hand tn b D fn fc held fs wf hc hD hs hg hm hf
  have h1 : CodeAt fc.rows b [.leap tn.2.1 tn.2.2] := hs.code
  exact ⟨_, go_leap (f := ⟨fn, w.σ, b, [], held⟩) (rowAt_of hc h1.cons.1 rfl), .act0 rfl (fun _ => wf) (Int.le_refl b) (by show b < b + ((1 : Nat) : Int); omega) (noneL rfl) rfl⟩
theorem sim_cnt : SimP p dp d met .cnt w .cnt w 1 := by
  intro turn hand tn b D fn fc held fs wf hc hD hs hg hm hf
  have h1 : CodeAt fc.rows b [.leap tn.1 tn.2.2] := hs.code
  exact ⟨_, go_leap (f := ⟨fn, w.σ, b, [], held⟩) (rowAt_of hc h1.cons.1 rfl), .act0 rfl (fun _ => wf) (Int.le_refl b) (by show b < b + ((1 : Nat) : Int); omega) (noneL rfl) rfl⟩
theorem sim_ret : SimP p dp d met (.ret e) w (.ret (e.val w.σ)) w (e.len + 1) := by
  intro turn hand tn b D fn fc held fs wf hc hD hs hg hm hf
  obtain ⟨h1, h2⟩ := CodeAt.ex (show CodeAt fc.rows b (e.code ++ [.ret]) from hs.code)
  exact ⟨_, (go_ex hc h1).trans (go_ret (f := ⟨fn, w.σ, b + e.len, [] ++ [e.val w.σ], held⟩) (S := []) (rowAt_of hc h2.cons.1 rfl) rfl), .act0 (q := b + e.len) rfl (fun z => by rcases z with z | z <;> cases z) (by omega) (by show b + e.len < b + ((e.len + 1 : Nat) : Int); omega) (noneL (by show tabAt b (e.code ++ [.ret]) = []; rw [tab_ex]; rfl)) rfl⟩
theorem sim_rais {kd : Nat} {m : Int} : SimP p dp d met (.rais kd e m) w (.flt ⟨kd, e.val w.σ, [m]⟩) w (e.len + 1) := by
  intro turn hand tn b D fn fc held fs wf hc hD hs hg hm hf
  obtain ⟨h1, h2⟩ := CodeAt.ex (show CodeAt fc.rows b (e.code ++ [.rais kd m]) from hs.code)
  exact ⟨_, (go_ex hc h1).trans (go_rais (f := ⟨fn, w.σ, b + e.len, [] ++ [e.val w.σ], held⟩) (S := []) (rowAt_of hc h2.cons.1 rfl) rfl), .act0 (q := b + e.len) rfl (fun z => by rcases z with z | z <;> cases z) (by omega) (by show b + e.len < b + ((e.len + 1 : Nat) : Int); omega) (noneL (by show tabAt b (e.code ++ [.rais kd m]) = []; rw [tab_ex]; rfl)) rfl⟩
theorem sim_again {f : Flt} (h : met.getLast? = some f) : SimP p dp d met .again w (.flt f) w 1 := by
  intro turn hand tn b D fn fc held fs wf hc hD hs hg hm hf
  have h1 : CodeAt fc.rows b [.again] := hs.code
  exact ⟨_, go_again (f := ⟨fn, w.σ, b, [], held⟩) (rowAt_of hc h1.cons.1 rfl) (by rw [← hm] at h; exact h), .act0 rfl (fun z => by rcases z with z | z <;> cases z) (Int.le_refl b) (by show b < b + ((1 : Nat) : Int); omega) (noneL rfl) rfl⟩
theorem sim_callD {k f : Nat} {ps : List Ex} {m : Int} (h : w.left ≤ 0) : SimP p dp d met (.call k f ps m) w .dry { w with left := w.left - 1 } (exsLen ps + 1) := by
  intro turn hand tn b D fn fc held fs wf hc hD hs hg hm hf
  obtain ⟨h1, h2⟩ := CodeAt.exs (show CodeAt fc.rows b (exsCode ps ++ [.call f ps.length m, .set k]) from hs.code)
  exact ⟨_, (go_exs hc h1).trans (go_callD (f := ⟨fn, w.σ, b + exsLen ps, [] ++ ps.map (Ex.val w.σ), held⟩) (rowAt_of hc h2.cons.1 rfl) (by simp) h), .over rfl rfl rfl rfl⟩
theorem sim_callP {k f : Nat} {ps : List Ex} {m : Int} (h : 0 < w.left) (hd : d = dp) : SimP p dp d met (.call k f ps m) w .deep { w with left := w.left - 1 } (exsLen ps + 1) := by
  intro turn hand tn b D fn fc held fs wf hc hD hs hg hm hf
  obtain ⟨h1, h2⟩ := CodeAt.exs (show CodeAt fc.rows b (exsCode ps ++ [.call f ps.length m, .set k]) from hs.code)
  exact ⟨_, (go_exs hc h1).trans (go_callP (f := ⟨fn, w.σ, b + exsLen ps, [] ++ ps.map (Ex.val w.σ), held⟩) (rowAt_of hc h2.cons.1 rfl) (by simp) h (by omega)), .over rfl rfl rfl rfl⟩
/-- a function's body stands where its code begins -/
theorem body_sit {n : Nat} {s : Sm} : Sit ⟨n, bodyRows s⟩ 0 (s.code 0 0 (0, 0, 0)) := by
  refine ⟨CodeAt.whole, [], [], ?_, (fun _ h => nomatch h), (fun _ h => nomatch h)⟩
  show tabAt 0 (bodyRows s) = _
  unfold bodyRows
  rw [tabAt_app]
  simp [tabAt, tbOf]
theorem body_end {s : Sm} : (bodyRows s)[(0 + (s.len : Int)).toNat]? = some (.num 0) ∧ (bodyRows s)[(0 + (s.len : Int) + 1).toNat]? = some .ret := by
  unfold bodyRows
  constructor
  · rw [List.getElem?_append_right (by rw [Sm.code_len]; omega), Sm.code_len]
    rw [show (0 + (s.len : Int)).toNat - s.len = 0 from by omega]; rfl
  · rw [List.getElem?_append_right (by rw [Sm.code_len]; omega), Sm.code_len]
    rw [show (0 + (s.len : Int) + 1).toNat - s.len = 1 from by omega]; rfl
theorem body_find {n : Nat} {s : Sm} {ks : List (Option Nat)} {q : Int} {a : Act} (h0 : 0 ≤ q) (h : ∀ e ∈ tabAt 0 (s.code 0 0 (0, 0, 0)), catchA ks q a e = false) : (Fc.tab ⟨n, bodyRows s⟩).find? (catchA ks q a) = none :=
  find_no fun e he => by
    have : Fc.tab ⟨n, bodyRows s⟩ = tabAt 0 (s.code 0 0 (0, 0, 0)) := by
      show tabAt 0 (bodyRows s) = _
      unfold bodyRows
      rw [tabAt_app]
      simp [tabAt, tbOf]
    rw [this] at he; exact h e he
theorem code_get {f : Nat} {fn : Nat × Sm} (h : p.funs[f]? = some fn) : p.code[f]? = some ⟨fn.1, bodyRows fn.2⟩ := by
  unfold Pg.code; rw [List.getElem?_map, h]; rfl
/-- behind the body's end: nought comes back -/
theorem body_on {l : Int} {t : List Ev} {f : Nat} {fn : Nat × Sm} {σ : List Int} {fs : List Fr} (h : p.funs[f]? = some fn) :
    Go p.code p.kinds dp 2 ⟨l, t, none, ⟨f, σ, 0 + fn.2.len, [], []⟩ :: fs⟩ (doAct p.code p.kinds l t ⟨f, σ, 0 + fn.2.len + 1, [], []⟩ fs (.ret 0)) :=
  (go_num (f := ⟨f, σ, 0 + fn.2.len, [], []⟩) (rowAt_of (code_get h) body_end.1 rfl)).trans (go_ret (f := ⟨f, σ, 0 + fn.2.len + 1, [] ++ [0], []⟩) (S := []) (rowAt_of (code_get h) body_end.2 rfl) rfl)
theorem body_find_end {f : Nat} {fn : Nat × Sm} {ks : List (Option Nat)} {a : Act} : (Fc.tab ⟨fn.1, bodyRows fn.2⟩).find? (catchA ks (0 + fn.2.len + 1) a) = none :=
  body_find (by omega) fun e he => catchA_in (.inl (by obtain ⟨_, _, z3, z4, _⟩ := mem_tab he rfl; omega))
theorem sim_call {k f : Nat} {ps : List Ex} {m : Int} {fn : Nat × Sm} (hp : PgR p) (hl : 0 < w.left) (hd : d ≠ dp) (hf : p.funs[f]? = some fn) (ih : SimP p dp (d + 1) [] fn.2 ⟨slotsFor (ps.map (Ex.val w.σ)), w.left - 1, w.told⟩ o w1 c) :
    SimP p dp d met (.call k f ps m) w (callOut m o) ⟨callSlots k w.σ o, w1.left, w1.told⟩ (exsLen ps + 1 + c + callTick o) := by
  intro turn hand tn b D fn' fc held fs wf hc hD hs hg hm hfs
  obtain ⟨h1, h2⟩ := CodeAt.exs (show CodeAt fc.rows b (exsCode ps ++ [.call f ps.length m, .set k]) from hs.code)
  obtain ⟨h3, h4⟩ := h2.cons
  have h5 := h4.cons.1
  have len : (Sm.call k f ps m).len = exsLen ps + 2 := rfl
  have g1 := (go_exs (dp := dp) (ks := p.kinds) (l := w.left) (t := w.told) (fs := fs) (S := []) (σ := w.σ) (held := held) hc h1).trans (go_call (S := []) (as := ps.map (Ex.val w.σ)) (f := ⟨fn', w.σ, b + exsLen ps, [] ++ ps.map (Ex.val w.σ), held⟩) (rowAt_of hc (by rw [List.length_map]; exact h3) rfl) rfl hl (by omega))
  obtain ⟨m', g2, fin⟩ := ih false false (0, 0, 0) 0 0 f _ [] (⟨fn', w.σ, b + exsLen ps, [], held⟩ :: fs) (hp.body fn (List.mem_of_getElem? hf)) (code_get hf) rfl body_sit (fun z => by cases z) rfl (by simp; omega)
  have g := g1.trans g2
  have tb : tabAt b ((Sm.call k f ps m).code b D tn) = [] := by
    show tabAt b (exsCode ps ++ [.call f ps.length m, .set k]) = []
    rw [tab_exs]; rfl
  have setG : ∀ (v : Int), Go p.code p.kinds dp 1 ⟨w1.left, w1.told, none, ⟨fn', w.σ, b + exsLen ps + 1, [] ++ [v], held⟩ :: fs⟩ ⟨w1.left, w1.told, none, ⟨fn', w.σ.set k v, b + exsLen ps + 1 + 1, [], held⟩ :: fs⟩ := fun v =>
    go_set (f := ⟨fn', w.σ, b + exsLen ps + 1, [] ++ [v], held⟩) (S := []) (rowAt_of hc h5 rfl) rfl
  have tF : ∀ σ q st hd, tabOf p.code ⟨f, σ, q, st, hd⟩ = Fc.tab ⟨fn.1, bodyRows fn.2⟩ := fun σ q st hd => tabOf_of (code_get hf)
  have epc : b + (exsLen ps : Int) + 1 + 1 = b + ((Sm.call k f ps m).len : Int) := by rw [len]; omega
  cases fin with
  | on e =>
    subst e
    have g3 := g.trans (body_on (dp := dp) (l := w1.left) (t := w1.told) (σ := w1.σ) (fs := ⟨fn', w.σ, b + exsLen ps, [], held⟩ :: fs) hf)
    rw [doAct_ret (by rw [tF]; exact body_find_end (f := f) (ks := p.kinds) (a := .ret 0))] at g3
    exact ⟨_, (g3.trans (setG 0)).cast (by show _ = exsLen ps + 1 + c + 3; omega), .on (w := ⟨w.σ.set k 0, w1.left, w1.told⟩) epc⟩
  | over h6 h7 h8 h9 =>
    refine ⟨m', g.cast (by cases o <;> first | rfl | cases h6), .over (by cases o <;> first | rfl | cases h6) (by rw [h7]; cases o <;> first | rfl | cases h6) h8 h9⟩
  | @act _ _ a q x ha hu hq1 hq2 hL =>
    have nf : (Fc.tab ⟨fn.1, bodyRows fn.2⟩).find? (catchA p.kinds q a) = none := body_find (by omega) hL
    cases o with
    | on => cases ha
    | dry => cases ha
    | deep => cases ha
    | brk => have := hu (.inl rfl); cases this
    | cnt => have := hu (.inr rfl); cases this
    | ret v =>
      cases ha
      rw [doAct_ret (by rw [tF]; exact nf)] at g
      exact ⟨_, (g.trans (setG v)).cast (by show _ = exsLen ps + 1 + c + 1; rfl), .on (w := ⟨w.σ.set k v, w1.left, w1.told⟩) epc⟩
    | flt y =>
      cases ha
      have em : markOf p.code ⟨fn', w.σ, b + exsLen ps, [], held⟩ = m := by
        unfold markOf; rw [rowAt_of (f := ⟨fn', w.σ, b + exsLen ps, [], held⟩) hc h3 rfl]
      rw [doAct_flt (by rw [tF]; exact nf), em] at g
      exact ⟨_, g.cast (by show _ = exsLen ps + 1 + c + 0; rfl), .act0 (w := ⟨w.σ, w1.left, w1.told⟩) (q := b + exsLen ps) rfl (fun z => by rcases z with z | z <;> cases z) (by omega) (by rw [len]; omega) (noneL tb) rfl⟩
end
end Lp

/-! Lj: what a program does by its tree, the machine does over its code: rows, ifs, whiles, tries, cleanups; whole. -/
namespace Lp
open PySem PySem.Spec PyProof.Rows L2
section
variable {p : Pg} {dp d : Nat} {met : List Flt} {s t : Sm} {r : Sms} {hs : Hds} {e : Ex} {w w1 w2 : WSt} {o o2 : Out} {c c2 : Nat}
theorem sim_row {ps : Sms} (ih : SimS p dp d met ps w o w1 c) : SimP p dp d met (.row ps) w o w1 c := ih
theorem sims_nil : SimS p dp d met .nil w .on w 0 := by
  intro turn hand tn b D fn fc held fs wf hc hD hs hg hm hf
  exact ⟨_, .nil, .on (by show b = b + ((0 : Nat) : Int); omega)⟩
theorem sit_consS {fc : Fc} {b D : Int} {tn : Tn} (h : Sit fc b ((Sms.cons s r).code b D tn)) : Sit fc b (s.code b D tn) :=
  h.sub (l1 := []) (l3 := r.code (b + s.len) D tn) (by simp [Sms.code]) (by simp) (fun _ h => nomatch h) fun y hy => by
    rw [Sm.code_len] at hy ⊢
    obtain ⟨k1, _⟩ := mem_tabs hy rfl
    exact .inr (.inl k1)
theorem sit_consR {fc : Fc} {b D : Int} {tn : Tn} (h : Sit fc b ((Sms.cons s r).code b D tn)) : Sit fc (b + s.len) (r.code (b + s.len) D tn) :=
  h.sub (l1 := s.code b D tn) (l3 := []) (by simp [Sms.code]) (by rw [Sm.code_len]) (fun y hy => by
    obtain ⟨k1, k2, k3, k4, k5⟩ := mem_tab hy rfl
    omega) (fun _ h => nomatch h)
theorem sims_next (ih : SimP p dp d met s w .on w1 c) (ih2 : SimS p dp d met r w1 o w2 c2) : SimS p dp d met (.cons s r) w o w2 (c + c2) := by
  intro turn hand tn b D fn fc held fs wf hc hD hs hg hm hf
  have hl : ((Sms.cons s r).len : Int) = s.len + r.len := by simp [Sms.len]
  obtain ⟨m1, g1, f1⟩ := ih turn hand tn b D fn fc held fs wf.1 hc hD (sit_consS hs) (fun z => (hg z).sub (Int.le_refl _) (by omega)) hm hf
  rw [f1.on_eq] at g1
  obtain ⟨m2, g2, f2⟩ := ih2 turn hand tn (b + s.len) D fn fc held fs wf.2 hc hD (sit_consR hs) (fun z => (hg z).sub (by omega) (by omega)) hm hf
  refine ⟨m2, g1.trans g2, ?_⟩
  by_cases ho : o = .on
  · subst ho
    rw [f2.on_eq]
    exact .on (by omega)
  · refine f2.up0 ho (by omega) (by omega) fun y hy => ?_
    rw [tab_cons] at hy
    rcases List.mem_append.mp hy with hy | hy
    · obtain ⟨k1, k2, k3, k4, k5⟩ := mem_tab hy rfl
      exact .inr (.inl (by omega))
    · exact .inl hy
theorem sims_stop (ih : SimP p dp d met s w o w1 c) (ho : o ≠ .on) : SimS p dp d met (.cons s r) w o w1 c := by
  intro turn hand tn b D fn fc held fs wf hc hD hs hg hm hf
  have hl : ((Sms.cons s r).len : Int) = s.len + r.len := by simp [Sms.len]
  obtain ⟨m1, g1, f1⟩ := ih turn hand tn b D fn fc held fs wf.1 hc hD (sit_consS hs) (fun z => (hg z).sub (Int.le_refl _) (by omega)) hm hf
  refine ⟨m1, g1, f1.up0 ho (Int.le_refl _) (by omega) fun y hy => ?_⟩
  rw [tab_cons] at hy
  rcases List.mem_append.mp hy with hy | hy
  · exact .inl hy
  · obtain ⟨k1, k2, k3, k4, k5⟩ := mem_tabs hy rfl
    exact .inr (.inr k1)
/-! ### if -/
section
variable {fc : Fc} {b D : Int} {tn : Tn}
theorem code_ife (h : Sit fc b ((Sm.ife e s t).code b D tn)) : CodeAt fc.rows b (e.code ++ (.unless (b + e.len + 1 + s.len + 1) :: (s.code (b + e.len + 1) D tn ++ (.go (b + e.len + 1 + s.len + 1 + t.len) :: t.code (b + e.len + 1 + s.len + 1) D tn)))) := by
  have := h.code
  simp only [Sm.code, List.append_assoc, List.cons_append, List.nil_append] at this
  exact this
theorem sit_ifS (h : Sit fc b ((Sm.ife e s t).code b D tn)) : Sit fc (b + e.len + 1) (s.code (b + e.len + 1) D tn) :=
  h.sub (l1 := e.code ++ [.unless (b + e.len + 1 + s.len + 1)]) (l3 := .go (b + e.len + 1 + s.len + 1 + t.len) :: t.code (b + e.len + 1 + s.len + 1) D tn) (by simp [Sm.code]) (by simp [Ex.code_len]; omega)
    (fun y hy => by rw [tab_ex] at hy; simp [tabAt, tbOf] at hy) fun y hy => by
      rw [Sm.code_len] at hy ⊢
      simp only [tabAt, tbOf, List.nil_append] at hy
      obtain ⟨k1, _⟩ := mem_tab hy rfl
      exact .inr (.inl (by omega))
theorem sit_ifT (h : Sit fc b ((Sm.ife e s t).code b D tn)) : Sit fc (b + e.len + 1 + s.len + 1) (t.code (b + e.len + 1 + s.len + 1) D tn) :=
  h.sub (l1 := e.code ++ (.unless (b + e.len + 1 + s.len + 1) :: (s.code (b + e.len + 1) D tn ++ [.go (b + e.len + 1 + s.len + 1 + t.len)]))) (l3 := []) (by simp [Sm.code]) (by simp [Ex.code_len, Sm.code_len]; omega)
    (fun y hy => by
      rw [tab_ex] at hy
      simp only [tabAt, tbOf, List.nil_append, tab_sm, List.append_nil] at hy
      obtain ⟨k1, k2, k3, k4, k5⟩ := mem_tab hy rfl
      omega) (fun _ h => nomatch h)
end
theorem sim_ifT (n : e.val w.σ ≠ 0) (ih : SimP p dp d met s w o w1 c) : SimP p dp d met (.ife e s t) w o w1 (e.len + 1 + c + o.tick 1) := by
  intro turn hand tn b D fn fc held fs wf hc hD hs hg hm hf
  have hl : ((Sm.ife e s t).len : Int) = e.len + 1 + s.len + 1 + t.len := by simp [Sm.len]
  obtain ⟨h1, h2⟩ := (code_ife hs).ex
  obtain ⟨h3, h4⟩ := h2.cons
  have h5 := h4.sm.cons.1
  obtain ⟨m1, g1, f1⟩ := ih turn hand tn _ D fn fc held fs wf.2.1 hc hD (sit_ifS hs) (fun z => (hg z).sub (by omega) (by omega)) hm hf
  have g0 := ((go_ex hc h1).trans (go_unless1 (f := ⟨fn, w.σ, b + e.len, [] ++ [e.val w.σ], held⟩) (S := []) (rowAt_of hc h3 rfl) rfl n)).trans g1
  by_cases ho : o = .on
  · subst ho
    rw [f1.on_eq] at g0
    exact ⟨_, (g0.trans (go_go (f := ⟨fn, w1.σ, b + e.len + 1 + s.len, [], held⟩) (rowAt_of hc h5 rfl))).cast (by rw [tick_on]), .on (by omega)⟩
  · refine ⟨m1, g0.cast (by rw [tick_off ho]; rfl), f1.up0 ho (by omega) (by omega) fun y hy => ?_⟩
    rw [tab_ife] at hy
    rcases List.mem_append.mp hy with hy | hy
    · exact .inl hy
    · obtain ⟨k1, k2, k3, k4, k5⟩ := mem_tab hy rfl
      exact .inr (.inr (by omega))
theorem sim_ifF (n : e.val w.σ = 0) (ih : SimP p dp d met t w o w1 c) : SimP p dp d met (.ife e s t) w o w1 (e.len + 1 + c) := by
  intro turn hand tn b D fn fc held fs wf hc hD hs hg hm hf
  have hl : ((Sm.ife e s t).len : Int) = e.len + 1 + s.len + 1 + t.len := by simp [Sm.len]
  obtain ⟨h1, h2⟩ := (code_ife hs).ex
  obtain ⟨h3, h4⟩ := h2.cons
  obtain ⟨m1, g1, f1⟩ := ih turn hand tn _ D fn fc held fs wf.2.2 hc hD (sit_ifT hs) (fun z => (hg z).sub (by omega) (by omega)) hm hf
  have g0 := ((go_ex hc h1).trans (go_unless0 (f := ⟨fn, w.σ, b + e.len, [] ++ [e.val w.σ], held⟩) (S := []) (rowAt_of hc h3 rfl) rfl n)).trans g1
  refine ⟨m1, g0, ?_⟩
  by_cases ho : o = .on
  · subst ho
    rw [f1.on_eq]
    exact .on (by omega)
  · refine f1.up0 ho (by omega) (by omega) fun y hy => ?_
    rw [tab_ife] at hy
    rcases List.mem_append.mp hy with hy | hy
    · obtain ⟨k1, k2, k3, k4, k5⟩ := mem_tab hy rfl
      exact .inr (.inl (by omega))
    · exact .inl hy
/-! ### while -/
section
variable {fc : Fc} {b D : Int} {tn : Tn}
abbrev wtn (b : Int) (e : Ex) (s : Sm) (D : Int) : Tn := (b, b + e.len + 2 + s.len + 1, D)
theorem code_whl (h : Sit fc b ((Sm.whl e s).code b D tn)) : CodeAt fc.rows b (e.code ++ (.unless (b + e.len + 2 + s.len + 1) :: .turn :: (s.code (b + e.len + 2) D (wtn b e s D) ++ [.go b]))) := by
  have := h.code
  simp only [Sm.code, List.append_assoc, List.cons_append, List.nil_append] at this
  exact this
theorem sit_whl (h : Sit fc b ((Sm.whl e s).code b D tn)) : Sit fc (b + e.len + 2) (s.code (b + e.len + 2) D (wtn b e s D)) :=
  h.sub (l1 := e.code ++ [.unless (b + e.len + 2 + s.len + 1), .turn]) (l3 := [.go b]) (by simp [Sm.code]) (by simp [Ex.code_len]; omega)
    (fun y hy => by rw [tab_ex] at hy; simp [tabAt, tbOf] at hy) fun y hy => by simp [tabAt, tbOf] at hy
end
theorem sim_whl0 (n : e.val w.σ = 0) : SimP p dp d met (.whl e s) w .on w (e.len + 1) := by
  intro turn hand tn b D fn fc held fs wf hc hD hs hg hm hf
  have hl : ((Sm.whl e s).len : Int) = e.len + 2 + s.len + 1 := by simp [Sm.len]
  obtain ⟨h1, h2⟩ := (code_whl hs).ex
  exact ⟨_, (go_ex hc h1).trans (go_unless0 (f := ⟨fn, w.σ, b + e.len, [] ++ [e.val w.σ], held⟩) (S := []) (rowAt_of hc h2.cons.1 rfl) rfl n), .on (by omega)⟩
theorem sim_whlD (n : e.val w.σ ≠ 0) (h0 : w.left ≤ 0) : SimP p dp d met (.whl e s) w .dry { w with left := w.left - 1 } (e.len + 2) := by
  intro turn hand tn b D fn fc held fs wf hc hD hs hg hm hf
  obtain ⟨h1, h2⟩ := (code_whl hs).ex
  obtain ⟨h3, h4⟩ := h2.cons
  exact ⟨_, ((go_ex hc h1).trans (go_unless1 (f := ⟨fn, w.σ, b + e.len, [] ++ [e.val w.σ], held⟩) (S := []) (rowAt_of hc h3 rfl) rfl n)).trans (go_dry (f := ⟨fn, w.σ, b + e.len + 1, [], held⟩) (rowAt_of hc h4.cons.1 rfl) h0), .over rfl rfl rfl rfl⟩
/-- one turn: its head, its body -/
theorem whl_turn {turn hand : Bool} {tn : Tn} {b D : Int} {fn : Nat} {fc : Fc} {held : List Hl} {fs : List Fr} (n : e.val w.σ ≠ 0) (h0 : 0 < w.left) (ih : SimP p dp d met s { w with left := w.left - 1 } o w1 c)
    (wf : (Sm.whl e s).Wf p.cs p.kinds.length turn hand) (hc : p.code[fn]? = some fc) (hD : D = held.length) (hs : Sit fc b ((Sm.whl e s).code b D tn)) (hm : metsOf held = met) (hf : fs.length + 1 = d) :
    ∃ m', Go p.code p.kinds dp (e.len + 2 + c) ⟨w.left, w.told, none, ⟨fn, w.σ, b, [], held⟩ :: fs⟩ m' ∧ Fin p.code p.kinds fn fs (b + e.len + 2) s.len (tabAt (b + e.len + 2) (s.code (b + e.len + 2) D (wtn b e s D))) true (wtn b e s D) held o w1 m' := by
  obtain ⟨h1, h2⟩ := (code_whl hs).ex
  obtain ⟨h3, h4⟩ := h2.cons
  obtain ⟨m1, g1, f1⟩ := ih true hand (wtn b e s D) (b + e.len + 2) D fn fc held fs wf.2 hc hD (sit_whl hs) (fun _ => ⟨by show b < _; omega, by show _ ≤ b + e.len + 2 + s.len + 1; omega⟩) hm hf
  rw [show b + (e.len : Int) + 2 = b + e.len + 1 + 1 from by omega] at g1
  have g2 := (((go_ex hc h1).trans (go_unless1 (f := ⟨fn, w.σ, b + e.len, [] ++ [e.val w.σ], held⟩) (S := []) (rowAt_of hc h3 rfl) rfl n)).trans (go_turn (f := ⟨fn, w.σ, b + e.len + 1, [], held⟩) (rowAt_of hc h4.cons.1 rfl) h0)).trans g1
  exact ⟨m1, g2.cast (by omega), f1⟩
/-- a leap within a while -/
theorem whl_leap {tn : Tn} {b D g q : Int} {fn : Nat} {fc : Fc} {held x : List Hl} {fs : List Fr} (hc : p.code[fn]? = some fc) (hD : D = held.length) (hs : Sit fc b ((Sm.whl e s).code b D tn)) (h1 : b + e.len + 2 ≤ q) (h2 : q < b + e.len + 2 + s.len)
    (hL : ∀ y ∈ tabAt (b + e.len + 2) (s.code (b + e.len + 2) D (wtn b e s D)), catchA p.kinds q (.leap g D) y = false) (g1 : b ≤ g) (g2 : g ≤ b + e.len + 2 + s.len + 1) :
    doAct p.code p.kinds w1.left w1.told ⟨fn, w1.σ, q, [], held ++ x⟩ fs (.leap g D) = ⟨w1.left, w1.told, none, ⟨fn, w1.σ, g, [], held⟩ :: fs⟩ := by
  have hl : ((Sm.whl e s).len : Int) = e.len + 2 + s.len + 1 := by simp [Sm.len]
  have tb := hs.tab
  rw [Sm.code_len, tab_whl] at tb
  have := leap_none (ks := p.kinds) (g := g) (D := D) tb (by omega) (by omega) hL g1 (by omega)
  rw [doAct_leap (by rw [tabOf_of hc]; exact this)]
  have e2 : (held ++ x).take D.toNat = held := by rw [hD, Int.toNat_natCast, List.take_left']; rfl
  show (⟨w1.left, w1.told, none, ⟨fn, w1.σ, g, [], (held ++ x).take D.toNat⟩ :: fs⟩ : Mc) = _
  rw [e2]
theorem sim_whlB (n : e.val w.σ ≠ 0) (h0 : 0 < w.left) (ih : SimP p dp d met s { w with left := w.left - 1 } .brk w1 c) : SimP p dp d met (.whl e s) w .on w1 (e.len + 2 + c) := by
  intro turn hand tn b D fn fc held fs wf hc hD hs hg hm hf
  have hl : ((Sm.whl e s).len : Int) = e.len + 2 + s.len + 1 := by simp [Sm.len]
  obtain ⟨m1, g1, f1⟩ := whl_turn n h0 ih wf hc hD hs hm hf
  cases f1 with
  | over h => cases h
  | act ha hu q1 q2 hL =>
    cases ha
    rw [whl_leap (g := b + e.len + 2 + s.len + 1) hc hD hs q1 q2 hL (by omega) (Int.le_refl _)] at g1
    exact ⟨_, g1, .on (by omega)⟩
theorem sim_whlN (n : e.val w.σ ≠ 0) (h0 : 0 < w.left) (ih : SimP p dp d met s { w with left := w.left - 1 } o w1 c) (ho : o = .on ∨ o = .cnt) (ih2 : SimP p dp d met (.whl e s) w1 o2 w2 c2) : SimP p dp d met (.whl e s) w o2 w2 (e.len + 2 + c + o.tick 1 + c2) := by
  intro turn hand tn b D fn fc held fs wf hc hD hs hg hm hf
  obtain ⟨m1, g1, f1⟩ := whl_turn n h0 ih wf hc hD hs hm hf
  obtain ⟨m2, g2, f2⟩ := ih2 turn hand tn b D fn fc held fs wf hc hD hs hg hm hf
  refine ⟨m2, ?_, f2⟩
  rcases ho with rfl | rfl
  · rw [f1.on_eq] at g1
    obtain ⟨h1, h2⟩ := (code_whl hs).ex
    have h5 := h2.cons.2.cons.2
    rw [show b + (e.len : Int) + 1 + 1 = b + e.len + 2 from by omega] at h5
    exact ((g1.trans (go_go (f := ⟨fn, w1.σ, b + e.len + 2 + s.len, [], held⟩) (rowAt_of hc h5.sm.cons.1 rfl))).trans g2).cast (by rw [tick_on])
  · cases f1 with
    | over h => cases h
    | act ha hu q1 q2 hL =>
      cases ha
      rw [whl_leap (g := b) hc hD hs q1 q2 hL (Int.le_refl _) (by omega)] at g1
      exact (g1.trans g2).cast (by rw [tick_off (by decide)]; rfl)
theorem sim_whlX (n : e.val w.σ ≠ 0) (h0 : 0 < w.left) (ih : SimP p dp d met s { w with left := w.left - 1 } o w1 c) (h1 : o ≠ .on) (h2 : o ≠ .cnt) (h3 : o ≠ .brk) : SimP p dp d met (.whl e s) w o w1 (e.len + 2 + c) := by
  intro turn hand tn b D fn fc held fs wf hc hD hs hg hm hf
  have hl : ((Sm.whl e s).len : Int) = e.len + 2 + s.len + 1 := by simp [Sm.len]
  obtain ⟨m1, g1, f1⟩ := whl_turn n h0 ih wf hc hD hs hm hf
  refine ⟨m1, g1, Fin.up (y := []) (by rw [List.append_nil]; exact f1) h1 (by omega) (by omega) ?_ (fun z => by rcases z with z | z; exact absurd z h3; exact absurd z h2) fun y hy => .inl (by rw [tab_whl] at hy; exact hy)⟩
  cases o <;> first | rfl | exact absurd rfl h2 | exact absurd rfl h3
end
end Lp

/-! Lk: what a program does by its tree, the machine does over its code: tries, cleanups; whole. -/
namespace Lp
open PySem PySem.Spec PyProof.Rows L2
theorem catch_noC {ks : List (Option Nat)} {q : Int} {a : Act} {y : Tb} (h : y.kd ≠ none) (ha : ∀ f, a ≠ .flt f) : catchA ks q a y = false := by
  cases hk : y.kd with
  | none => exact absurd hk h
  | some w =>
    cases a with
    | leap g D => simp [catchA, catchC, hk]
    | ret v => simp [catchA, catchC, hk]
    | flt f => exact absurd rfl (ha f)
theorem hds_tab {k : Option Nat} {sl : Nat} {t : Sm} {r : Hds} {b x z at_ D : Int} {tn : Tn} : tabAt at_ ((Hds.cons k sl t r).code b x z at_ D tn) = ⟨b, x, some k, at_, D⟩ :: (tabAt (at_ + 2) (t.code (at_ + 2) (D + 1) tn) ++ tabAt (at_ + 2 + t.len + 2) (r.code b x z (at_ + 2 + t.len + 2) D tn)) := by
  rw [hds_cons, List.nil_append, tabAt_app, blk_tab, blk_len, List.cons_append]
  rw [show at_ + ((2 + t.len + 2 : Nat) : Int) = at_ + 2 + t.len + 2 from by omega]
/-- the other handlers' rows lie apart -/
theorem Hds.pick_tab {ks : List (Option Nat)} {k : Nat} {b x z D : Int} {tn : Tn} : ∀ {hs : Hds} {at_ : Int} {y : Nat × Sm × Nat}, x ≤ at_ → hs.pick ks k = some y → ∀ e ∈ tabAt at_ (hs.code b x z at_ D tn),
    e ∈ tabAt (at_ + y.2.2 + 2) (y.2.1.code (at_ + y.2.2 + 2) (D + 1) tn) ∨ e.x ≤ at_ + y.2.2 + 2 ∨ at_ + y.2.2 + 2 + y.2.1.len ≤ e.b
  | .nil, _, _, _, h => by cases h
  | .cons w sl t r, at_, y, hxa, h => by
    intro e he
    rw [hds_tab] at he
    unfold Hds.pick at h
    by_cases hw : takes ks w k = true
    · rw [if_pos hw] at h
      cases h
      show e ∈ tabAt (at_ + ((0 : Nat) : Int) + 2) (t.code (at_ + ((0 : Nat) : Int) + 2) (D + 1) tn) ∨ e.x ≤ at_ + ((0 : Nat) : Int) + 2 ∨ at_ + ((0 : Nat) : Int) + 2 + t.len ≤ e.b
      rw [show at_ + ((0 : Nat) : Int) = at_ from by omega]
      rcases List.mem_cons.mp he with rfl | he
      · exact .inr (.inl (by show x ≤ _; omega))
      · rcases List.mem_append.mp he with he | he
        · exact .inl he
        · obtain ⟨k1, k2, k3, k4 | k4⟩ := Hds.tab2 r b x z _ D tn (by omega) e he
          · exact .inr (.inl (by omega))
          · exact .inr (.inr (by omega))
    · rw [if_neg hw] at h
      cases e2 : r.pick ks k with
      | none => rw [e2] at h; cases h
      | some y0 =>
        rw [e2] at h
        cases h
        have eo : at_ + ((y0.2.2 + (2 + t.len + 2) : Nat) : Int) = at_ + 2 + (t.len : Int) + 2 + (y0.2.2 : Int) := by omega
        show e ∈ tabAt (at_ + ((y0.2.2 + (2 + t.len + 2) : Nat) : Int) + 2) (y0.2.1.code (at_ + ((y0.2.2 + (2 + t.len + 2) : Nat) : Int) + 2) (D + 1) tn) ∨ e.x ≤ at_ + ((y0.2.2 + (2 + t.len + 2) : Nat) : Int) + 2 ∨ at_ + ((y0.2.2 + (2 + t.len + 2) : Nat) : Int) + 2 + y0.2.1.len ≤ e.b
        rw [eo]
        rcases List.mem_cons.mp he with rfl | he
        · exact .inr (.inl (by show x ≤ _; omega))
        · rcases List.mem_append.mp he with he | he
          · obtain ⟨k1, k2, k3, k4, k5⟩ := mem_tab he rfl
            exact .inr (.inl (by omega))
          · exact Hds.pick_tab (by omega) e2 e he
section
variable {p : Pg} {dp d : Nat} {met : List Flt} {s t : Sm} {r : Sms} {hs : Hds} {e : Ex} {w w1 w2 : WSt} {o o2 : Out} {c c2 : Nat}
/-! ### try -/
section
variable {fc : Fc} {b D : Int} {tn : Tn}
theorem code_tri (h : Sit fc b ((Sm.tri s hs).code b D tn)) : CodeAt fc.rows b (s.code b D tn ++ (.go (b + s.len + 1 + hs.len) :: hs.code b (b + s.len) (b + s.len + 1 + hs.len) (b + s.len + 1) D tn)) := by
  have := h.code
  simp only [Sm.code, List.append_assoc, List.cons_append, List.nil_append] at this
  exact this
theorem sit_triS (h : Sit fc b ((Sm.tri s hs).code b D tn)) : Sit fc b (s.code b D tn) :=
  h.sub (l1 := []) (l3 := .go (b + s.len + 1 + hs.len) :: hs.code b (b + s.len) (b + s.len + 1 + hs.len) (b + s.len + 1) D tn) (by simp [Sm.code]) (by simp) (fun _ h => nomatch h) fun y hy => by
    rw [Sm.code_len] at hy ⊢
    simp only [tabAt, tbOf, List.nil_append] at hy
    obtain ⟨k1, k2, k3, ⟨k4, k5, k6, k7⟩ | k4⟩ := Hds.tab2 hs b (b + s.len) _ (b + s.len + 1) D tn (by omega) y hy
    · exact .inr (.inr ⟨by omega, by omega, fun z => absurd z k7⟩)
    · exact .inr (.inl (by omega))
theorem sit_triH (h : Sit fc b ((Sm.tri s hs).code b D tn)) : Sit fc (b + s.len + 1) (hs.code b (b + s.len) (b + s.len + 1 + hs.len) (b + s.len + 1) D tn) :=
  h.sub (l1 := s.code b D tn ++ [.go (b + s.len + 1 + hs.len)]) (l3 := []) (by simp [Sm.code]) (by simp [Sm.code_len]; omega) (fun y hy => by
    simp only [tab_sm, tabAt, tbOf, List.append_nil] at hy
    obtain ⟨k1, k2, k3, k4, k5⟩ := mem_tab hy rfl
    omega) (fun _ h => nomatch h)
end
theorem sim_tri (ih : SimP p dp d met s w o w1 c) (hO : o.isFlt = false) : SimP p dp d met (.tri s hs) w o w1 (c + o.tick 1) := by
  intro turn hand tn b D fn fc held fs wf hc hD hS hg hm hf
  have hl : ((Sm.tri s hs).len : Int) = s.len + 1 + hs.len := by simp [Sm.len]
  have h5 := (code_tri hS).sm.cons.1
  obtain ⟨m1, g1, f1⟩ := ih turn hand tn b D fn fc held fs wf.1 hc hD (sit_triS hS) (fun z => (hg z).sub (Int.le_refl _) (by omega)) hm hf
  by_cases ho : o = .on
  · subst ho
    rw [f1.on_eq] at g1
    exact ⟨_, (g1.trans (go_go (f := ⟨fn, w1.σ, b + s.len, [], held⟩) (rowAt_of hc h5 rfl))).cast (by rw [tick_on]), .on (by omega)⟩
  · refine ⟨m1, g1.cast (by rw [tick_off ho]; rfl), Fin.up (y := []) (by rw [List.append_nil]; exact f1) ho (Int.le_refl _) (by omega) rfl (fun _ => id) fun y hy => ?_⟩
    rw [tab_tri] at hy
    rcases List.mem_append.mp hy with hy | hy
    · exact .inl hy
    · refine .inr fun q q1 q2 a ha => ?_
      obtain ⟨k1, k2, k3, ⟨k4, k5, k6, k7⟩ | k4⟩ := Hds.tab2 hs b (b + s.len) _ (b + s.len + 1) D tn (by omega) y hy
      · refine catch_noC k7 fun f z => ?_
        subst z
        cases o <;> cases ha
        cases hO
      · exact catchA_in (.inr (by omega))
theorem sim_triX {f : Flt} (ih : SimP p dp d met s w (.flt f) w1 c) (hn : hs.pick p.kinds f.k = none) : SimP p dp d met (.tri s hs) w (.flt f) w1 c := by
  intro turn hand tn b D fn fc held fs wf hc hD hS hg hm hf
  have hl : ((Sm.tri s hs).len : Int) = s.len + 1 + hs.len := by simp [Sm.len]
  obtain ⟨m1, g1, f1⟩ := ih turn hand tn b D fn fc held fs wf.1 hc hD (sit_triS hS) (fun z => (hg z).sub (Int.le_refl _) (by omega)) hm hf
  refine ⟨m1, g1, Fin.up (y := []) (by rw [List.append_nil]; exact f1) (by intro z; cases z) (Int.le_refl _) (by omega) rfl (fun _ => id) fun y hy => ?_⟩
  rw [tab_tri] at hy
  rcases List.mem_append.mp hy with hy | hy
  · exact .inl hy
  · refine .inr fun q q1 q2 a ha => ?_
    cases ha
    exact (Hds.find (ks := p.kinds) (k := f.k) q1 q2 (by omega) (sit_triH hS)).1 hn y hy
theorem mets_snoc {held : List Hl} {f : Flt} : metsOf (held ++ [.met f]) = metsOf held ++ [f] := by simp [metsOf]
theorem take_held {held x : List Hl} {D : Int} (hD : D = held.length) : (held ++ x).take D.toNat = held := by rw [hD, Int.toNat_natCast, List.take_left']; rfl
theorem sim_triC {f : Flt} {z : Nat × Sm × Nat} (ih : SimP p dp d met s w (.flt f) w1 c) (hz : hs.pick p.kinds f.k = some z) (ih2 : SimP p dp d (met ++ [f]) z.2.1 { w1 with σ := w1.σ.set z.1 f.v, told := w1.told ++ [.met f] } o w2 c2) :
    SimP p dp d met (.tri s hs) w o w2 (c + 2 + c2 + o.tick 2) := by
  intro turn hand tn b D fn fc held fs wf hc hD hS hg hm hf
  have hl : ((Sm.tri s hs).len : Int) = s.len + 1 + hs.len := by simp [Sm.len]
  obtain ⟨m1, g1, f1⟩ := ih turn hand tn b D fn fc held fs wf.1 hc hD (sit_triS hS) (fun z => (hg z).sub (Int.le_refl _) (by omega)) hm hf
  cases f1 with
  | over h => cases h
  | @act _ _ a q x ha hu q1 q2 hL =>
    cases ha
    have sh := sit_triH hS
    obtain ⟨wk, f1, sb⟩ := (Hds.find (ks := p.kinds) (k := f.k) q1 q2 (by omega) sh).2 z hz
    have pl := Hds.pick_len hz
    have pt := Hds.pick_tab (b := b) (x := b + s.len) (z := b + s.len + 1 + hs.len) (D := D) (tn := tn) (at_ := b + s.len + 1) (by omega) hz
    obtain ⟨_, wz⟩ := Hds.pick_wf wf.2 hz
    generalize hat : b + (s.len : Int) + 1 + (z.2.2 : Int) = at_ at f1 sb pt
    have tf : fc.tab.find? (catchF p.kinds q f.k) = some ⟨b, b + s.len, some wk, at_, D⟩ :=
      find_body (a := .flt f) hS.tab q1 fun Y => by
        rw [tab_tri, List.append_assoc, find_skip hL, List.find?_append]
        show ((tabAt _ _).find? (catchF p.kinds q f.k)).or _ = _
        rw [f1]; rfl
    rw [doAct_hand (by rw [tabOf_of hc]; exact tf) rfl] at g1
    have g2 : Go p.code p.kinds dp c ⟨w.left, w.told, none, ⟨fn, w.σ, b, [], held⟩ :: fs⟩ ⟨w1.left, w1.told, none, ⟨fn, w1.σ, at_, [], held ++ [.met f]⟩ :: fs⟩ := by
      have e2 : (⟨fn, w1.σ, q, [], held ++ x⟩ : Fr).enter ⟨b, b + s.len, some wk, at_, D⟩ (.met f) = ⟨fn, w1.σ, at_, [], held ++ [.met f]⟩ := by
        show (⟨fn, w1.σ, at_, [], (held ++ x).take D.toNat ++ [.met f]⟩ : Fr) = _
        rw [take_held hD]
      rw [← e2]; exact g1
    obtain ⟨h1, h2⟩ := CodeAt.cons (show CodeAt fc.rows at_ (.hand b (b + s.len) wk D :: .set z.1 :: (z.2.1.code (at_ + 2) (D + 1) tn ++ [.settled, .go (b + s.len + 1 + hs.len)])) from sb.code)
    obtain ⟨h3, h4⟩ := h2.cons
    rw [show at_ + 1 + 1 = at_ + 2 from by omega] at h4
    obtain ⟨h5, h6⟩ := h4.sm.cons
    have g3 := (g2.trans (go_hand (f := ⟨fn, w1.σ, at_, [], held ++ [.met f]⟩) (rowAt_of hc h1 rfl) (by simp))).trans (go_set (f := ⟨fn, w1.σ, at_ + 1, [] ++ [f.v], held ++ [.met f]⟩) (S := []) (rowAt_of hc h3 rfl) rfl)
    have st : Sit fc (at_ + 2) (z.2.1.code (at_ + 2) (D + 1) tn) :=
      sb.sub (l1 := [.hand b (b + s.len) wk D, .set z.1]) (l3 := [.settled, .go (b + s.len + 1 + hs.len)]) rfl (by simp) (fun y hy => by
        simp only [tabAt, tbOf, List.append_nil, List.mem_singleton] at hy
        subst hy
        show b + (s.len : Int) ≤ _
        omega) fun y hy => by simp [tabAt, tbOf] at hy
    obtain ⟨m2, g4, f2⟩ := ih2 turn true tn (at_ + 2) (D + 1) fn fc (held ++ [.met f]) fs wz hc (by simp [hD]) st (fun y => (hg y).sub (by omega) (by omega)) (by rw [mets_snoc, hm]) hf
    have g5 := g3.trans (by rw [show at_ + 2 = at_ + 1 + 1 from by omega] at g4; exact g4)
    by_cases ho : o = .on
    · subst ho
      rw [f2.on_eq] at g5
      exact ⟨_, ((g5.trans (go_settled (f := ⟨fn, w2.σ, at_ + 2 + z.2.1.len, [], held ++ [.met f]⟩) (B := held) (rowAt_of hc h5 rfl) rfl)).trans (go_go (f := ⟨fn, w2.σ, at_ + 2 + z.2.1.len + 1, [], held⟩) (rowAt_of hc h6.cons.1 rfl))).cast (by rw [tick_on]), .on (by omega)⟩
    · refine ⟨m2, g5.cast (by rw [tick_off ho]; rfl), Fin.up (y := [.met f]) f2 ho (by omega) (by omega) rfl (fun _ => id) fun y hy => ?_⟩
      rw [tab_tri] at hy
      rcases List.mem_append.mp hy with hy | hy
      · obtain ⟨k1, k2, k3, k4, k5⟩ := mem_tab hy rfl
        exact .inr fun q h1 h2 a _ => catchA_in (.inl (by omega))
      · refine (pt y hy).imp id fun k q h1 h2 a _ => catchA_in (k.imp (fun z => by omega) fun z => by omega)
/-! ### cleanups -/
section
variable {fc : Fc} {b D : Int} {tn : Tn}
theorem code_cln (h : Sit fc b ((Sm.cln s t).code b D tn)) : CodeAt fc.rows b (s.code b D tn ++ (.mend :: .cup b (b + s.len + 1) D :: (t.code (b + s.len + 2) (D + 1) tn ++ [.resume]))) := by
  have := h.code
  simp only [Sm.code, List.append_assoc, List.cons_append, List.nil_append] at this
  exact this
theorem sit_clnS (h : Sit fc b ((Sm.cln s t).code b D tn)) : Sit fc b (s.code b D tn) :=
  h.sub (l1 := []) (l3 := .mend :: .cup b (b + s.len + 1) D :: (t.code (b + s.len + 2) (D + 1) tn ++ [.resume])) (by simp [Sm.code]) (by simp) (fun _ h => nomatch h) fun y hy => by
    rw [Sm.code_len] at hy ⊢
    simp only [tabAt, tbOf, List.nil_append, tab_sm, List.append_nil, List.cons_append] at hy
    rcases List.mem_cons.mp hy with rfl | hy
    · exact .inr (.inr ⟨Int.le_refl _, by show b + (s.len : Int) ≤ b + s.len + 1; omega, fun _ => by show b + (s.len : Int) < b + s.len + 1; omega⟩)
    · obtain ⟨k1, k2, k3, k4, k5⟩ := mem_tab hy (by omega)
      exact .inr (.inl (by omega))
theorem sit_clnC (h : Sit fc b ((Sm.cln s t).code b D tn)) : Sit fc (b + s.len + 2) (t.code (b + s.len + 2) (D + 1) tn) :=
  h.sub (l1 := s.code b D tn ++ [.mend, .cup b (b + s.len + 1) D]) (l3 := [.resume]) (by simp [Sm.code]) (by simp [Sm.code_len]; omega) (fun y hy => by
    simp only [tab_sm, tabAt, tbOf, List.nil_append, List.append_nil] at hy
    rcases List.mem_append.mp hy with hy | hy
    · obtain ⟨k1, k2, k3, k4, k5⟩ := mem_tab hy rfl
      omega
    · rcases List.mem_singleton.mp hy with rfl
      show b + (s.len : Int) + 1 ≤ _
      omega) fun y hy => by simp [tabAt, tbOf] at hy
end
theorem own_catch {ks : List (Option Nat)} {tn : Tn} {b x p D q : Int} {n : Nat} {a : Act} (ha : actOf tn o = some a) (hg : o = .brk ∨ o = .cnt → GoalOut tn b n) (q1 : b ≤ q) (q2 : q < x) (hx : x ≤ b + n) : catchA ks q a ⟨b, x, none, p, D⟩ = true := by
  cases o with
  | on => cases ha
  | dry => cases ha
  | deep => cases ha
  | brk =>
    cases ha
    obtain ⟨h1, h2⟩ := hg (.inl rfl)
    simp [catchA, catchC, q1, q2]
    omega
  | cnt =>
    cases ha
    obtain ⟨h1, h2⟩ := hg (.inr rfl)
    simp [catchA, catchC, q1, q2]
    omega
  | ret v => cases ha; simp [catchA, catchC, q1, q2]
  | flt f => cases ha; simp [catchA, catchF, q1, q2]
theorem pend_mets {held : List Hl} {a : Act} : metsOf (held ++ [a.pend]) = metsOf held := by cases a <;> simp [metsOf, Act.pend]
/-- a cleanup, from its own row on, whatever is to come behind it -/
theorem cln_behind {turn hand : Bool} {tn : Tn} {b D : Int} {fn : Nat} {fc : Fc} {held : List Hl} {fs : List Fr} {h : Hl} {o1 : Out} (ih : SimP p dp d met t w o w1 c) (wf : (Sm.cln s t).Wf p.cs p.kinds.length turn hand) (hc : p.code[fn]? = some fc) (hD : D = held.length)
    (hS : Sit fc b ((Sm.cln s t).code b D tn)) (hg : turn = true → GoalOut tn b (Sm.cln s t).len) (hm : metsOf held = met) (hf : fs.length + 1 = d) (hh : (h = .on ∧ o1 = .on) ∨ ∃ a, actOf tn o1 = some a ∧ h = a.pend ∧ (o1 = .brk ∨ o1 = .cnt → turn = true)) :
    ∃ m', Go p.code p.kinds dp (1 + c + o.tick 1) ⟨w.left, w.told, none, ⟨fn, w.σ, b + s.len + 1, [], held ++ [h]⟩ :: fs⟩ m' ∧ Fin p.code p.kinds fn fs b (Sm.cln s t).len (tabAt b ((Sm.cln s t).code b D tn)) turn tn held (if o = .on then o1 else o) w1 m' := by
  have hl : ((Sm.cln s t).len : Int) = s.len + 2 + t.len + 1 := by simp [Sm.len]
  have h2 := (code_cln hS).sm.cons.2
  obtain ⟨h3, h4⟩ := h2.cons
  rw [show b + (s.len : Int) + 1 + 1 = b + s.len + 2 from by omega] at h4
  have h5 := h4.sm.cons.1
  have hm2 : metsOf (held ++ [h]) = met := by
    rcases hh with ⟨rfl, _⟩ | ⟨a, _, rfl, _⟩
    · rw [← hm]; simp [metsOf]
    · rw [pend_mets, hm]
  obtain ⟨m1, g1, f1⟩ := ih turn hand tn (b + s.len + 2) (D + 1) fn fc (held ++ [h]) fs wf.2 hc (by simp [hD]) (sit_clnC hS) (fun y => (hg y).sub (by omega) (by omega)) hm2 hf
  rw [show b + (s.len : Int) + 2 = b + s.len + 1 + 1 from by omega] at g1
  have g2 := (go_cup (f := ⟨fn, w.σ, b + s.len + 1, [], held ++ [h]⟩) (l := w.left) (t := w.told) (fs := fs) (ks := p.kinds) (dp := dp) (rowAt_of hc h3 rfl)).trans g1
  by_cases ho : o = .on
  · subst ho
    rw [if_pos rfl]
    rw [f1.on_eq] at g2
    rcases hh with ⟨rfl, rfl⟩ | ⟨a, ha, rfl, hu⟩
    · exact ⟨_, (g2.trans (go_resOn (f := ⟨fn, w1.σ, b + s.len + 2 + t.len, [], held ++ [.on]⟩) (B := held) (rowAt_of hc h5 rfl) rfl)).cast (by rw [tick_on]), .on (by show b + (s.len : Int) + 2 + t.len + 1 = _; omega)⟩
    · refine ⟨_, (g2.trans (go_resAct (f := ⟨fn, w1.σ, b + s.len + 2 + t.len, [], held ++ [a.pend]⟩) (B := held) (rowAt_of hc h5 rfl) rfl)).cast (by rw [tick_on]), .act0 ha hu (q := b + s.len + 2 + t.len) (by omega) (by omega) (fun y hy => catchA_in (.inl ?_)) rfl⟩
      rw [tab_cln] at hy
      rcases List.mem_append.mp hy with hy | hy
      · obtain ⟨k1, k2, k3, k4, k5⟩ := mem_tab hy rfl
        omega
      · rcases List.mem_cons.mp hy with rfl | hy
        · show b + (s.len : Int) + 1 ≤ _; omega
        · obtain ⟨k1, k2, k3, k4, k5⟩ := mem_tab hy rfl
          omega
  · rw [if_neg ho]
    refine ⟨m1, g2.cast (by rw [tick_off ho]; rfl), Fin.up (y := [h]) f1 ho (by omega) (by omega) rfl (fun _ => id) fun y hy => ?_⟩
    rw [tab_cln] at hy
    rcases List.mem_append.mp hy with hy | hy
    · obtain ⟨k1, k2, k3, k4, k5⟩ := mem_tab hy rfl
      exact .inr fun q h1 h2 a _ => catchA_in (.inl (by omega))
    · rcases List.mem_cons.mp hy with rfl | hy
      · exact .inr fun q h1 h2 a _ => catchA_in (.inl (by show b + (s.len : Int) + 1 ≤ _; omega))
      · exact .inl hy
theorem sim_clnX (ih : SimP p dp d met s w o w1 c) (hO : o.over = true) : SimP p dp d met (.cln s t) w o w1 c := by
  intro turn hand tn b D fn fc held fs wf hc hD hS hg hm hf
  have hl : ((Sm.cln s t).len : Int) = s.len + 2 + t.len + 1 := by simp [Sm.len]
  obtain ⟨m1, g1, f1⟩ := ih turn hand tn b D fn fc held fs wf.1 hc hD (sit_clnS hS) (fun z => (hg z).sub (Int.le_refl _) (by omega)) hm hf
  refine ⟨m1, g1, ?_⟩
  cases f1 with
  | on => cases hO
  | over h1 h2 h3 h4 => exact .over h1 h2 h3 h4
  | act ha => cases o <;> first | (cases ha; done) | (cases hO; done)
theorem sim_cln (ih : SimP p dp d met s w o w1 c) (hO : o.over = false) (ih2 : SimP p dp d met t w1 o2 w2 c2) : SimP p dp d met (.cln s t) w (if o2 = .on then o else o2) w2 (c + 1 + o.tick 1 + c2 + o2.tick 1) := by
  intro turn hand tn b D fn fc held fs wf hc hD hS hg hm hf
  have hl : ((Sm.cln s t).len : Int) = s.len + 2 + t.len + 1 := by simp [Sm.len]
  have h1 := (code_cln hS).sm.cons.1
  obtain ⟨m1, g1, f1⟩ := ih turn hand tn b D fn fc held fs wf.1 hc hD (sit_clnS hS) (fun z => (hg z).sub (Int.le_refl _) (by omega)) hm hf
  cases f1 with
  | on e =>
    subst e
    obtain ⟨m2, g2, f2⟩ := cln_behind (h := .on) (o1 := .on) ih2 wf hc hD hS hg hm hf (.inl ⟨rfl, rfl⟩)
    exact ⟨m2, ((g1.trans (go_mend (f := ⟨fn, w1.σ, b + s.len, [], held⟩) (rowAt_of hc h1 rfl))).trans g2).cast (by rw [tick_on]; omega), f2⟩
  | over h => rw [hO] at h; cases h
  | @act _ _ a q x ha hu q1 q2 hL =>
    have no : o ≠ .on := fun z => by rw [z] at ha; cases ha
    have tf : fc.tab.find? (catchA p.kinds q a) = some ⟨b, b + s.len + 1, none, b + s.len + 1, D⟩ :=
      find_body hS.tab q1 fun Y => by
        rw [tab_cln, List.append_assoc, find_skip hL, List.cons_append, List.find?_cons_of_pos]
        exact own_catch ha (fun z => hg (hu z)) q1 (by omega) (by omega)
    rw [doAct_cln (by rw [tabOf_of hc]; exact tf) rfl] at g1
    have e2 : (⟨fn, w1.σ, q, [], held ++ x⟩ : Fr).enter ⟨b, b + s.len + 1, none, b + s.len + 1, D⟩ a.pend = ⟨fn, w1.σ, b + s.len + 1, [], held ++ [a.pend]⟩ := by
      show (⟨fn, w1.σ, b + s.len + 1, [], (held ++ x).take D.toNat ++ [a.pend]⟩ : Fr) = _
      rw [take_held hD]
    rw [e2] at g1
    obtain ⟨m2, g2, f2⟩ := cln_behind (h := a.pend) (o1 := o) ih2 wf hc hD hS hg hm hf (.inr ⟨a, ha, rfl, hu⟩)
    exact ⟨m2, (g1.trans g2).cast (by rw [tick_off no]; omega), f2⟩
end
/-! ### all -/
section
variable {p : Pg} {dp : Nat}
mutual
theorem Rn.sim (hp : PgR p) : ∀ {d met s w o w1 c}, Rn p dp d met s w o w1 c → SimP p dp d met s w o w1 c
  | _, _, _, _, _, _, _, .say => sim_say
  | _, _, _, _, _, _, _, .set => sim_set
  | _, _, _, _, _, _, _, .row a => sim_row (RnS.sim hp a)
  | _, _, _, _, _, _, _, .ifT n a => sim_ifT n (Rn.sim hp a)
  | _, _, _, _, _, _, _, .ifF n a => sim_ifF n (Rn.sim hp a)
  | _, _, _, _, _, _, _, .whl0 n => sim_whl0 n
  | _, _, _, _, _, _, _, .whlD n l => sim_whlD n l
  | _, _, _, _, _, _, _, .whlB n l a => sim_whlB n l (Rn.sim hp a)
  | _, _, _, _, _, _, _, .whlN n l a e a2 => sim_whlN n l (Rn.sim hp a) e (Rn.sim hp a2)
  | _, _, _, _, _, _, _, .whlX n l a e1 e2 e3 => sim_whlX n l (Rn.sim hp a) e1 e2 e3
  | _, _, _, _, _, _, _, .brk => sim_brk
  | _, _, _, _, _, _, _, .cnt => sim_cnt
  | _, _, _, _, _, _, _, .ret => sim_ret
  | _, _, _, _, _, _, _, .rais => sim_rais
  | _, _, _, _, _, _, _, .again e => sim_again e
  | _, _, _, _, _, _, _, .callD l => sim_callD l
  | _, _, _, _, _, _, _, .callP l e => sim_callP l e
  | _, _, _, _, _, _, _, .call l e g a => sim_call hp l e g (Rn.sim hp a)
  | _, _, _, _, _, _, _, .tri a e => sim_tri (Rn.sim hp a) e
  | _, _, _, _, _, _, _, .triC a g a2 => sim_triC (Rn.sim hp a) g (Rn.sim hp a2)
  | _, _, _, _, _, _, _, .triX a g => sim_triX (Rn.sim hp a) g
  | _, _, _, _, _, _, _, .clnX a e => sim_clnX (Rn.sim hp a) e
  | _, _, _, _, _, _, _, .cln a e a2 => sim_cln (Rn.sim hp a) e (Rn.sim hp a2)
theorem RnS.sim (hp : PgR p) : ∀ {d met s w o w1 c}, RnS p dp d met s w o w1 c → SimS p dp d met s w o w1 c
  | _, _, _, _, _, _, _, .nil => sims_nil
  | _, _, _, _, _, _, _, .next a a2 => sims_next (Rn.sim hp a) (RnS.sim hp a2)
  | _, _, _, _, _, _, _, .stop a n => sims_stop (Rn.sim hp a) n
end
end
end Lp

/-! Ll: a program's whole run on the machine; what holds of every state of it. -/
namespace Lp
open PySem PySem.Spec PyProof.Rows L2
/-- the machine at its beginning -/
def mc0 (most : Int) (ns : List Int) : Mc := ⟨most, [], none, [⟨0, slotsFor ns, 0, [], []⟩]⟩
theorem Rn.run {p : Pg} {dp : Nat} {fn : Nat × Sm} {ns : List Int} {most : Int} {o : Out} {w1 : WSt} {c : Nat} (hp : PgR p) (hf : p.funs[0]? = some fn) (R : Rn p dp 1 [] fn.2 ⟨slotsFor ns, most, []⟩ o w1 c) :
    ∃ m', Go p.code p.kinds dp (c + o.tick 2) (mc0 most ns) m' ∧ m'.last = some (if o = .on then .ret 0 else o) ∧ m'.told = w1.told ∧ m'.left = w1.left := by
  obtain ⟨m', g, fin⟩ := Rn.sim hp R false false (0, 0, 0) 0 0 0 _ [] [] (hp.body fn (List.mem_of_getElem? hf)) (code_get hf) rfl body_sit (fun z => by cases z) rfl rfl
  have tF : ∀ σ q st hd, tabOf p.code ⟨0, σ, q, st, hd⟩ = Fc.tab ⟨fn.1, bodyRows fn.2⟩ := fun σ q st hd => tabOf_of (code_get hf)
  cases fin with
  | on e =>
    subst e
    have g3 := Go.trans g (body_on (dp := dp) (l := w1.left) (t := w1.told) (σ := w1.σ) (fs := []) hf)
    rw [doAct_ret0 (by rw [tF]; exact body_find_end (f := 0) (ks := p.kinds) (a := .ret 0))] at g3
    exact ⟨_, g3.cast (by rw [tick_on]), rfl, rfl, rfl⟩
  | over h6 h7 h8 h9 =>
    have no : o ≠ .on := fun z => by rw [z] at h6; cases h6
    exact ⟨m', Go.cast g (by rw [tick_off no]; rfl), by rw [if_neg no]; exact h7, h8, h9⟩
  | @act _ _ a q x ha hu hq1 hq2 hL =>
    have nf : (Fc.tab ⟨fn.1, bodyRows fn.2⟩).find? (catchA p.kinds q a) = none := body_find (by omega) hL
    cases o with
    | on => cases ha
    | dry => cases ha
    | deep => cases ha
    | brk => have := hu (.inl rfl); cases this
    | cnt => have := hu (.inr rfl); cases this
    | ret v =>
      cases ha
      rw [doAct_ret0 (by rw [tF]; exact nf)] at g
      exact ⟨_, g, rfl, rfl, rfl⟩
    | flt y =>
      cases ha
      rw [doAct_flt0 (by rw [tF]; exact nf)] at g
      exact ⟨_, g, rfl, rfl, rfl⟩

/-! ### what holds of every state -/
def RwOk (nf nk : Nat) : Rw → Prop
  | .num n => 0 ≤ n ∧ n < 10007
  | .var k => k < 8
  | .set k => k < 8
  | .unless q => 0 ≤ q
  | .go z => 0 ≤ z
  | .leap q D => 0 ≤ q ∧ 0 ≤ D
  | .rais kd _ => kd < nk
  | .call f n _ => f < nf ∧ n ≤ 3
  | .hand _ _ _ D => 0 ≤ D
  | .cup _ _ D => 0 ≤ D
  | _ => True
def MCodeOk (code : List Fc) (nk : Nat) : Prop := ∀ c ∈ code, ∀ r ∈ c.rows, RwOk code.length nk r
def HlOk (nk B : Nat) : Hl → Prop
  | .leap q D => 0 ≤ q ∧ 0 ≤ D
  | .ret v => 0 ≤ v ∧ v < 10007
  | .flt f => f.k < nk ∧ (0 ≤ f.v ∧ f.v < 10007) ∧ f.tr.length ≤ B
  | .met f => f.k < nk ∧ (0 ≤ f.v ∧ f.v < 10007) ∧ f.tr.length ≤ B
  | _ => True
structure FrOk (nf nk n B : Nat) (f : Fr) : Prop where
  fn : f.fn < nf
  inr : InR f.σ
  pc : 0 ≤ f.pc
  stk : ∀ v ∈ f.stk, 0 ≤ v ∧ v < 10007
  sl : f.stk.length ≤ n
  held : ∀ h ∈ f.held, HlOk nk B h
  hl : f.held.length ≤ n
structure Inv (code : List Fc) (nk dp n B : Nat) (m : Mc) : Prop where
  told : m.told.length ≤ n
  frs : ∀ f ∈ m.frs, FrOk code.length nk n B f
  len : m.frs.length ≤ dp
  call : ∀ f ∈ m.frs.tail, ∃ g k mk, rowAt code f = some (.call g k mk)
theorem HlOk.mono {nk B B' : Nat} {h : Hl} (o : HlOk nk B h) (hB : B ≤ B') : HlOk nk B' h := by
  cases h with
  | flt f => exact ⟨o.1, o.2.1, by have := o.2.2; omega⟩
  | met f => exact ⟨o.1, o.2.1, by have := o.2.2; omega⟩
  | _ => exact o
theorem FrOk.mono {nf nk n n' B B' : Nat} {f : Fr} (o : FrOk nf nk n B f) (hn : n ≤ n') (hB : B ≤ B') : FrOk nf nk n' B' f :=
  ⟨o.fn, o.inr, o.pc, o.stk, by have := o.sl; omega, fun h hh => (o.held h hh).mono hB, by have := o.hl; omega⟩
section
variable {code : List Fc} {ks : List (Option Nat)} {nk dp n B B' : Nat}
theorem tab_ok (ck : MCodeOk code nk) {f : Fr} {t : Tb} (h : t ∈ tabOf code f) : 0 ≤ t.p ∧ 0 ≤ t.D := by
  unfold tabOf at h
  cases hc : code[f.fn]? with
  | none => rw [hc] at h; cases h
  | some c =>
    rw [hc] at h
    obtain ⟨r, h1, h2, h3⟩ := tabAt_row (show t ∈ tabAt 0 c.rows from h)
    have := ck c (List.mem_of_getElem? hc) r (List.mem_of_getElem? h1)
    refine ⟨h3, ?_⟩
    cases r <;> simp [tbOf] at h2 <;> rw [← h2] <;> exact this
theorem enter_ok {f : Fr} {t : Tb} {h : Hl} (o : FrOk code.length nk n B f) (hh : HlOk nk B h) (hp : 0 ≤ t.p) : FrOk code.length nk (n + 1) B (f.enter t h) := by
  refine ⟨o.fn, o.inr, hp, o.stk, by show f.stk.length ≤ _; have := o.sl; omega, fun x hx => ?_, ?_⟩
  · rcases List.mem_append.mp (show x ∈ f.held.take t.D.toNat ++ [h] from hx) with z | z
    · exact o.held x (List.mem_of_mem_take z)
    · rw [List.mem_singleton.mp z]; exact hh
  · show (f.held.take t.D.toNat ++ [h]).length ≤ n + 1
    have := o.hl
    simp only [List.length_append, List.length_take, List.length_cons, List.length_nil]
    omega
/-- the frames, one step on -/
structure FsOk (code : List Fc) (nk dp n B : Nat) (fs : List Fr) : Prop where
  frs : ∀ f ∈ fs, FrOk code.length nk n B f
  call : ∀ f ∈ fs.tail, ∃ g k mk, rowAt code f = some (.call g k mk)
theorem FsOk.mk1 {f : Fr} {fs : List Fr} {l : Int} {t : List Ev} {la : Option Out} (h : FsOk code nk dp n B (f :: fs)) (hB : B ≤ B') {f' : Fr} (hf : FrOk code.length nk (n + 1) B' f') (ht : t.length ≤ n + 1) (hl : fs.length + 1 ≤ dp) : Inv code nk dp (n + 1) B' ⟨l, t, la, f' :: fs⟩ :=
  ⟨ht, fun g hg => by
    rcases List.mem_cons.mp hg with rfl | hg
    · exact hf
    · exact (h.frs g (List.mem_cons_of_mem _ hg)).mono (by omega) hB, hl, h.call⟩
theorem doLeap_inv (ck : MCodeOk code nk) {m : Mc} {f : Fr} {fs : List Fr} {g D : Int} (h : FsOk code nk dp n B (f :: fs)) (hB : B ≤ B') (ht : m.told.length ≤ n + 1) (hl : fs.length + 1 ≤ dp) (hg : 0 ≤ g) (hD : 0 ≤ D) : Inv code nk dp (n + 1) B' (doLeap code m f fs g D) := by
  have o := h.frs f List.mem_cons_self
  unfold doLeap
  split
  · next t e => exact h.mk1 hB ((enter_ok (h := .leap g D) o ⟨hg, hD⟩ (tab_ok ck (List.mem_of_find?_eq_some e)).1).mono (Nat.le_refl _) hB) ht hl
  · refine h.mk1 hB ⟨o.fn, o.inr, hg, o.stk, by show f.stk.length ≤ _; have := o.sl; omega, fun x hx => (o.held x (List.mem_of_mem_take hx)).mono hB, ?_⟩ ht hl
    show (f.held.take D.toNat).length ≤ n + 1
    have := o.hl
    simp only [List.length_take]; omega
theorem doRet_inv (ck : MCodeOk code nk) {m : Mc} {f : Fr} {fs : List Fr} {v : Int} (h : FsOk code nk dp n B (f :: fs)) (hB : B ≤ B') (ht : m.told.length ≤ n + 1) (hl : fs.length + 1 ≤ dp) (hv : 0 ≤ v ∧ v < 10007) : Inv code nk dp (n + 1) B' (doRet code m f fs v) := by
  have o := h.frs f List.mem_cons_self
  unfold doRet
  split
  · next t e => exact h.mk1 hB ((enter_ok (h := .ret v) o hv (tab_ok ck (List.mem_of_find?_eq_some e)).1).mono (Nat.le_refl _) hB) ht hl
  · cases fs with
    | nil => exact ⟨ht, (fun _ z => nomatch z), Nat.zero_le _, (fun _ z => nomatch z)⟩
    | cons g r =>
      have og := h.frs g (by simp)
      refine ⟨ht, fun x hx => ?_, by simp at hl ⊢; omega, fun x hx => h.call x (List.mem_cons_of_mem _ hx)⟩
      rcases List.mem_cons.mp hx with rfl | hx
      · refine ⟨og.fn, og.inr, by show 0 ≤ g.pc + 1; have := og.pc; omega, fun y hy => ?_, by have := og.sl; simp; omega, fun y hy => (og.held y hy).mono hB, by have := og.hl; show g.held.length ≤ _; omega⟩
        rcases List.mem_append.mp (show y ∈ g.stk ++ [v] from hy) with z | z
        · exact og.stk y z
        · rw [List.mem_singleton.mp z]; exact hv
      · exact (h.frs x (by simp [hx])).mono (by omega) hB
theorem doFly_inv (ck : MCodeOk code nk) {m : Mc} (ht : m.told.length ≤ n + 1) (hB : B ≤ B') : ∀ {fs : List Fr} {x : Flt}, FsOk code nk dp n B fs → fs.length ≤ dp → x.k < nk → (0 ≤ x.v ∧ x.v < 10007) → x.tr.length + fs.length ≤ B' + 1 → Inv code nk dp (n + 1) B' (doFly code ks m fs x)
  | [], x, h, _, _, _, _ => ⟨ht, (fun _ z => nomatch z), Nat.zero_le _, (fun _ z => nomatch z)⟩
  | f :: fs, x, h, hl, hk, hv, hb => by
    have o := h.frs f List.mem_cons_self
    have hb' : x.tr.length + (fs.length + 1) ≤ B' + 1 := hb
    unfold doFly
    split
    · next t e =>
      refine h.mk1 hB (enter_ok (o.mono (Nat.le_refl _) hB) ?_ (tab_ok ck (List.mem_of_find?_eq_some e)).1) ht hl
      split
      · exact ⟨hk, hv, by omega⟩
      · exact ⟨hk, hv, by omega⟩
    · cases fs with
      | nil => exact ⟨ht, (fun _ z => nomatch z), Nat.zero_le _, (fun _ z => nomatch z)⟩
      | cons g r =>
        refine doFly_inv ck ht hB ⟨fun y hy => h.frs y (List.mem_cons_of_mem _ hy), fun y hy => h.call y (List.mem_cons_of_mem _ hy)⟩ (by have : (g :: r).length + 1 ≤ dp := hl; omega) hk hv ?_
        show (x.tr ++ [_]).length + (r.length + 1) ≤ B' + 1
        have : x.tr.length + (r.length + 1 + 1) ≤ B' + 1 := hb
        simp only [List.length_append, List.length_cons, List.length_nil]
        omega
theorem mem_dropLast {α : Type} {x : α} {l : List α} (h : x ∈ l.dropLast) : x ∈ l := List.dropLast_subset l h
theorem getLastD_in {l : List Int} (h : ∀ v ∈ l, 0 ≤ v ∧ v < 10007) : 0 ≤ l.getLastD 0 ∧ l.getLastD 0 < 10007 := by
  cases e : l.getLast? with
  | none => rw [List.getLastD_eq_getLast?, e]; exact ⟨Int.le_refl _, by decide⟩
  | some v => rw [List.getLastD_eq_getLast?, e]; exact h v (List.mem_of_getLast? e)
theorem mets_mem {held : List Hl} {x : Flt} (h : (metsOf held).getLast? = some x) : .met x ∈ held := by
  obtain ⟨y, hy, e⟩ := List.mem_filterMap.mp (List.mem_of_getLast? h)
  cases y <;> simp at e
  subst e; exact hy
/-- one row more -/
theorem Inv.step {m : Mc} (ck : MCodeOk code nk) (i : Inv code nk dp n B m) (l : Legal code m) (hB : B + dp + 1 ≤ B') : Inv code nk dp (n + 1) B' (step code ks dp m) := by
  obtain ⟨⟨f, fs, r, e, hr, hl⟩⟩ := l
  obtain ⟨left, told, last, frs⟩ := m
  cases e
  have o := i.frs f List.mem_cons_self
  have F : FsOk code nk dp n B (f :: fs) := ⟨i.frs, i.call⟩
  have hB' : B ≤ B' := by omega
  have it : told.length ≤ n := i.told
  have il : fs.length + 1 ≤ dp := i.len
  have ro : RwOk code.length nk r := by
    unfold rowAt at hr
    cases hc : code[f.fn]? with
    | none => rw [hc] at hr; cases hr
    | some c => rw [hc] at hr; exact ck c (List.mem_of_getElem? hc) r (List.mem_of_getElem? hr)
  have osl := o.sl
  have ohl := o.hl
  have opc := o.pc
  have dl : ∀ v ∈ f.stk.dropLast, 0 ≤ v ∧ v < 10007 := fun v hv => o.stk v (mem_dropLast hv)
  have dll : f.stk.dropLast.length ≤ n := by rw [List.length_dropLast]; omega
  have hm : ∀ h ∈ f.held, HlOk nk B' h := fun h hh => (o.held h hh).mono hB'
  have hd : ∀ h ∈ f.held.dropLast, HlOk nk B' h := fun h hh => hm h (mem_dropLast hh)
  have hdl : f.held.dropLast.length ≤ n := by rw [List.length_dropLast]; omega
  have gl := getLastD_in o.stk
  have stkA : ∀ {l : List Int} {v : Int}, (∀ x ∈ l, 0 ≤ x ∧ x < 10007) → (0 ≤ v ∧ v < 10007) → ∀ x ∈ l ++ [v], 0 ≤ x ∧ x < 10007 := fun h1 h2 x hx => by
    rcases List.mem_append.mp hx with z | z
    · exact h1 x z
    · rw [List.mem_singleton.mp z]; exact h2
  have Fd : FsOk code nk dp n B ({ f with stk := f.stk.dropLast } :: fs) := ⟨fun g hg => by
    rcases List.mem_cons.mp hg with rfl | hg
    · exact ⟨o.fn, o.inr, opc, dl, dll, o.held, ohl⟩
    · exact i.frs g (List.mem_cons_of_mem _ hg), i.call⟩
  have Fh : FsOk code nk dp n B ({ f with held := f.held.dropLast } :: fs) := ⟨fun g hg => by
    rcases List.mem_cons.mp hg with rfl | hg
    · exact ⟨o.fn, o.inr, opc, o.stk, osl, fun h hh => o.held h (mem_dropLast hh), hdl⟩
    · exact i.frs g (List.mem_cons_of_mem _ hg), i.call⟩
  cases r with
  | num v =>
    simp only [Lp.step, hr]
    exact F.mk1 hB' ⟨o.fn, o.inr, by show 0 ≤ f.pc + 1; omega, stkA o.stk ro, by simp; omega, hm, by show f.held.length ≤ _; omega⟩ (by omega) il
  | var k =>
    simp only [Lp.step, hr]
    refine F.mk1 hB' ⟨o.fn, o.inr, by show 0 ≤ f.pc + 1; omega, stkA o.stk ?_, by simp; omega, hm, by show f.held.length ≤ _; omega⟩ (by omega) il
    exact Ex.val_in (e := .var k) o.inr ro
  | op b =>
    simp only [Lp.step, hr]
    refine F.mk1 hB' ⟨o.fn, o.inr, by show 0 ≤ f.pc + 1; omega, stkA (fun v hv => dl v (mem_dropLast hv)) (BOp.ap_in _ _ _), by simp only [List.length_append, List.length_dropLast, List.length_cons, List.length_nil]; omega, hm, by show f.held.length ≤ _; omega⟩ (by omega) il
  | say =>
    simp only [Lp.step, hr]
    exact F.mk1 hB' ⟨o.fn, o.inr, by show 0 ≤ f.pc + 1; omega, dl, by show f.stk.dropLast.length ≤ _; omega, hm, by show f.held.length ≤ _; omega⟩ (by simp; omega) il
  | set k =>
    simp only [Lp.step, hr]
    exact F.mk1 hB' ⟨o.fn, o.inr.set gl, by show 0 ≤ f.pc + 1; omega, dl, by show f.stk.dropLast.length ≤ _; omega, hm, by show f.held.length ≤ _; omega⟩ (by omega) il
  | «unless» q =>
    simp only [Lp.step, hr]
    split
    · exact F.mk1 hB' ⟨o.fn, o.inr, ro, dl, by show f.stk.dropLast.length ≤ _; omega, hm, by show f.held.length ≤ _; omega⟩ (by omega) il
    · exact F.mk1 hB' ⟨o.fn, o.inr, by show 0 ≤ f.pc + 1; omega, dl, by show f.stk.dropLast.length ≤ _; omega, hm, by show f.held.length ≤ _; omega⟩ (by omega) il
  | go z =>
    simp only [Lp.step, hr]
    exact F.mk1 hB' ⟨o.fn, o.inr, ro, o.stk, by show f.stk.length ≤ _; omega, hm, by show f.held.length ≤ _; omega⟩ (by omega) il
  | turn =>
    simp only [Lp.step, hr]
    exact F.mk1 hB' ⟨o.fn, o.inr, by show 0 ≤ f.pc + 1; omega, o.stk, by show f.stk.length ≤ _; omega, hm, by show f.held.length ≤ _; omega⟩ (by omega) il
  | leap q D =>
    simp only [Lp.step, hr]
    exact doLeap_inv ck F hB' (by show told.length ≤ _; omega) il ro.1 ro.2
  | ret =>
    simp only [Lp.step, hr]
    exact doRet_inv ck Fd hB' (by show told.length ≤ _; omega) il gl
  | rais kd mk =>
    simp only [Lp.step, hr]
    exact doFly_inv ck (by show told.length ≤ _; omega) hB' Fd il ro gl (by simp; omega)
  | again =>
    simp only [Lp.step, hr]
    split
    · next x e =>
      have := o.held _ (mets_mem e)
      exact doFly_inv ck (by show told.length ≤ _; omega) hB' F il this.1 this.2.1 (by have := this.2.2; simp; omega)
    · next e => exact absurd (List.getLast?_eq_none_iff.mp e) hl
  | call g k mk =>
    simp only [Lp.step, hr]
    split
    · exact F.mk1 hB' (o.mono (by omega) hB') (by omega) il
    · split
      · exact F.mk1 hB' (o.mono (by omega) hB') (by omega) il
      · have hk : k ≤ f.stk.length := hl
        refine ⟨by show told.length ≤ _; omega, fun x hx => ?_, by simp; omega, fun x hx => ?_⟩
        · rcases List.mem_cons.mp hx with rfl | hx
          · refine ⟨ro.1, slotsFor_in (by rw [List.length_drop]; have := ro.2; omega) (fun v hv => o.stk v (List.mem_of_mem_drop hv)), Int.le_refl _, (fun _ z => nomatch z), Nat.zero_le _, (fun _ z => nomatch z), Nat.zero_le _⟩
          · rcases List.mem_cons.mp hx with rfl | hx
            · exact ⟨o.fn, o.inr, opc, fun v hv => o.stk v (List.mem_of_mem_take hv), by simp only [List.length_take]; omega, hm, by show f.held.length ≤ _; omega⟩
            · exact (i.frs x (List.mem_cons_of_mem _ hx)).mono (by omega) hB'
        · rcases List.mem_cons.mp (show x ∈ _ :: fs from hx) with rfl | hx
          · exact ⟨g, k, mk, hr⟩
          · exact i.call x hx
  | hand b x kd D =>
    obtain ⟨y, hy⟩ := hl
    simp only [Lp.step, hr, hy]
    refine F.mk1 hB' ⟨o.fn, o.inr, by show 0 ≤ f.pc + 1; omega, stkA o.stk (o.held _ (List.mem_of_getLast? hy)).2.1, by simp; omega, hm, by show f.held.length ≤ _; omega⟩ (by simp; omega) il
  | settled =>
    simp only [Lp.step, hr]
    exact F.mk1 hB' ⟨o.fn, o.inr, by show 0 ≤ f.pc + 1; omega, o.stk, by show f.stk.length ≤ _; omega, hd, by show f.held.dropLast.length ≤ _; omega⟩ (by omega) il
  | mend =>
    simp only [Lp.step, hr]
    refine F.mk1 hB' ⟨o.fn, o.inr, by show 0 ≤ f.pc + 1; omega, o.stk, by show f.stk.length ≤ _; omega, fun h hh => ?_, by simp; omega⟩ (by omega) il
    rcases List.mem_append.mp (show h ∈ f.held ++ [.on] from hh) with z | z
    · exact hm h z
    · rw [List.mem_singleton.mp z]; trivial
  | cup b x D =>
    simp only [Lp.step, hr]
    exact F.mk1 hB' ⟨o.fn, o.inr, by show 0 ≤ f.pc + 1; omega, o.stk, by show f.stk.length ≤ _; omega, hm, by show f.held.length ≤ _; omega⟩ (by omega) il
  | resume =>
    obtain ⟨h, hh, hn⟩ := hl
    have ho := o.held h (List.mem_of_getLast? hh)
    simp only [Lp.step, hr, hh]
    cases h with
    | on =>
      exact F.mk1 hB' ⟨o.fn, o.inr, by show 0 ≤ f.pc + 1; omega, o.stk, by show f.stk.length ≤ _; omega, hd, by show f.held.dropLast.length ≤ _; omega⟩ (by omega) il
    | leap q D => exact doLeap_inv ck Fh hB' (by show told.length ≤ _; omega) il ho.1 ho.2
    | ret v => exact doRet_inv ck Fh hB' (by show told.length ≤ _; omega) il ho
    | flt x => exact doFly_inv ck (by show told.length ≤ _; omega) hB' Fh il ho.1 ho.2.1 (by have := ho.2.2; simp; omega)
    | met x => exact absurd rfl (hn x)
/-- so many rows more -/
theorem Inv.go (ck : MCodeOk code nk) : ∀ {k n B : Nat} {m m' : Mc}, Go code ks dp k m m' → Inv code nk dp n B m → Inv code nk dp (n + k) (B + k * (dp + 1)) m'
  | 0, n, B, _, _, .nil, i => by rw [Nat.zero_mul]; exact i
  | k + 1, n, B, _, _, .next _ l g, i => by
    have := Inv.go ck g (i.step ck l (Nat.le_refl _))
    rw [show n + (k + 1) = n + 1 + k from by omega, show B + (k + 1) * (dp + 1) = B + dp + 1 + k * (dp + 1) from by rw [Nat.succ_mul]; omega]
    exact this
end
theorem Inv.start {code : List Fc} {nk dp : Nat} {most : Int} {ns : List Int} (hd : 1 ≤ dp) (hc : 0 < code.length) (hl : ns.length ≤ 8) (hn : ∀ n ∈ ns, 0 ≤ n ∧ n < 10007) : Inv code nk dp 0 0 (mc0 most ns) :=
  ⟨Nat.le_refl 0, fun f hf => by
    rcases List.mem_singleton.mp hf with rfl
    exact ⟨hc, slotsFor_in hl hn, Int.le_refl 0, (fun _ z => nomatch z), Nat.le_refl 0, (fun _ z => nomatch z), Nat.le_refl 0⟩, hd, (fun _ z => nomatch z)⟩
/-! ### a program's code -/
mutual
theorem Sm.rwok {cs : List Nat} {nk : Nat} {turn hand : Bool} : ∀ {s : Sm} {b D : Int} {tn : Tn}, s.Wf cs nk turn hand → 0 ≤ b → 0 ≤ D → 0 ≤ tn.1 → 0 ≤ tn.2.1 → 0 ≤ tn.2.2 → ∀ r ∈ s.code b D tn, RwOk cs.length nk r
  | .say e, b, D, tn, wf, hb, hD, _, _, _ => fun r hr => by
    rcases List.mem_append.mp (show r ∈ e.code ++ [.say] from hr) with z | z
    · exact Ex.rwok wf.1 r z
    · rw [List.mem_singleton.mp z]; trivial
  | .set k e, b, D, tn, wf, hb, hD, _, _, _ => fun r hr => by
    rcases List.mem_append.mp (show r ∈ e.code ++ [.set k] from hr) with z | z
    · exact Ex.rwok wf.2.1 r z
    · rw [List.mem_singleton.mp z]; exact wf.1
  | .row ps, b, D, tn, wf, hb, hD, h1, h2, h3 => Sms.rwok wf hb hD h1 h2 h3
  | .ife e s t, b, D, tn, wf, hb, hD, h1, h2, h3 => fun r hr => by
    simp only [Sm.code, List.mem_append, List.mem_singleton] at hr
    rcases hr with (((z | rfl) | z) | rfl) | z
    · exact Ex.rwok wf.1.1 r z
    · show 0 ≤ b + (e.len : Int) + 1 + s.len + 1; omega
    · exact Sm.rwok wf.2.1 (by omega) hD h1 h2 h3 r z
    · show 0 ≤ b + (e.len : Int) + 1 + s.len + 1 + t.len; omega
    · exact Sm.rwok wf.2.2 (by omega) hD h1 h2 h3 r z
  | .whl e s, b, D, tn, wf, hb, hD, h1, h2, h3 => fun r hr => by
    simp only [Sm.code, List.mem_append, List.mem_cons, List.mem_singleton, List.not_mem_nil, or_false] at hr
    rcases hr with ((z | rfl | rfl) | z) | rfl
    · exact Ex.rwok wf.1.1 r z
    · show 0 ≤ b + (e.len : Int) + 2 + s.len + 1; omega
    · trivial
    · exact Sm.rwok wf.2 (by omega) hD hb (by show 0 ≤ b + (e.len : Int) + 2 + s.len + 1; omega) hD r z
    · exact hb
  | .brk, b, D, tn, wf, hb, hD, h1, h2, h3 => fun r hr => by
    rcases List.mem_singleton.mp hr with rfl; exact ⟨h2, h3⟩
  | .cnt, b, D, tn, wf, hb, hD, h1, h2, h3 => fun r hr => by
    rcases List.mem_singleton.mp hr with rfl; exact ⟨h1, h3⟩
  | .ret e, b, D, tn, wf, hb, hD, _, _, _ => fun r hr => by
    rcases List.mem_append.mp (show r ∈ e.code ++ [.ret] from hr) with z | z
    · exact Ex.rwok wf.1 r z
    · rw [List.mem_singleton.mp z]; trivial
  | .call k f ps m, b, D, tn, wf, hb, hD, _, _, _ => fun r hr => by
    obtain ⟨w1, w2, w3, w4, _⟩ := wf
    rcases List.mem_append.mp (show r ∈ exsCode ps ++ [.call f ps.length m, .set k] from hr) with z | z
    · exact exs_rwok (fun e he => (w4 e he).1) r z
    · rcases List.mem_cons.mp z with rfl | z
      · exact ⟨(List.getElem?_eq_some_iff.mp w2).1, w3⟩
      · rw [List.mem_singleton.mp z]; exact w1
  | .rais kd e m, b, D, tn, wf, hb, hD, _, _, _ => fun r hr => by
    rcases List.mem_append.mp (show r ∈ e.code ++ [.rais kd m] from hr) with z | z
    · exact Ex.rwok wf.2.1.1 r z
    · rw [List.mem_singleton.mp z]; exact wf.1
  | .again, _, _, _, _, _, _, _, _, _ => fun r hr => by
    rcases List.mem_singleton.mp hr with rfl; trivial
  | .tri s hs, b, D, tn, wf, hb, hD, h1, h2, h3 => fun r hr => by
    simp only [Sm.code, List.mem_append, List.mem_singleton] at hr
    rcases hr with (z | rfl) | z
    · exact Sm.rwok wf.1 hb hD h1 h2 h3 r z
    · show 0 ≤ b + (s.len : Int) + 1 + hs.len; omega
    · exact Hds.rwok wf.2 (by omega) (by omega) hD h1 h2 h3 r z
  | .cln s c, b, D, tn, wf, hb, hD, h1, h2, h3 => fun r hr => by
    simp only [Sm.code, List.mem_append, List.mem_cons, List.mem_singleton, List.not_mem_nil, or_false] at hr
    rcases hr with ((z | rfl | rfl) | z) | rfl
    · exact Sm.rwok wf.1 hb hD h1 h2 h3 r z
    · trivial
    · exact hD
    · exact Sm.rwok wf.2 (by omega) (by omega) h1 h2 h3 r z
    · trivial
theorem Sms.rwok {cs : List Nat} {nk : Nat} {turn hand : Bool} : ∀ {s : Sms} {b D : Int} {tn : Tn}, s.Wf cs nk turn hand → 0 ≤ b → 0 ≤ D → 0 ≤ tn.1 → 0 ≤ tn.2.1 → 0 ≤ tn.2.2 → ∀ r ∈ s.code b D tn, RwOk cs.length nk r
  | .nil, _, _, _, _, _, _, _, _, _ => fun _ h => nomatch h
  | .cons s q, b, D, tn, wf, hb, hD, h1, h2, h3 => fun r hr => by
    rcases List.mem_append.mp (show r ∈ s.code b D tn ++ q.code (b + s.len) D tn from hr) with z | z
    · exact Sm.rwok wf.1 hb hD h1 h2 h3 r z
    · exact Sms.rwok wf.2 (by omega) hD h1 h2 h3 r z
theorem Hds.rwok {cs : List Nat} {nk : Nat} {turn : Bool} : ∀ {s : Hds} {b x z at_ D : Int} {tn : Tn}, s.Wf cs nk turn → 0 ≤ z → 0 ≤ at_ → 0 ≤ D → 0 ≤ tn.1 → 0 ≤ tn.2.1 → 0 ≤ tn.2.2 → ∀ r ∈ s.code b x z at_ D tn, RwOk cs.length nk r
  | .nil, _, _, _, _, _, _, _, _, _, _, _, _, _ => fun _ h => nomatch h
  | .cons k sl t q, b, x, z, at_, D, tn, wf, hz, ha, hD, h1, h2, h3 => fun r hr => by
    obtain ⟨_, w1, w2, w3⟩ : (∀ j, k = some j → j < nk) ∧ sl < 8 ∧ t.Wf cs nk turn true ∧ q.Wf cs nk turn := wf
    simp only [Hds.code, List.mem_append, List.mem_cons, List.mem_singleton, List.not_mem_nil, or_false] at hr
    rcases hr with (((rfl | rfl) | y) | rfl | rfl) | y
    · exact hD
    · exact w1
    · exact Sm.rwok w2 (by omega) (by omega) h1 h2 h3 r y
    · trivial
    · exact hz
    · exact Hds.rwok w3 hz (by omega) hD h1 h2 h3 r y
theorem Ex.rwok {nf nk : Nat} : ∀ {e : Ex}, e.Wf → ∀ r ∈ e.code, RwOk nf nk r
  | .num n, w => fun r hr => by
    rcases List.mem_singleton.mp hr with rfl
    have : 0 ≤ n ∧ n < 1000 := w
    show 0 ≤ n ∧ n < 10007
    omega
  | .var k, w => fun r hr => by
    rcases List.mem_singleton.mp hr with rfl; exact w
  | .bin o a c, w => fun r hr => by
    rcases List.mem_append.mp (show r ∈ a.code ++ c.code ++ [.op o] from hr) with z | z
    · rcases List.mem_append.mp z with z | z
      · exact Ex.rwok w.1 r z
      · exact Ex.rwok w.2 r z
    · rw [List.mem_singleton.mp z]; trivial
theorem exs_rwok {nf nk : Nat} : ∀ {ps : List Ex}, (∀ e ∈ ps, e.Wf) → ∀ r ∈ exsCode ps, RwOk nf nk r
  | [], _ => fun _ h => nomatch h
  | e :: ps, w => fun r hr => by
    rcases List.mem_append.mp (show r ∈ e.code ++ exsCode ps from hr) with z | z
    · exact Ex.rwok (w e List.mem_cons_self) r z
    · exact exs_rwok (fun y hy => w y (List.mem_cons_of_mem _ hy)) r z
end
theorem PgR.mcodeOk {p : Pg} (hp : PgR p) : MCodeOk p.code p.kinds.length := by
  intro c hc r hr
  obtain ⟨f, hf, rfl⟩ := List.mem_map.mp (show c ∈ p.funs.map fun f => (⟨f.1, bodyRows f.2⟩ : Fc) from hc)
  have el : p.code.length = p.cs.length := by simp [Pg.code, Pg.cs]
  rw [el]
  rcases List.mem_append.mp (show r ∈ f.2.code 0 0 (0, 0, 0) ++ [.num 0, .ret] from hr) with z | z
  · exact Sm.rwok (hp.body f hf) (Int.le_refl 0) (Int.le_refl 0) (Int.le_refl 0) (Int.le_refl 0) (Int.le_refl 0) r z
  · rcases List.mem_cons.mp z with rfl | z
    · exact ⟨Int.le_refl 0, by decide⟩
    · rw [List.mem_singleton.mp z]; trivial
end Lp

/-! LmA: the machine at its addresses. -/
namespace L2
open PySem PySem.Spec PyProof.Rows PySem.SeqAt
/-- xs == [], whatever xs holds -/
def rEqE (K : PySem.W.Frag) : R2 := fun x y H Q => ∃ a b xs, x = .ref a ∧ y = .ref b ∧ SqL K H a xs ∧ SqL K H b [] ∧ Q (.bl xs.isEmpty) H
def rNeE (K : PySem.W.Frag) : R2 := fun x y H Q => ∃ a b xs, x = .ref a ∧ y = .ref b ∧ SqL K H a xs ∧ SqL K H b [] ∧ Q (.bl (!xs.isEmpty)) H
section
variable {X : Cx}
theorem op_eqE (hu : X.A.units + 64 < cLine) : OpR X (compareOp .Eq) (rEqE X.K) := by
  intro pins s σ H x y v u Q I rx ry h
  obtain ⟨a, b, xs, rfl, rfl, ha, hb, q⟩ := h
  cases (show v = Value.ref a from rx)
  cases (show u = Value.ref b from ry)
  obtain ⟨us, r1, p1, _⟩ := I.list ha
  obtain ⟨ws, r2, p2, _⟩ := I.list hb
  cases r2
  cases xs with
  | nil =>
    cases r1
    exact RcAt.lists (e := fun _ => true) p1.isList p2.isList rfl (by omega) (fun j h1 _ => absurd h1 (Nat.not_lt_zero j)) X.prog X.w _ _ ⟨.bl true, H, I, rfl, q⟩
  | cons x0 xs =>
    cases r1 with
    | cons ra rb => exact RcAt.lists_lengths p1.isList p2.isList (by simp) (by omega) X.prog X.w _ _ ⟨.bl false, H, I, rfl, q⟩
theorem op_neE (hu : X.A.units + 64 < cLine) : OpR X (compareOp .NotEq) (rNeE X.K) := by
  intro pins s σ H x y v u Q I rx ry h
  obtain ⟨a, b, xs, rfl, rfl, ha, hb, q⟩ := h
  cases (show v = Value.ref a from rx)
  cases (show u = Value.ref b from ry)
  obtain ⟨us, r1, p1, _⟩ := I.list ha
  obtain ⟨ws, r2, p2, _⟩ := I.list hb
  cases r2
  cases xs with
  | nil =>
    cases r1
    exact RcNeAt.lists (e := fun _ => true) p1.isList p2.isList rfl (by omega) (fun j h1 _ => absurd h1 (Nat.not_lt_zero j)) X.prog X.w _ _ ⟨.bl false, H, I, rfl, q⟩
  | cons x0 xs =>
    cases r1 with
    | cons ra rb => exact RcNeAt.lists_lengths p1.isList p2.isList (by simp) (by omega) X.prog X.w _ _ ⟨.bl true, H, I, rfl, q⟩
end
end L2
namespace Lp
open PySem PySem.Spec PyProof.Rows L2
/-! ### what stands where -/
structure FA where
  fa : Addr
  dx : Addr
  sa : Addr
  ka : Addr
  ha : Addr
def FA.own (x : FA) : List Addr := [x.fa, x.sa, x.ka, x.ha]
structure MA where
  ma : Addr
  dx : Addr
  tl : Addr
  fl : Addr
  kv : V
  cv : V
def foot (y : MA) (xs : List FA) : List Addr := y.ma :: y.tl :: y.fl :: xs.flatMap FA.own
def frFs (x : FA) (f : Fr) : List (Str × V) := [("number", .int (f.fn : Int)), ("slots", .ref x.sa), ("place", .int f.pc), ("stack", .ref x.ka), ("held", .ref x.ha)]
def mcFs (y : MA) (l : Int) (dp : Nat) (dn : Int) (lv : V) : List (Str × V) := [("kinds", y.kv), ("code", y.cv), ("left", .int l), ("deep", .int (dp : Int)), ("told", .ref y.tl), ("done", .int dn), ("last", lv), ("frames", .ref y.fl)]
def Hl.d : Hl → PyData
  | .on => .tuple [.str "on"]
  | .leap q D => .tuple [.str "leap", .int q, .int D]
  | .ret v => .tuple [.str "return", .int v]
  | .flt f => .tuple (.str "fault" :: f.tl)
  | .met f => .tuple (.str "met" :: f.tl)
structure FrAt (K : PySem.W.Frag) (CF : Addr) (H : Hp) (x : FA) (f : Fr) : Prop where
  ins : H x.fa = some (.ins CF x.dx (frFs x f))
  slo : H x.sa = some (.lst (f.σ.map V.int))
  stk : H x.ka = some (.lst (f.stk.map V.int))
  held : ∃ us, H x.ha = some (.lst us) ∧ TpAll K H us (f.held.map Hl.d)
inductive FrsAt (K : PySem.W.Frag) (CF : Addr) (H : Hp) : List FA → List Fr → Prop
  | nil : FrsAt K CF H [] []
  | cons {x xs f fs} : FrAt K CF H x f → FrsAt K CF H xs fs → FrsAt K CF H (x :: xs) (f :: fs)
structure ME where
  code : List Fc
  ks : List (Option Nat)
  dp : Nat
def LastOk (K : PySem.W.Frag) (H : Hp) (o : Option Out) (lv : V) : Prop := match o with
  | none => lv = .non
  | some o => Tp K H lv o.d
structure MSt (K : PySem.W.Frag) (CM CF : Addr) (e : ME) (H : Hp) (y : MA) (xs : List FA) (lv : V) (dn : Int) (m : Mc) : Prop where
  ins : H y.ma = some (.ins CM y.dx (mcFs y m.left e.dp dn lv))
  told : ∃ us, H y.tl = some (.lst us) ∧ TpAll K H us (m.told.map Ev.d)
  frl : H y.fl = some (.lst (xs.reverse.map fun x => V.ref x.fa))
  frs : FrsAt K CF H xs m.frs
  last : LastOk K H m.last lv
  kt : Tp K H y.kv (.tuple (e.ks.map kindD))
  ct : Tp K H y.cv (codeD e.code)
  nd : (foot y xs).Nodup
/-- what the top has of the classes -/
structure MacT (K : PySem.W.Frag) (CM CF : Addr) : Prop where
  clM : Cls K CM
  clF : Cls K CF
  kinds : NoAttr K CM "kinds"
  code : NoAttr K CM "code"
  left : NoAttr K CM "left"
  deep : NoAttr K CM "deep"
  told : NoAttr K CM "told"
  done : NoAttr K CM "done"
  last : NoAttr K CM "last"
  frames : NoAttr K CM "frames"
  number : NoAttr K CF "number"
  slots : NoAttr K CF "slots"
  place : NoAttr K CF "place"
  stack : NoAttr K CF "stack"
  held : NoAttr K CF "held"
/-- from one heap to the next: only the machine's own and what is new changes -/
structure Mv (y : MA) (xs : List FA) (H : Hp) (xs' : List FA) (H' : Hp) : Prop where
  k : Kp (fun a => a ∈ foot y xs) H H'
  f : ∀ a ∈ foot y xs', a ∈ foot y xs ∨ H a = none
theorem Mv.refl (y : MA) (xs : List FA) (H : Hp) : Mv y xs H xs H := ⟨Kp.refl _ _, fun _ h => .inl h⟩
theorem Mv.trans {y : MA} {xs xs1 xs2 : List FA} {H H1 H2 : Hp} (a : Mv y xs H xs1 H1) (b : Mv y xs1 H1 xs2 H2) : Mv y xs H xs2 H2 := by
  refine ⟨fun x o h n => b.k x o (a.k x o h n) fun z => ?_, fun x hx => ?_⟩
  · rcases a.f x z with z | z
    · exact n z
    · rw [h] at z; cases z
  · rcases b.f x hx with z | z
    · exact a.f x z
    · by_cases hn : x ∈ foot y xs
      · exact .inl hn
      · exact .inr (a.k.free z hn)
theorem Mv.same {y : MA} {xs : List FA} {H H' : Hp} (s : Same H H') : Mv y xs H xs H' := ⟨Kp.same s, fun _ h => .inl h⟩
section
variable {K : PySem.W.Frag} {CM CF : Addr} {e : ME} {H H' : Hp} {y : MA} {x x' : FA} {xs : List FA} {lv : V} {dn : Int} {m : Mc} {f f' : Fr} {fs : List Fr}
theorem FrAt.mono (h : FrAt K CF H x f) (t : Tk H H') (k : ∀ a ∈ x.own, ∀ o, H a = some o → H' a = some o) : FrAt K CF H' x f := by
  obtain ⟨us, h1, h2⟩ := h.held
  exact ⟨k _ (by simp [FA.own]) _ h.ins, k _ (by simp [FA.own]) _ h.slo, k _ (by simp [FA.own]) _ h.stk, us, k _ (by simp [FA.own]) _ h1, h2.mono t⟩
theorem FrsAt.mono (t : Tk H H') : ∀ {xs : List FA} {fs : List Fr}, FrsAt K CF H xs fs → (∀ a ∈ xs.flatMap FA.own, ∀ o, H a = some o → H' a = some o) → FrsAt K CF H' xs fs
  | _, _, .nil, _ => .nil
  | _, _, .cons h1 h2, k => .cons (h1.mono t fun a ha => k a (by simp [ha])) (FrsAt.mono t h2 fun a ha => k a (by
      rw [List.flatMap_cons]
      exact List.mem_append_right _ ha))
theorem FrAt.some (h : FrAt K CF H x f) : ∀ a ∈ x.own, ∃ o, H a = some o ∧ (∀ us, o ≠ .tup us) ∧ ∀ ob u, o ≠ .frz ob u := by
  obtain ⟨us, h1, h2⟩ := h.held
  intro a ha
  simp only [FA.own, List.mem_cons, List.not_mem_nil, or_false] at ha
  rcases ha with rfl | rfl | rfl | rfl
  · exact ⟨_, h.ins, (fun _ z => by cases z), (fun _ _ z => by cases z)⟩
  · exact ⟨_, h.slo, (fun _ z => by cases z), (fun _ _ z => by cases z)⟩
  · exact ⟨_, h.stk, (fun _ z => by cases z), (fun _ _ z => by cases z)⟩
  · exact ⟨_, h1, (fun _ z => by cases z), (fun _ _ z => by cases z)⟩
theorem FrsAt.some : ∀ {xs : List FA} {fs : List Fr}, FrsAt K CF H xs fs → ∀ a ∈ xs.flatMap FA.own, ∃ o, H a = some o ∧ (∀ us, o ≠ .tup us) ∧ ∀ ob u, o ≠ .frz ob u
  | _, _, .nil, a, ha => nomatch ha
  | _, _, .cons h1 h2, a, ha => by
    rw [List.flatMap_cons] at ha
    rcases List.mem_append.mp ha with z | z
    · exact h1.some a z
    · exact FrsAt.some h2 a z
theorem MSt.noTup (h : MSt K CM CF e H y xs lv dn m) : NoTup (fun a => a ∈ foot y xs) H := by
  intro a ha
  rcases List.mem_cons.mp ha with rfl | ha
  · exact ⟨_, h.ins, (fun _ z => by cases z), (fun _ _ z => by cases z)⟩
  · rcases List.mem_cons.mp ha with rfl | ha
    · obtain ⟨us, h1, _⟩ := h.told
      exact ⟨_, h1, (fun _ z => by cases z), (fun _ _ z => by cases z)⟩
    · rcases List.mem_cons.mp ha with rfl | ha
      · exact ⟨_, h.frl, (fun _ z => by cases z), (fun _ _ z => by cases z)⟩
      · exact h.frs.some a ha
theorem MSt.tk {xs' : List FA} (h : MSt K CM CF e H y xs lv dn m) (k : Mv y xs H xs' H') : Tk H H' := k.k.tk h.noTup
theorem MSt.at (h : MSt K CM CF e H y xs lv dn m) {a : Addr} (ha : a ∈ foot y xs) : H a ≠ none := by
  obtain ⟨o, e, _⟩ := h.noTup a ha
  rw [e]; exact fun z => nomatch z
theorem MSt.same (h : MSt K CM CF e H y xs lv dn m) (s : Same H H') : MSt K CM CF e H' y xs lv dn m := by
  obtain ⟨us, h1, h2⟩ := h.told
  have t := Tk.same s
  refine ⟨s _ _ h.ins, ⟨us, s _ _ h1, h2.mono t⟩, s _ _ h.frl, h.frs.mono t fun a _ o => s a o, ?_, h.kt.mono t, h.ct.mono t, h.nd⟩
  have := h.last
  unfold LastOk at this ⊢
  split at this
  · exact this
  · exact this.mono t
theorem LastOk.mono {o : Option Out} (h : LastOk K H o lv) (t : Tk H H') : LastOk K H' o lv := by
  unfold LastOk at h ⊢
  split at h
  · exact h
  · exact h.mono t
/-! ### changes of the machine's own -/
theorem nd_ne (h : (foot y xs).Nodup) : y.ma ≠ y.tl ∧ y.ma ≠ y.fl ∧ y.tl ≠ y.fl ∧ (∀ a ∈ xs.flatMap FA.own, a ≠ y.ma ∧ a ≠ y.tl ∧ a ≠ y.fl) := by
  obtain ⟨h1, h2⟩ := List.nodup_cons.mp h
  obtain ⟨h3, h4⟩ := List.nodup_cons.mp h2
  obtain ⟨h5, h6⟩ := List.nodup_cons.mp h4
  refine ⟨fun z => h1 (by rw [z]; simp), fun z => h1 (by rw [z]; simp), fun z => h3 (by rw [z]; simp), fun a ha => ⟨fun z => h1 (by rw [← z]; simp [ha]), fun z => h3 (by rw [← z]; simp [ha]), fun z => h5 (by rw [← z]; exact ha)⟩⟩
theorem foot_own (h : a ∈ xs.flatMap FA.own) : a ∈ foot y xs := List.mem_cons_of_mem _ (List.mem_cons_of_mem _ (List.mem_cons_of_mem _ h))
theorem Mv.upd {a : Addr} {o : HO} (h : a ∈ foot y xs) : Mv y xs H xs (L2.upd H a o) := ⟨Kp.upd h, fun _ h => .inl h⟩
/-- a field of the machine's -/
theorem MSt.fld {l : Int} {dn' : Int} {lv' : V} {la : Option Out} (h : MSt K CM CF e H y xs lv dn m) (hl : LastOk K H la lv') : MSt K CM CF e (L2.upd H y.ma (.ins CM y.dx (mcFs y l e.dp dn' lv'))) y xs lv' dn' { m with left := l, last := la } := by
  obtain ⟨us, h1, h2⟩ := h.told
  obtain ⟨n1, n2, n3, n4⟩ := nd_ne h.nd
  have t : Tk H (L2.upd H y.ma (.ins CM y.dx (mcFs y l e.dp dn' lv'))) := Tk.ins h.ins
  exact ⟨upd_same, ⟨us, by rw [upd_ne n1.symm]; exact h1, h2.mono t⟩, by rw [upd_ne n2.symm]; exact h.frl, h.frs.mono t fun a ha o eo => by rw [upd_ne (n4 a ha).1]; exact eo, hl.mono t, h.kt.mono t, h.ct.mono t, h.nd⟩
/-- one told more -/
theorem MSt.tell {v : V} {ev : Ev} (h : MSt K CM CF e H y xs lv dn m) (hv : Tp K H v ev.d) : ∃ us, H y.tl = some (.lst us) ∧ us.length = m.told.length ∧ MSt K CM CF e (L2.upd H y.tl (.lst (us ++ [v]))) y xs lv dn { m with told := m.told ++ [ev] } := by
  obtain ⟨us, h1, h2⟩ := h.told
  obtain ⟨n1, n2, n3, n4⟩ := nd_ne h.nd
  have t : Tk H (L2.upd H y.tl (.lst (us ++ [v]))) := Tk.lst h1
  refine ⟨us, h1, by rw [h2.length, List.length_map], by rw [upd_ne n1]; exact h.ins, ⟨_, upd_same, ?_⟩, by rw [upd_ne n3.symm]; exact h.frl, h.frs.mono t fun a ha o eo => by rw [upd_ne (n4 a ha).2.1]; exact eo, h.last.mono t, h.kt.mono t, h.ct.mono t, h.nd⟩
  rw [List.map_append]
  exact (h2.snoc hv).mono t
/-- the last frame is gone -/
theorem MSt.pop {xs' : List FA} (h : MSt K CM CF e H y (x :: xs) lv dn m) (hf : m.frs = f :: fs) : MSt K CM CF e (L2.upd H y.fl (.lst (xs.reverse.map fun x => V.ref x.fa))) y xs lv dn { m with frs := fs } := by
  obtain ⟨us, h1, h2⟩ := h.told
  obtain ⟨n1, n2, n3, n4⟩ := nd_ne h.nd
  have t : Tk H (L2.upd H y.fl (.lst (xs.reverse.map fun x => V.ref x.fa))) := Tk.lst h.frl
  have hfr := h.frs
  rw [hf] at hfr
  cases hfr with
  | cons ha hb =>
    refine ⟨by rw [upd_ne n2]; exact h.ins, ⟨us, by rw [upd_ne n3]; exact h1, h2.mono t⟩, upd_same, hb.mono t fun a ha o eo => by rw [upd_ne (n4 a (by rw [List.flatMap_cons]; exact List.mem_append_right _ ha)).2.2]; exact eo, h.last.mono t, h.kt.mono t, h.ct.mono t, ?_⟩
    have := h.nd
    unfold foot at this ⊢
    rw [List.flatMap_cons] at this
    refine this.sublist ?_
    exact ((List.sublist_append_right _ _).cons_cons _).cons_cons _ |>.cons_cons _
theorem MSt.pop_mv (h : MSt K CM CF e H y (x :: xs) lv dn m) : Mv y (x :: xs) H xs (L2.upd H y.fl (.lst (xs.reverse.map fun x => V.ref x.fa))) :=
  ⟨Kp.upd (by simp [foot]), fun a ha => .inl (by
    unfold foot at ha ⊢
    rw [List.flatMap_cons]
    simp only [List.mem_cons, List.mem_append] at ha ⊢
    rcases ha with z | z | z | z
    · exact .inl z
    · exact .inr (.inl z)
    · exact .inr (.inr (.inl z))
    · exact .inr (.inr (.inr (.inr z))))⟩
/-- the last frame, changed -/
theorem MSt.top (h : MSt K CM CF e H y (x :: xs) lv dn m) (hf : m.frs = f :: fs) (hk : ∀ b o, H b = some o → b ∉ x.own → H' b = some o) (t : Tk H H') (hfr : FrAt K CF H' x' f') (hfa : x'.fa = x.fa) (hn : ∀ a ∈ x'.own, a ∈ x.own ∨ H a = none) (nd : x'.own.Nodup) :
    MSt K CM CF e H' y (x' :: xs) lv dn { m with frs := f' :: fs } ∧ Mv y (x :: xs) H (x' :: xs) H' := by
  obtain ⟨us, h1, h2⟩ := h.told
  obtain ⟨n1, n2, n3, n4⟩ := nd_ne h.nd
  have hfrs := h.frs
  rw [hf] at hfrs
  have hnd := h.nd
  unfold foot at hnd
  rw [List.flatMap_cons] at hnd n4
  obtain ⟨a1, b1⟩ := List.nodup_cons.mp hnd
  obtain ⟨a2, b2⟩ := List.nodup_cons.mp b1
  obtain ⟨a3, b3⟩ := List.nodup_cons.mp b2
  obtain ⟨c1, c2, c3⟩ := List.nodup_append.mp b3
  have o1 : y.ma ∉ x.own := fun z => (n4 _ (List.mem_append_left _ z)).1 rfl
  have o2 : y.tl ∉ x.own := fun z => (n4 _ (List.mem_append_left _ z)).2.1 rfl
  have o3 : y.fl ∉ x.own := fun z => (n4 _ (List.mem_append_left _ z)).2.2 rfl
  cases hfrs with
  | cons ha hb =>
    have hsome : ∀ a ∈ xs.flatMap FA.own, H a ≠ none := fun a z => by
      obtain ⟨o, eo, _⟩ := hb.some a z
      rw [eo]; exact fun w => nomatch w
    have fresh : ∀ {a : Addr}, a ∈ x'.own → H a ≠ none → a ∈ x.own := fun z w => (hn _ z).resolve_right w
    have nma : H y.ma ≠ none := by rw [h.ins]; exact fun w => nomatch w
    have ntl : H y.tl ≠ none := by rw [h1]; exact fun w => nomatch w
    have nfl : H y.fl ≠ none := by rw [h.frl]; exact fun w => nomatch w
    refine ⟨⟨hk _ _ h.ins o1, ⟨us, hk _ _ h1 o2, h2.mono t⟩, ?_, .cons hfr (hb.mono t fun a z o eo => hk a o eo fun w => c3 a w a z rfl), h.last.mono t, h.kt.mono t, h.ct.mono t, ?_⟩, ?_, ?_⟩
    · have := hk _ _ h.frl o3
      rw [this]
      simp [hfa]
    · unfold foot
      rw [List.flatMap_cons]
      refine List.nodup_cons.mpr ⟨fun z => ?_, List.nodup_cons.mpr ⟨fun z => ?_, List.nodup_cons.mpr ⟨fun z => ?_, List.nodup_append.mpr ⟨nd, c2, fun a z b w ab => ?_⟩⟩⟩⟩
      · simp only [List.mem_cons, List.mem_append] at z
        rcases z with z | z | z | z
        · exact n1 z
        · exact n2 z
        · exact o1 (fresh z nma)
        · exact a1 (by simp only [List.mem_cons, List.mem_append]; exact .inr (.inr (.inr z)))
      · simp only [List.mem_cons, List.mem_append] at z
        rcases z with z | z | z
        · exact n3 z
        · exact o2 (fresh z ntl)
        · exact a2 (by simp only [List.mem_cons, List.mem_append]; exact .inr (.inr z))
      · simp only [List.mem_append] at z
        rcases z with z | z
        · exact o3 (fresh z nfl)
        · exact a3 (by simp only [List.mem_append]; exact .inr z)
      · subst ab
        exact c3 a (fresh z (hsome a w)) a w rfl
    · intro b o eo nb
      refine hk b o eo fun z => nb ?_
      exact foot_own (by rw [List.flatMap_cons]; exact List.mem_append_left _ z)
    · intro a z
      unfold foot at z
      rw [List.flatMap_cons] at z
      simp only [List.mem_cons, List.mem_append] at z
      rcases z with z | z | z | z | z
      · exact .inl (by simp [foot, z])
      · exact .inl (by simp [foot, z])
      · exact .inl (by simp [foot, z])
      · rcases hn a z with w | w
        · exact .inl (foot_own (by rw [List.flatMap_cons]; exact List.mem_append_left _ w))
        · exact .inr w
      · exact .inl (foot_own (by rw [List.flatMap_cons]; exact List.mem_append_right _ z))
theorem MSt.fr (h : MSt K CM CF e H y (x :: xs) lv dn m) (hf : m.frs = f :: fs) : FrAt K CF H x f := by
  have := h.frs
  rw [hf] at this
  cases this with
  | cons a b => exact a
theorem MSt.ndx (h : MSt K CM CF e H y (x :: xs) lv dn m) : x.own.Nodup := by
  have := h.nd
  unfold foot at this
  rw [List.flatMap_cons] at this
  have := (List.nodup_cons.mp this).2
  have := (List.nodup_cons.mp this).2
  have := (List.nodup_cons.mp this).2
  exact (List.nodup_append.mp this).1
theorem own_ne (h : x.own.Nodup) : x.fa ≠ x.sa ∧ x.fa ≠ x.ka ∧ x.fa ≠ x.ha ∧ x.sa ≠ x.ka ∧ x.sa ≠ x.ha ∧ x.ka ≠ x.ha := by
  simp only [FA.own, List.nodup_cons, List.mem_cons, List.not_mem_nil, or_false, not_or] at h
  obtain ⟨⟨a, b, c⟩, ⟨d, e⟩, f, _⟩ := h
  exact ⟨a, b, c, d, e, f⟩
/-- its place -/
theorem MSt.place {q : Int} (h : MSt K CM CF e H y (x :: xs) lv dn m) (hf : m.frs = f :: fs) :
    MSt K CM CF e (L2.upd H x.fa (.ins CF x.dx (frFs x { f with pc := q }))) y (x :: xs) lv dn { m with frs := { f with pc := q } :: fs } ∧ Mv y (x :: xs) H (x :: xs) (L2.upd H x.fa (.ins CF x.dx (frFs x { f with pc := q }))) := by
  have a := h.fr hf
  obtain ⟨us, h1, h2⟩ := a.held
  obtain ⟨n1, n2, n3, n4, n5, n6⟩ := own_ne h.ndx
  have t : Tk H (L2.upd H x.fa (.ins CF x.dx (frFs x { f with pc := q }))) := Tk.ins a.ins
  refine h.top hf (fun b o eo nb => by rw [upd_ne (fun z => nb (by rw [z]; simp [FA.own]))]; exact eo) t ⟨upd_same, by rw [upd_ne n1.symm]; exact a.slo, by rw [upd_ne n2.symm]; exact a.stk, us, by rw [upd_ne n3.symm]; exact h1, h2.mono t⟩ rfl (fun _ z => .inl z) h.ndx
/-- its slots -/
theorem MSt.slo {σ : List Int} (h : MSt K CM CF e H y (x :: xs) lv dn m) (hf : m.frs = f :: fs) :
    MSt K CM CF e (L2.upd H x.sa (.lst (σ.map V.int))) y (x :: xs) lv dn { m with frs := { f with σ := σ } :: fs } ∧ Mv y (x :: xs) H (x :: xs) (L2.upd H x.sa (.lst (σ.map V.int))) := by
  have a := h.fr hf
  obtain ⟨us, h1, h2⟩ := a.held
  obtain ⟨n1, n2, n3, n4, n5, n6⟩ := own_ne h.ndx
  have t : Tk H (L2.upd H x.sa (.lst (σ.map V.int))) := Tk.lst a.slo
  refine h.top hf (fun b o eo nb => by rw [upd_ne (fun z => nb (by rw [z]; simp [FA.own]))]; exact eo) t ⟨by rw [upd_ne n1]; exact a.ins, upd_same, by rw [upd_ne n4.symm]; exact a.stk, us, by rw [upd_ne n5.symm]; exact h1, h2.mono t⟩ rfl (fun _ z => .inl z) h.ndx
/-- its stack -/
theorem MSt.stk {S : List Int} (h : MSt K CM CF e H y (x :: xs) lv dn m) (hf : m.frs = f :: fs) :
    MSt K CM CF e (L2.upd H x.ka (.lst (S.map V.int))) y (x :: xs) lv dn { m with frs := { f with stk := S } :: fs } ∧ Mv y (x :: xs) H (x :: xs) (L2.upd H x.ka (.lst (S.map V.int))) := by
  have a := h.fr hf
  obtain ⟨us, h1, h2⟩ := a.held
  obtain ⟨n1, n2, n3, n4, n5, n6⟩ := own_ne h.ndx
  have t : Tk H (L2.upd H x.ka (.lst (S.map V.int))) := Tk.lst a.stk
  refine h.top hf (fun b o eo nb => by rw [upd_ne (fun z => nb (by rw [z]; simp [FA.own]))]; exact eo) t ⟨by rw [upd_ne n2]; exact a.ins, by rw [upd_ne n4]; exact a.slo, upd_same, us, by rw [upd_ne n6.symm]; exact h1, h2.mono t⟩ rfl (fun _ z => .inl z) h.ndx
/-- what is held -/
theorem MSt.hold {us : List V} {B : List Hl} (h : MSt K CM CF e H y (x :: xs) lv dn m) (hf : m.frs = f :: fs) (hu : TpAll K H us (B.map Hl.d)) :
    MSt K CM CF e (L2.upd H x.ha (.lst us)) y (x :: xs) lv dn { m with frs := { f with held := B } :: fs } ∧ Mv y (x :: xs) H (x :: xs) (L2.upd H x.ha (.lst us)) := by
  have a := h.fr hf
  obtain ⟨us0, h1, h2⟩ := a.held
  obtain ⟨n1, n2, n3, n4, n5, n6⟩ := own_ne h.ndx
  have t : Tk H (L2.upd H x.ha (.lst us)) := Tk.lst h1
  refine h.top hf (fun b o eo nb => by rw [upd_ne (fun z => nb (by rw [z]; simp [FA.own]))]; exact eo) t ⟨by rw [upd_ne n3]; exact a.ins, by rw [upd_ne n5]; exact a.slo, by rw [upd_ne n6]; exact a.stk, us, upd_same, hu.mono t⟩ rfl (fun _ z => .inl z) h.ndx
/-- what is held, a new list -/
theorem MSt.holdN {us : List V} {B : List Hl} {p : Addr} (h : MSt K CM CF e H y (x :: xs) lv dn m) (hf : m.frs = f :: fs) (hu : TpAll K H us (B.map Hl.d)) (hp : H p = none) :
    MSt K CM CF e (L2.upd (L2.upd H p (.lst us)) x.fa (.ins CF x.dx (frFs { x with ha := p } { f with held := B }))) y ({ x with ha := p } :: xs) lv dn { m with frs := { f with held := B } :: fs } ∧
      Mv y (x :: xs) H ({ x with ha := p } :: xs) (L2.upd (L2.upd H p (.lst us)) x.fa (.ins CF x.dx (frFs { x with ha := p } { f with held := B }))) := by
  have a := h.fr hf
  obtain ⟨n1, n2, n3, n4, n5, n6⟩ := own_ne h.ndx
  have p1 := ne_of_none a.ins hp
  have p2 := ne_of_none a.slo hp
  have p3 := ne_of_none a.stk hp
  have t : Tk H (L2.upd (L2.upd H p (.lst us)) x.fa (.ins CF x.dx (frFs { x with ha := p } { f with held := B }))) := (Tk.new hp).trans (Tk.ins (by rw [upd_ne p1]; exact a.ins))
  refine h.top (x' := { x with ha := p }) hf (fun b o eo nb => by rw [upd_ne (fun z => nb (by rw [z]; simp [FA.own])), upd_ne (ne_of_none eo hp)]; exact eo) t ⟨upd_same, by show L2.upd (L2.upd H p _) x.fa _ x.sa = _; rw [upd_ne n1.symm, upd_ne p2]; exact a.slo, by show L2.upd (L2.upd H p _) x.fa _ x.ka = _; rw [upd_ne n2.symm, upd_ne p3]; exact a.stk, us, by show L2.upd (L2.upd H p _) x.fa _ p = _; rw [upd_ne p1.symm]; exact upd_same, hu.mono t⟩ rfl (fun b z => ?_) ?_
  · simp only [FA.own, List.mem_cons, List.not_mem_nil, or_false] at z ⊢
    rcases z with z | z | z | z
    · exact .inl (.inl z)
    · exact .inl (.inr (.inl z))
    · exact .inl (.inr (.inr (.inl z)))
    · exact .inr (by rw [z]; exact hp)
  · simp only [FA.own, List.nodup_cons, List.mem_cons, List.not_mem_nil, or_false, not_or]
    exact ⟨⟨n1, n2, p1⟩, ⟨n4, p2⟩, p3, not_false, .nil⟩
/-- its stack, a new list -/
theorem MSt.stkN {S : List Int} {p : Addr} (h : MSt K CM CF e H y (x :: xs) lv dn m) (hf : m.frs = f :: fs) (hp : H p = none) :
    MSt K CM CF e (L2.upd (L2.upd H p (.lst (S.map V.int))) x.fa (.ins CF x.dx (frFs { x with ka := p } { f with stk := S }))) y ({ x with ka := p } :: xs) lv dn { m with frs := { f with stk := S } :: fs } ∧
      Mv y (x :: xs) H ({ x with ka := p } :: xs) (L2.upd (L2.upd H p (.lst (S.map V.int))) x.fa (.ins CF x.dx (frFs { x with ka := p } { f with stk := S }))) := by
  have a := h.fr hf
  obtain ⟨us, h1, h2⟩ := a.held
  obtain ⟨n1, n2, n3, n4, n5, n6⟩ := own_ne h.ndx
  have p1 := ne_of_none a.ins hp
  have p2 := ne_of_none a.slo hp
  have p3 := ne_of_none h1 hp
  have t : Tk H (L2.upd (L2.upd H p (.lst (S.map V.int))) x.fa (.ins CF x.dx (frFs { x with ka := p } { f with stk := S }))) := (Tk.new hp).trans (Tk.ins (by rw [upd_ne p1]; exact a.ins))
  refine h.top (x' := { x with ka := p }) hf (fun b o eo nb => by rw [upd_ne (fun z => nb (by rw [z]; simp [FA.own])), upd_ne (ne_of_none eo hp)]; exact eo) t ⟨upd_same, by show L2.upd (L2.upd H p _) x.fa _ x.sa = _; rw [upd_ne n1.symm, upd_ne p2]; exact a.slo, by show L2.upd (L2.upd H p _) x.fa _ p = _; rw [upd_ne p1.symm]; exact upd_same, us, by show L2.upd (L2.upd H p _) x.fa _ x.ha = _; rw [upd_ne n3.symm, upd_ne p3]; exact h1, h2.mono t⟩ rfl (fun b z => ?_) ?_
  · simp only [FA.own, List.mem_cons, List.not_mem_nil, or_false] at z ⊢
    rcases z with z | z | z | z
    · exact .inl (.inl z)
    · exact .inl (.inr (.inl z))
    · exact .inr (by rw [z]; exact hp)
    · exact .inl (.inr (.inr (.inr z)))
  · simp only [FA.own, List.nodup_cons, List.mem_cons, List.not_mem_nil, or_false, not_or]
    exact ⟨⟨n1, p1, n3⟩, ⟨p2, n5⟩, p3.symm, not_false, .nil⟩
/-- a frame more -/
theorem MSt.push (h : MSt K CM CF e H y xs lv dn m) (s : Same H H') (hfr : FrAt K CF H' x f) (hn : ∀ a ∈ x.own, H a = none) (nd : x.own.Nodup) :
    MSt K CM CF e (L2.upd H' y.fl (.lst (xs.reverse.map (fun x => V.ref x.fa) ++ [V.ref x.fa]))) y (x :: xs) lv dn { m with frs := f :: m.frs } ∧ Mv y xs H (x :: xs) (L2.upd H' y.fl (.lst (xs.reverse.map (fun x => V.ref x.fa) ++ [V.ref x.fa]))) := by
  have h' := h.same s
  obtain ⟨us, h1, h2⟩ := h'.told
  obtain ⟨n1, n2, n3, n4⟩ := nd_ne h.nd
  have t : Tk H' (L2.upd H' y.fl (.lst (xs.reverse.map (fun x => V.ref x.fa) ++ [V.ref x.fa]))) := Tk.lst h'.frl
  have nx : ∀ a ∈ x.own, a ∉ foot y xs := fun a ha z => h.at z (hn a ha)
  have hnd := h.nd
  unfold foot at hnd
  obtain ⟨a1, b1⟩ := List.nodup_cons.mp hnd
  obtain ⟨a2, b2⟩ := List.nodup_cons.mp b1
  obtain ⟨a3, b3⟩ := List.nodup_cons.mp b2
  refine ⟨⟨by rw [upd_ne n2]; exact h'.ins, ⟨us, by rw [upd_ne n3]; exact h1, h2.mono t⟩, by rw [upd_same]; simp, .cons (hfr.mono t fun a ha o eo => by rw [upd_ne (fun z => nx a ha (by rw [z]; simp [foot]))]; exact eo) (h'.frs.mono t fun a ha o eo => by rw [upd_ne (n4 a ha).2.2]; exact eo), h'.last.mono t, h'.kt.mono t, h'.ct.mono t, ?_⟩, ?_, ?_⟩
  · unfold foot
    rw [List.flatMap_cons]
    refine List.nodup_cons.mpr ⟨fun z => ?_, List.nodup_cons.mpr ⟨fun z => ?_, List.nodup_cons.mpr ⟨fun z => ?_, List.nodup_append.mpr ⟨nd, b3, fun a z b w ab => ?_⟩⟩⟩⟩
    · simp only [List.mem_cons, List.mem_append] at z
      rcases z with z | z | z | z
      · exact n1 z
      · exact n2 z
      · exact nx _ z (by simp [foot])
      · exact (n4 _ z).1 rfl
    · simp only [List.mem_cons, List.mem_append] at z
      rcases z with z | z | z
      · exact n3 z
      · exact nx _ z (by simp [foot])
      · exact (n4 _ z).2.1 rfl
    · simp only [List.mem_append] at z
      rcases z with z | z
      · exact nx _ z (by simp [foot])
      · exact (n4 _ z).2.2 rfl
    · subst ab
      exact nx a z (foot_own w)
  · exact (Kp.same s).trans (Kp.upd (by simp [foot]))
  · intro a z
    unfold foot at z
    rw [List.flatMap_cons] at z
    simp only [List.mem_cons, List.mem_append] at z
    rcases z with z | z | z | z | z
    · exact .inl (by simp [foot, z])
    · exact .inl (by simp [foot, z])
    · exact .inl (by simp [foot, z])
    · exact .inr (hn a z)
    · exact .inl (foot_own z)
end
end Lp

/-! LmB: the machine's methods: enter, table, cleanup_left, leap, give_back. -/
namespace Lp
open PySem PySem.Spec PyProof.Rows L2
def t_Machine_enter (K : PySem.W.Frag) : TS :=
  tSeq (sFld K (tVar 1) (tSl (rSlL K) (tFld K (tVar 1) "held") tNoPart (tPart (tOp (rIxT K) (tVar 2) (tC (.int 5))))) "held") (tSeq (tDrop (tBM K "list" rAppend (tFld K (tVar 1) "held") (tCons (tVar 3) (tNil)))) (sFld K (tVar 1) (tOp (rIxT K) (tVar 2) (tC (.int 4))) "place"))

def t_Machine_table (K : PySem.W.Frag) : TS :=
  tRet (tOp (rIxT K) (tOp (rIxT K) (tFld K (tVar 0) "code") (tFld K (tVar 1) "number")) (tC (.int 2)))

def t_Machine_cleanup_left (K : PySem.W.Frag) (C_Machine : Addr) (sp_Machine_table : Sp) : TS :=
  tSeq (tFor (iTup K (tMeth C_Machine "table" sp_Machine_table [] E0 (tVar 0) (tCons (tVar 1) (tNil)))) (gName 3) (tIfS (tAnd (tTest (tOp rEq (tOp (rIxT K) (tVar 3) (tC (.int 2))) (tC (.str "cleanup")))) (tTest (tChain rLe rLt (tOp (rIxT K) (tVar 3) (tC (.int 0))) (tFld K (tVar 1) "place") (tOp (rIxT K) (tVar 3) (tC (.int 1)))))) (tIfS (tOr (tTest (tOp rIsN (tVar 2) (tC .non))) (tNot (tTest (tChain rLe rLt (tOp (rIxT K) (tVar 3) (tC (.int 0))) (tVar 2) (tOp (rIxT K) (tVar 3) (tC (.int 1))))))) (tRet (tVar 3)) (tNext)) (tNext))) (tRet (tC .non))

def t_Machine_leap (K : PySem.W.Frag) (C_Machine : Addr) (sp_Machine_cleanup_left : Sp) (sp_Machine_enter : Sp) : TS :=
  tSeq (tAsg (tMeth C_Machine "cleanup_left" sp_Machine_cleanup_left [] E0 (tVar 0) (tCons (tVar 1) (tCons (tVar 2) (tNil)))) (gName 4)) (tIfS (tTest (tOp rNtN (tVar 4) (tC .non))) (tDrop (tMeth C_Machine "enter" sp_Machine_enter [] E0 (tVar 0) (tCons (tVar 1) (tCons (tVar 4) (tCons (tTup (tCons (tC (.str "leap")) (tCons (tVar 2) (tCons (tVar 3) (tNil))))) (tNil)))))) (tSeq (sFld K (tVar 1) (tSl (rSlL K) (tFld K (tVar 1) "held") tNoPart (tPart (tVar 3))) "held") (sFld K (tVar 1) (tVar 2) "place")))

def t_Machine_give_back (K : PySem.W.Frag) (C_Machine : Addr) (sp_Machine_cleanup_left : Sp) (sp_Machine_enter : Sp) : TS :=
  tSeq (tAsg (tMeth C_Machine "cleanup_left" sp_Machine_cleanup_left [] E0 (tVar 0) (tCons (tVar 1) (tCons (tC .non) (tNil)))) (gName 3)) (tSeq (tIfS (tTest (tOp rNtN (tVar 3) (tC .non))) (tSeq (tDrop (tMeth C_Machine "enter" sp_Machine_enter [] E0 (tVar 0) (tCons (tVar 1) (tCons (tVar 3) (tCons (tTup (tCons (tC (.str "return")) (tCons (tVar 2) (tNil)))) (tNil)))))) (tRetN)) (tNext)) (tSeq (tDrop (tBM0 K "list" rPop (tFld K (tVar 0) "frames"))) (tIfS (tTest (tOp (rEqE K) (tFld K (tVar 0) "frames") (tLst (tNil)))) (sFld K (tVar 0) (tTup (tCons (tC (.str "return")) (tCons (tVar 2) (tNil)))) "last") (tSeq (tDrop (tBM K "list" rAppend (tFld K (tOp (rIxL K) (tFld K (tVar 0) "frames") (tUn rNeg (tC (.int 1)))) "stack") (tCons (tVar 2) (tNil)))) (sFld K (tOp (rIxL K) (tFld K (tVar 0) "frames") (tUn rNeg (tC (.int 1)))) (tOp rAdI (tFld K (tOp (rIxL K) (tFld K (tVar 0) "frames") (tUn rNeg (tC (.int 1)))) "place") (tC (.int 1))) "place")))))

/-! ### flat data -/
def toV : PyData → V
  | .int i => .int i
  | .str x => .str x
  | _ => .non
def isFlat : PyData → Bool
  | .none => true
  | .int _ => true
  | .str _ => true
  | _ => false
theorem TpAll.flat {K : PySem.W.Frag} {H : Hp} : ∀ {ds : List PyData} {vs : List V}, TpAll K H vs ds → ds.all isFlat = true → vs = ds.map toV
  | [], _, h, _ => by rw [h.nilE]; rfl
  | d :: ds, _, h, hf => by
    obtain ⟨v, r, rfl, h1, h2⟩ := h.consE
    simp only [List.all_cons, Bool.and_eq_true] at hf
    rw [List.map_cons, h2.flat hf.2]
    congr 1
    cases d with
    | none => exact h1.nonE
    | int i => exact h1.intE
    | str x => exact h1.strE
    | _ => cases hf.1
def Rw.l (r : Rw) : List PyData := match r.d with
  | .tuple l => l
  | _ => []
def Rw.vs (r : Rw) : List V := r.l.map toV
theorem isFlat_kind (k : Option Nat) : isFlat (kindD k) = true := by cases k <;> rfl
theorem toV_kind (k : Option Nat) : toV (kindD k) = kindV k := by cases k <;> rfl
theorem Rw.tup {K : PySem.W.Frag} {H : Hp} {v : V} {r : Rw} (h : Tp K H v r.d) : ∃ a, v = .ref a ∧ SqT K H a r.vs := by
  have e : r.d = .tuple r.l := by cases r <;> rfl
  rw [e] at h
  obtain ⟨a, xs, rfl, hT, ha⟩ := h.tupE
  refine ⟨a, rfl, ?_⟩
  rw [ha.flat (by cases r <;> first | rfl | (rename_i kd _; cases kd <;> rfl))] at hT
  exact hT
def Tb.w (t : Tb) : Str := match t.kd with
  | some _ => "handler"
  | none => "cleanup"
def Tb.k (t : Tb) : V := match t.kd with
  | some k => kindV k
  | none => .non
theorem Tb.tup {K : PySem.W.Frag} {H : Hp} {v : V} {t : Tb} (h : Tp K H v t.d) : ∃ a, v = .ref a ∧ SqT K H a [.int t.b, .int t.x, .str t.w, t.k, .int t.p, .int t.D] := by
  obtain ⟨b, x, kd, p, D⟩ := t
  obtain ⟨a, xs, rfl, hT, ha⟩ := Tp.tupE (show Tp K H v (.tuple _) from h)
  refine ⟨a, rfl, ?_⟩
  cases kd with
  | none =>
    rw [ha.flat rfl] at hT
    exact hT
  | some k =>
    rw [ha.flat (by cases k <;> rfl)] at hT
    simp only [List.map_cons, toV_kind, List.map_nil] at hT
    exact hT
theorem TpAll.takeN {K : PySem.W.Frag} {H : Hp} : ∀ {k : Nat} {ds : List PyData} {vs : List V}, TpAll K H vs ds → TpAll K H (vs.take k) (ds.take k)
  | 0, _, _, _ => by rw [List.take_zero, List.take_zero]; exact .nil
  | k + 1, [], _, h => by rw [h.nilE]; exact .nil
  | k + 1, d :: ds, _, h => by
    obtain ⟨v, r, rfl, h1, h2⟩ := h.consE
    exact .cons h1 h2.takeN
theorem cut_take {us : List V} {D : Int} (h : 0 ≤ D) : cutV us none (some D) = us.take D.toNat := by
  obtain ⟨k, rfl⟩ : ∃ k : Nat, D = (k : Int) := ⟨D.toNat, by omega⟩
  unfold cutV
  rw [HT.sIx_none, HT.sIx_nat, List.drop_zero, Int.toNat_natCast, Nat.sub_zero]
  by_cases hk : k ≤ us.length
  · rw [Nat.min_eq_left hk]
  · rw [Nat.min_eq_right (by omega), List.take_length, List.take_of_length_le (by omega)]
theorem cut_drop {us : List V} {k : Nat} (h : k ≤ us.length) : cutV us (some (k : Int)) none = us.drop k := by
  unfold cutV
  rw [HT.sIx_nat, HT.sIx_none, Nat.min_eq_left h]
  exact List.take_of_length_le (by rw [List.length_drop]; omega)
/-! ### values that are read off -/
def Evs (t : TE) (σ : L2.St) (H : Hp) (v : V) : Prop := ∀ Q : VK, Q v H → t σ H Q
section
variable {K : PySem.W.Frag} {σ : L2.St} {H : Hp} {i j : Nat} {p : Addr} {xs : List V} {v : V} {a b c : Int} {ta tb tc : TE} {z z' : Str}
theorem evs_var (hs : σ[i]? = some (some v)) : Evs (tVar i) σ H v := fun _ q => ⟨_, hs, q⟩
theorem evs_ixT (hs : σ[i]? = some (some (.ref p))) (h : SqT K H p xs) (e : xs[j]? = some v) : Evs (tOp (rIxT K) (tVar i) (tC (.int (j : Int)))) σ H v := fun _ q => rd_ixT hs h e q
theorem evs_fld {C dx : Addr} {fs : List (Str × V)} {f : Str} (hs : σ[i]? = some (some (.ref p))) (hc : H p = some (.ins C dx fs)) (cl : Cls K C) (na : NoAttr K C f) (l : fs.lookup f = some v) : Evs (tFld K (tVar i) f) σ H v := fun _ q => ⟨_, hs, p, C, dx, fs, v, rfl, hc, cl, na, l, q⟩
theorem pb_chain (ha : Evs ta σ H (.int a)) (hb : Evs tb σ H (.int b)) (hc : Evs tc σ H (.int c)) : PB (tTest (tChain rLe rLt ta tb tc)) σ H (decide (a ≤ b) && decide (b < c)) := fun Q q => ha _ (hb _ ⟨a, b, rfl, rfl, _, rfl, by
  by_cases h : a ≤ b
  · rw [dT h] at q
    exact ifT (dT h) (hc _ ⟨b, c, rfl, rfl, _, rfl, q⟩)
  · rw [dF h] at q
    exact ifF (dF h) ⟨_, rfl, q⟩⟩)
theorem pb_evS (ha : Evs ta σ H (.str z)) : PB (tTest (tOp rEq ta (tC (.str z')))) σ H (decide (V.str z = V.str z')) := fun Q q => ha _ ⟨rfl, _, rfl, q⟩
theorem pb_isN (hs : σ[i]? = some (some v)) : PB (tTest (tOp rIsN (tVar i) (tC .non))) σ H (decide (v = .non)) := fun Q q => ⟨_, hs, rfl, _, rfl, q⟩
theorem pb_ntN (hs : σ[i]? = some (some v)) : PB (tTest (tOp rNtN (tVar i) (tC .non))) σ H (!decide (v = .non)) := fun Q q => ⟨_, hs, rfl, _, rfl, q⟩
theorem pb_notT {t : TT} {u : Bool} (h : PB t σ H u) : PB (tNot t) σ H (!u) := fun Q q => h _ q
theorem pb_orT {t t' : TT} (h : PB t σ H true) : PB (tOr t t') σ H true := fun Q q => h _ (ifT rfl q)
theorem pb_andF {t t' : TT} (h : PB t σ H false) : PB (tAnd t t') σ H false := fun Q q => h _ (ifF rfl q)
end
/-! ### sizes -/
structure Sz (e : ME) (m : Mc) : Prop where
  frs : ∀ f ∈ m.frs, FrOk e.code.length e.ks.length 900000 900000 f
  told : m.told.length ≤ 900000
  len : m.frs.length ≤ e.dp
  dps : e.dp ≤ 1000
  call : ∀ f ∈ m.frs.tail, ∃ g k mk, rowAt e.code f = some (.call g k mk)
  wfk : WfK e.ks
  ck : MCodeOk e.code e.ks.length
/-- what is to hold behind, where the machine stands at m' -/
structure Then (K : PySem.W.Frag) (CM CF : Addr) (e : ME) (H : Hp) (y : MA) (xs : List FA) (dn : Int) (m' : Mc) (Q : VK) : Prop where
  q : ∀ xs' lv' H', MSt K CM CF e H' y xs' lv' dn m' → Mv y xs H xs' H' → Q .non H'
section
variable {K : PySem.W.Frag} {CM CF : Addr} {e : ME} {H H' : Hp} {y : MA} {x : FA} {xs xs' : List FA} {lv : V} {dn : Int} {m m' : Mc} {f : Fr} {fs : List Fr} {Q : VK} {σ : L2.St} {i j : Nat}
theorem Then.behind (t : Then K CM CF e H y xs dn m' Q) (k : Mv y xs H xs' H') : Then K CM CF e H' y xs' dn m' Q := ⟨fun xs2 lv2 H2 s k2 => t.q xs2 lv2 H2 s (k.trans k2)⟩
theorem putF_held {p : Addr} {B : List Hl} : putF "held" (.ref p) (frFs x f) = frFs { x with ha := p } { f with held := B } := rfl
theorem putF_stack {p : Addr} {S : List Int} : putF "stack" (.ref p) (frFs x f) = frFs { x with ka := p } { f with stk := S } := rfl
theorem putF_place {q : Int} : putF "place" (.int q) (frFs x f) = frFs x { f with pc := q } := rfl
theorem Then.cv {Q' : VK} (t : Then K CM CF e H y xs dn m' Q) (h : ∀ H', Q .non H' → Q' .non H') : Then K CM CF e H y xs dn m' Q' := ⟨fun xs2 lv2 H2 s k => h _ (t.q xs2 lv2 H2 s k)⟩
/-- a slice of what is held takes its place -/
theorem MSt.cut {D : Int} {us : List V} {p : Addr} (h : MSt K CM CF e H y (x :: xs) lv dn m) (hf : m.frs = f :: fs) (hD : 0 ≤ D) (hu : H x.ha = some (.lst us)) (tu : TpAll K H us (f.held.map Hl.d)) (hp : H p = none) :
    ∃ x1 : FA, x1.fa = x.fa ∧ MSt K CM CF e (L2.upd (L2.upd H p (.lst (cutV us none (some D)))) x.fa (.ins CF x.dx (putF "held" (.ref p) (frFs x f)))) y (x1 :: xs) lv dn { m with frs := { f with held := f.held.take D.toNat } :: fs } ∧
      Mv y (x :: xs) H (x1 :: xs) (L2.upd (L2.upd H p (.lst (cutV us none (some D)))) x.fa (.ins CF x.dx (putF "held" (.ref p) (frFs x f)))) := by
  rw [cut_take hD, putF_held (B := f.held.take D.toNat)]
  obtain ⟨a, b⟩ := h.holdN (us := us.take D.toNat) (B := f.held.take D.toNat) hf (by rw [List.map_take]; exact tu.takeN) hp
  exact ⟨{ x with ha := p }, rfl, a, b⟩
theorem MSt.codeD (h : MSt K CM CF e H y xs lv dn m) {k : Nat} {c : Fc} (hc : e.code[k]? = some c) : ∃ ca cxs v, y.cv = .ref ca ∧ SqT K H ca cxs ∧ cxs[k]? = some v ∧ Tp K H v c.d := by
  obtain ⟨ca, cxs, e1, hT, ha⟩ := Tp.tupE (show Tp K H y.cv (.tuple (e.code.map Fc.d)) from h.ct)
  obtain ⟨v, hv, tv⟩ := ha.get' (i := k) (d := c.d) (by rw [List.getElem?_map, hc]; rfl)
  exact ⟨ca, cxs, v, e1, hT, hv, tv⟩
/-- self.code[frame.number] -/
theorem rd_cn (T : MacT K CM CF) (h : MSt K CM CF e H y xs lv dn m) (hi : σ[i]? = some (some (.ref y.ma))) (hj : σ[j]? = some (some (.ref x.fa))) (hx : H x.fa = some (.ins CF x.dx (frFs x f))) {c : Fc} (hc : e.code[f.fn]? = some c) {Q : VK} (q : ∀ v, Tp K H v c.d → Q v H) :
    tOp (rIxT K) (tFld K (tVar i) "code") (tFld K (tVar j) "number") σ H Q := by
  obtain ⟨ca, cxs, v, e1, hT, hv, tv⟩ := h.codeD hc
  exact ⟨_, hi, y.ma, CM, y.dx, _, _, rfl, h.ins, T.clM, T.code, rfl, _, hj, x.fa, CF, x.dx, _, _, rfl, hx, T.clF, T.number, rfl, ca, cxs, _, v, e1, rfl, hT, atI_nat hv, q v tv⟩
/-- self.code[frame.number][1][frame.place] -/
theorem rd_rw (T : MacT K CM CF) (h : MSt K CM CF e H y xs lv dn m) (hi : σ[i]? = some (some (.ref y.ma))) (hj : σ[j]? = some (some (.ref x.fa))) (hx : H x.fa = some (.ins CF x.dx (frFs x f))) {r : Rw} (hr : rowAt e.code f = some r) (h0 : 0 ≤ f.pc) {Q : VK} (q : ∀ v, Tp K H v r.d → Q v H) :
    tOp (rIxT K) (tOp (rIxT K) (tOp (rIxT K) (tFld K (tVar i) "code") (tFld K (tVar j) "number")) (tC (.int 1))) (tFld K (tVar j) "place") σ H Q := by
  unfold rowAt at hr
  cases hc : e.code[f.fn]? with
  | none => rw [hc] at hr; cases hr
  | some c =>
    rw [hc] at hr
    refine rd_cn T h hi hj hx hc (Q := fun v H1 => rIxT K v (.int 1) H1 fun v2 H2 => tFld K (tVar j) "place" σ H2 fun v3 H3 => rIxT K v2 v3 H3 Q) fun v tv => ?_
    obtain ⟨a, y0, y1, y2, rfl, hT, _, t1, _⟩ := Tp.tup3 (show Tp K H v (.tuple [.int (c.many : Int), .tuple (c.rows.map Rw.d), .tuple (c.tab.map Tb.d)]) from tv)
    obtain ⟨ra, rxs, rfl, hR, hA⟩ := t1.tupE
    obtain ⟨rv, hv, trv⟩ := hA.get' (i := f.pc.toNat) (d := r.d) (by rw [List.getElem?_map, show c.rows[f.pc.toNat]? = some r from hr]; rfl)
    refine ⟨a, _, ((1 : Nat) : Int), _, rfl, rfl, hT, atI_nat rfl, _, hj, x.fa, CF, x.dx, _, _, rfl, hx, T.clF, T.place, rfl, ra, rxs, f.pc, rv, rfl, rfl, hR, ?_, q rv trv⟩
    obtain ⟨k, hk⟩ : ∃ k : Nat, f.pc = (k : Int) := ⟨f.pc.toNat, by omega⟩
    rw [hk]
    exact atI_nat (by rw [hk, Int.toNat_natCast] at hv; exact hv)
/-- self.frames[-1] -/
theorem rd_lastF (T : MacT K CM CF) (h : MSt K CM CF e H y (x :: xs) lv dn m) (hi : σ[i]? = some (some (.ref y.ma))) {Q : VK} (q : Q (.ref x.fa) H) : tOp (rIxL K) (tFld K (tVar i) "frames") (tUn rNeg (tC (.int 1))) σ H Q := by
  have e1 : (x :: xs).reverse.map (fun x => V.ref x.fa) = xs.reverse.map (fun x => V.ref x.fa) ++ [V.ref x.fa] := by simp
  exact ⟨_, hi, y.ma, CM, y.dx, _, _, rfl, h.ins, T.clM, T.frames, rfl, _, rfl, y.fl, _, -1, _, rfl, rfl, SqL.of h.frl, by rw [e1]; exact atI_last _ _, q⟩
end
/-! ### enter -/
structure EnterP (K : PySem.W.Frag) (CM CF : Addr) (vs : List V) (H : Hp) (Q : VK) : Prop where
  ex : ∃ (e : ME) (y : MA) (x : FA) (xs : List FA) (lv : V) (dn : Int) (m : Mc) (f : Fr) (fs : List Fr) (rv pv : V) (t : Tb) (h : Hl), vs = [.ref y.ma, .ref x.fa, rv, pv] ∧ MSt K CM CF e H y (x :: xs) lv dn m ∧ m.frs = f :: fs ∧ Tp K H rv t.d ∧ Tp K H pv h.d ∧ f.held.length ≤ 900000 ∧ 0 ≤ t.D ∧
    Then K CM CF e H y (x :: xs) dn { m with frs := f.enter t h :: fs } Q
def spEnter (K : PySem.W.Frag) (CM CF : Addr) : Sp := fun vs H Q _ => EnterP K CM CF vs H Q
section
variable {K : PySem.W.Frag} {CM CF : Addr}
theorem rd_enter (T : MacT K CM CF) (vs : List V) (H : Hp) (Q : VK) (E : XK) (hh : spEnter K CM CF vs H Q E) : t_Machine_enter K { nx := fun _ H' => Q .non H', rt := Q } (start ["self", "frame", "row", "pending"] vs) H := by
  obtain ⟨e, y, x, xs, lv, dn, m, f, fs, rv, pv, t, h, rfl, st, hf, tr, tp, hl, hD, q⟩ := hh.ex
  have fr := st.fr hf
  obtain ⟨us, hu, tu⟩ := fr.held
  obtain ⟨ra, rfl, hT⟩ := Tb.tup tr
  refine ⟨_, rfl, x.fa, CF, x.dx, _, _, rfl, fr.ins, T.clF, T.held, rfl, _, rfl, ra, _, ((5 : Nat) : Int), _, rfl, rfl, hT, atI_nat rfl, t.D, rfl, x.ha, us, rfl, SqL.of hu, fun p hp => ?_⟩
  refine ⟨_, rfl, x.fa, CF, x.dx, _, rfl, by rw [upd_ne (ne_of_none fr.ins hp)]; exact fr.ins, T.clF, T.held, (by show 5 < 1000; decide), ?_⟩
  obtain ⟨x1, e1, st1, mv1⟩ := st.cut (p := p) hf hD hu tu hp
  generalize L2.upd (L2.upd H p (.lst (cutV us none (some t.D)))) x.fa (.ins CF x.dx (putF "held" (.ref p) (frFs x f))) = H1 at st1 mv1 ⊢
  have tk1 := st.tk mv1
  have fr1 := st1.fr rfl
  obtain ⟨us1, hu1, tu1⟩ := fr1.held
  have l1 : us1.length ≤ 900000 := by
    rw [tu1.length, List.length_map]
    show (f.held.take t.D.toNat).length ≤ _
    rw [List.length_take]; omega
  rw [← e1]
  refine ⟨_, rfl, x1.fa, CF, x1.dx, _, _, rfl, fr1.ins, T.clF, T.held, rfl, .inl ⟨rfl, _, SqL.of hu1⟩, _, rfl, x1.ha, us1, _, rfl, rfl, hu1, sz_lt1 (by omega), ?_⟩
  obtain ⟨st2, mv2⟩ := st1.hold (us := us1 ++ [pv]) (B := f.held.take t.D.toNat ++ [h]) rfl (by rw [List.map_append]; exact tu1.snoc (tp.mono tk1))
  generalize L2.upd H1 x1.ha (.lst (us1 ++ [pv])) = H2 at st2 mv2 ⊢
  have tk2 := st1.tk mv2
  have fr2 := st2.fr rfl
  refine ⟨_, rfl, ra, _, ((4 : Nat) : Int), _, rfl, rfl, tk2.sqT (tk1.sqT hT), atI_nat rfl, _, rfl, x1.fa, CF, x1.dx, _, rfl, fr2.ins, T.clF, T.place, (by show 5 < 1000; decide), ?_⟩
  obtain ⟨st3, mv3⟩ := st2.place (q := t.p) rfl
  exact q.q _ _ _ st3 (mv1.trans (mv2.trans mv3))
end
end Lp

/-! LmC: the machine's methods: table, cleanup_left, leap, give_back. -/
namespace Lp
open PySem PySem.Spec PyProof.Rows L2
structure TableP (K : PySem.W.Frag) (CM CF : Addr) (vs : List V) (H : Hp) (Q : VK) : Prop where
  ex : ∃ (e : ME) (y : MA) (x : FA) (xs : List FA) (lv : V) (dn : Int) (m : Mc) (f : Fr) (fs : List Fr) (c : Fc), vs = [.ref y.ma, .ref x.fa] ∧ MSt K CM CF e H y (x :: xs) lv dn m ∧ m.frs = f :: fs ∧ e.code[f.fn]? = some c ∧
    ∀ v, Tp K H v (.tuple (c.tab.map Tb.d)) → Q v H
def spTabM (K : PySem.W.Frag) (CM CF : Addr) : Sp := fun vs H Q _ => TableP K CM CF vs H Q
def goalV : Option Int → V
  | none => .non
  | some g => .int g
def goalT (goal : Option Int) (t : Tb) : Bool := match goal with
  | none => true
  | some g => !(decide (t.b ≤ g) && decide (g < t.x))
def LeftIs (K : PySem.W.Frag) (H : Hp) (v : V) (o : Option Tb) : Prop := match o with
  | none => v = .non
  | some t => Tp K H v t.d
structure LeftP (K : PySem.W.Frag) (CM CF : Addr) (vs : List V) (H : Hp) (Q : VK) : Prop where
  ex : ∃ (e : ME) (y : MA) (x : FA) (xs : List FA) (lv : V) (dn : Int) (m : Mc) (f : Fr) (fs : List Fr) (c : Fc) (goal : Option Int), vs = [.ref y.ma, .ref x.fa, goalV goal] ∧ MSt K CM CF e H y (x :: xs) lv dn m ∧ m.frs = f :: fs ∧ e.code[f.fn]? = some c ∧
    ∀ v, LeftIs K H v (c.tab.find? (catchC f.pc goal)) → Q v H
def spLeft (K : PySem.W.Frag) (CM CF : Addr) : Sp := fun vs H Q _ => LeftP K CM CF vs H Q
structure LeapP (K : PySem.W.Frag) (CM CF : Addr) (vs : List V) (H : Hp) (Q : VK) : Prop where
  ex : ∃ (e : ME) (y : MA) (x : FA) (xs : List FA) (lv : V) (dn : Int) (m : Mc) (f : Fr) (fs : List Fr) (g D : Int), vs = [.ref y.ma, .ref x.fa, .int g, .int D] ∧ MSt K CM CF e H y (x :: xs) lv dn m ∧ m.frs = f :: fs ∧ Sz e m ∧ 0 ≤ D ∧
    Then K CM CF e H y (x :: xs) dn (doLeap e.code m f fs g D) Q
def spLeap (K : PySem.W.Frag) (CM CF : Addr) : Sp := fun vs H Q _ => LeapP K CM CF vs H Q
structure GiveP (K : PySem.W.Frag) (CM CF : Addr) (vs : List V) (H : Hp) (Q : VK) : Prop where
  ex : ∃ (e : ME) (y : MA) (x : FA) (xs : List FA) (lv : V) (dn : Int) (m : Mc) (f : Fr) (fs : List Fr) (i : Int), vs = [.ref y.ma, .ref x.fa, .int i] ∧ MSt K CM CF e H y (x :: xs) lv dn m ∧ m.frs = f :: fs ∧ Sz e m ∧ m.last = none ∧
    Then K CM CF e H y (x :: xs) dn (doRet e.code m f fs i) Q
def spGive (K : PySem.W.Frag) (CM CF : Addr) : Sp := fun vs H Q _ => GiveP K CM CF vs H Q
theorem tab_at {K : PySem.W.Frag} {H : Hp} {vs : List V} {ts : List Tb} {i : Nat} {v : V} (h : TpAll K H vs (ts.map Tb.d)) (e : vs[i]? = some v) : ∃ t, ts[i]? = some t ∧ Tp K H v t.d ∧ ts.drop i = t :: ts.drop (i + 1) := by
  obtain ⟨d, hd, tp⟩ := h.get e
  rw [List.getElem?_map] at hd
  cases ht : ts[i]? with
  | none => rw [ht] at hd; cases hd
  | some t =>
    rw [ht] at hd
    cases hd
    obtain ⟨hi, rfl⟩ := List.getElem?_eq_some_iff.mp ht
    exact ⟨_, rfl, tp, List.drop_eq_getElem_cons hi⟩
section
variable {K : PySem.W.Frag} {CM CF : Addr}
theorem rd_mtable (T : MacT K CM CF) (vs : List V) (H : Hp) (Q : VK) (E : XK) (hh : spTabM K CM CF vs H Q E) : t_Machine_table K { nx := fun _ H' => Q .non H', rt := Q } (start ["self", "frame"] vs) H := by
  obtain ⟨e, y, x, xs, lv, dn, m, f, fs, c, rfl, st, hf, hc, q⟩ := hh.ex
  refine rd_cn T st (i := 0) (j := 1) rfl rfl (st.fr hf).ins hc (Q := fun v H1 => rIxT K v (.int 2) H1 Q) fun v tv => ?_
  obtain ⟨a, y0, y1, y2, rfl, hT, _, _, t2⟩ := Tp.tup3 (show Tp K H v (.tuple [.int (c.many : Int), .tuple (c.rows.map Rw.d), .tuple (c.tab.map Tb.d)]) from tv)
  exact ⟨a, _, ((2 : Nat) : Int), _, rfl, rfl, hT, atI_nat rfl, q _ t2⟩
theorem rd_left (T : MacT K CM CF) (vs : List V) (H : Hp) (Q : VK) (E : XK) (hh : spLeft K CM CF vs H Q E) : t_Machine_cleanup_left K CM (spTabM K CM CF) { nx := fun _ H' => Q .non H', rt := Q } (start ["self", "frame", "goal", "row"] vs) H := by
  obtain ⟨e, y, x, xs, lv, dn, m, f, fs, c, goal, rfl, st, hf, hc, q⟩ := hh.ex
  have fr := st.fr hf
  refine rMethW rfl st.ins rfl ⟨_, rfl, ⟨⟨e, y, x, xs, lv, dn, m, f, fs, c, rfl, st, hf, hc, fun tv ttv => ?_⟩⟩⟩
  obtain ⟨ta, txs, rfl, hT, hA⟩ := ttv.tupE
  refine ⟨ta, rfl, ⟨_, hT⟩, for_tup (K := K) (a := ta) (xs := txs) (fun i σ H' => H' = H ∧ ∃ v3 : Option V, σ = [some (.ref y.ma), some (.ref x.fa), some (goalV goal), v3] ∧ c.tab.find? (catchC f.pc goal) = (c.tab.drop i).find? (catchC f.pc goal))
    ⟨rfl, _, rfl, by rw [List.drop_zero]⟩ (fun i σ H' _ ⟨e, _⟩ => by rw [e]; exact hT) ?_ ?_⟩
  · rintro i xv σ H' hx ⟨rfl, v3, rfl, hfi⟩
    obtain ⟨t, ht, tp, hd⟩ := tab_at hA hx
    obtain ⟨ra, rfl, hR⟩ := Tb.tup tp
    rw [hd] at hfi
    have pA : PB (tAnd (tTest (tOp rEq (tOp (rIxT K) (tVar 3) (tC (.int 2))) (tC (.str "cleanup")))) (tTest (tChain rLe rLt (tOp (rIxT K) (tVar 3) (tC (.int 0))) (tFld K (tVar 1) "place") (tOp (rIxT K) (tVar 3) (tC (.int 1)))))) [some (.ref y.ma), some (.ref x.fa), some (goalV goal), some (.ref ra)] H' (t.kd.isNone && (decide (t.b ≤ f.pc) && decide (f.pc < t.x))) :=
      pb_and (pb_is (pb_evS (evs_ixT (j := 2) rfl hR rfl)) (by obtain ⟨_, _, kd, _, _⟩ := t; cases kd <;> rfl)) (pb_chain (evs_ixT (j := 0) rfl hR rfl) (evs_fld rfl fr.ins T.clF T.place rfl) (evs_ixT (j := 1) rfl hR rfl))
    have pB : PB (tOr (tTest (tOp rIsN (tVar 2) (tC .non))) (tNot (tTest (tChain rLe rLt (tOp (rIxT K) (tVar 3) (tC (.int 0))) (tVar 2) (tOp (rIxT K) (tVar 3) (tC (.int 1))))))) [some (.ref y.ma), some (.ref x.fa), some (goalV goal), some (.ref ra)] H' (goalT goal t) := by
      cases goal with
      | none => exact pb_orT (pb_is (pb_isN rfl) rfl)
      | some g => exact pb_is (pb_or (pb_is (pb_isN rfl) (w := false) rfl) (pb_notT (pb_chain (evs_ixT (j := 0) rfl hR rfl) (evs_var rfl) (evs_ixT (j := 1) rfl hR rfl)))) (by rw [Bool.false_or]; rfl)
    have ec : catchC f.pc goal t = ((t.kd.isNone && (decide (t.b ≤ f.pc) && decide (f.pc < t.x))) && goalT goal t) := by
      unfold catchC goalT; first | (simp only [Bool.and_assoc]; done) | (simp only [Bool.and_assoc]; rfl)
    have nxt : catchC f.pc goal t = false → H' = H' ∧ ∃ v3 : Option V, [some (.ref y.ma), some (.ref x.fa), some (goalV goal), some (V.ref ra)] = [some (.ref y.ma), some (.ref x.fa), some (goalV goal), v3] ∧ c.tab.find? (catchC f.pc goal) = (c.tab.drop (i + 1)).find? (catchC f.pc goal) := fun z => ⟨rfl, _, rfl, by rw [hfi, List.find?_cons_of_neg (by rw [z]; decide)]⟩
    refine r_if pA (fun h1 => r_if pB (fun h2 => ?_) fun h2 => nxt (by rw [ec, h1, h2]; rfl)) fun h1 => nxt (by rw [ec, h1]; rfl)
    refine ⟨_, rfl, q _ ?_⟩
    rw [hfi, List.find?_cons_of_pos (by rw [ec, h1, h2]; rfl)]
    exact tp
  · rintro σ H' ⟨rfl, v3, rfl, hfi⟩
    refine q _ ?_
    have e0 : c.tab.drop txs.length = [] := List.drop_eq_nil_of_le (by rw [hA.length, List.length_map]; exact Nat.le_refl _)
    rw [hfi, e0]
    rfl
theorem Sz.code {e : ME} {m : Mc} {f : Fr} {fs : List Fr} (z : Sz e m) (hf : m.frs = f :: fs) : ∃ c, e.code[f.fn]? = some c := ⟨_, List.getElem?_eq_getElem (z.frs f (by rw [hf]; exact List.mem_cons_self)).fn⟩
theorem Sz.fr {e : ME} {m : Mc} {f : Fr} {fs : List Fr} (z : Sz e m) (hf : m.frs = f :: fs) : FrOk e.code.length e.ks.length 900000 900000 f := z.frs f (by rw [hf]; exact List.mem_cons_self)
theorem rd_mleap (T : MacT K CM CF) (vs : List V) (H : Hp) (Q : VK) (E : XK) (hh : spLeap K CM CF vs H Q E) : t_Machine_leap K CM (spLeft K CM CF) (spEnter K CM CF) { nx := fun _ H' => Q .non H', rt := Q } (start ["self", "frame", "goal", "depth", "row"] vs) H := by
  obtain ⟨e, y, x, xs, lv, dn, m, f, fs, g, D, rfl, st, hf, sz, hD, q⟩ := hh.ex
  have fr := st.fr hf
  obtain ⟨c, hc⟩ := sz.code hf
  refine rMethW rfl st.ins rfl ⟨_, rfl, _, rfl, ⟨⟨e, y, x, xs, lv, dn, m, f, fs, c, some g, rfl, st, hf, hc, fun v hv => ?_⟩⟩⟩
  cases ht : c.tab.find? (catchC f.pc (some g)) with
  | some t =>
    rw [ht] at hv
    have tp : Tp K H v t.d := hv
    obtain ⟨ra, rfl, hR⟩ := Tb.tup tp
    refine r_ifT (pb_is (pb_ntN (i := 4) rfl) rfl) (rMethW rfl st.ins rfl ⟨_, rfl, _, rfl, _, rfl, _, rfl, (by show 3 ≤ sizeLine; decide), fun p hp => ?_⟩)
    have s1 : Same H (L2.upd H p (.tup [.str "leap", .int g, .int D])) := Same.new hp
    have ed : doLeap e.code m f fs g D = { m with frs := f.enter t (.leap g D) :: fs } := by
      unfold doLeap; rw [tabOf_of hc, ht]
    rw [ed] at q
    exact ⟨⟨e, y, x, xs, lv, dn, m, f, fs, _, _, t, .leap g D, rfl, st.same s1, hf, tp.mono (Tk.same s1), Tp.mk hp (.cons (.str _) (.cons (.int _) (.cons (.int _) .nil))), (sz.fr hf).hl, (tab_ok sz.ck (f := f) (by rw [tabOf_of hc]; exact List.mem_of_find?_eq_some ht)).2, (q.behind (Mv.same s1)).cv fun _ h => h⟩⟩
  | none =>
    rw [ht] at hv
    have hv : v = .non := hv
    subst hv
    obtain ⟨us, hu, tu⟩ := fr.held
    refine r_ifF (pb_is (pb_ntN (i := 4) rfl) rfl) ⟨_, rfl, x.fa, CF, x.dx, _, _, rfl, fr.ins, T.clF, T.held, rfl, _, rfl, D, rfl, x.ha, us, rfl, SqL.of hu, fun p hp => ?_⟩
    refine ⟨_, rfl, x.fa, CF, x.dx, _, rfl, by rw [upd_ne (ne_of_none fr.ins hp)]; exact fr.ins, T.clF, T.held, (by show 5 < 1000; decide), ?_⟩
    obtain ⟨x1, e1, st1, mv1⟩ := st.cut (p := p) hf hD hu tu hp
    generalize L2.upd (L2.upd H p (.lst (cutV us none (some D)))) x.fa (.ins CF x.dx (putF "held" (.ref p) (frFs x f))) = H1 at st1 mv1 ⊢
    have fr1 := st1.fr rfl
    rw [← e1]
    refine ⟨_, rfl, _, rfl, x1.fa, CF, x1.dx, _, rfl, fr1.ins, T.clF, T.place, (by show 5 < 1000; decide), ?_⟩
    obtain ⟨st2, mv2⟩ := st1.place (q := g) rfl
    have ed : doLeap e.code m f fs g D = { m with frs := { f with held := f.held.take D.toNat, pc := g } :: fs } := by
      unfold doLeap; rw [tabOf_of hc, ht]
    rw [ed] at q
    exact q.q _ _ _ st2 (mv1.trans mv2)
theorem rd_give (T : MacT K CM CF) (vs : List V) (H : Hp) (Q : VK) (E : XK) (hh : spGive K CM CF vs H Q E) : t_Machine_give_back K CM (spLeft K CM CF) (spEnter K CM CF) { nx := fun _ H' => Q .non H', rt := Q } (start ["self", "frame", "value", "row"] vs) H := by
  obtain ⟨e, y, x, xs, lv, dn, m, f, fs, i, rfl, st, hf, sz, hl, q⟩ := hh.ex
  have fr := st.fr hf
  obtain ⟨c, hc⟩ := sz.code hf
  refine rMethW rfl st.ins rfl ⟨_, rfl, ⟨⟨e, y, x, xs, lv, dn, m, f, fs, c, none, rfl, st, hf, hc, fun v hv => ?_⟩⟩⟩
  cases ht : c.tab.find? (catchC f.pc none) with
  | some t =>
    rw [ht] at hv
    have tp : Tp K H v t.d := hv
    obtain ⟨ra, rfl, hR⟩ := Tb.tup tp
    refine r_ifT (pb_is (pb_ntN (i := 3) rfl) rfl) (rMethW rfl st.ins rfl ⟨_, rfl, _, rfl, _, rfl, (by show 2 ≤ sizeLine; decide), fun p hp => ?_⟩)
    have s1 : Same H (L2.upd H p (.tup [.str "return", .int i])) := Same.new hp
    have ed : doRet e.code m f fs i = { m with frs := f.enter t (.ret i) :: fs } := by
      unfold doRet; rw [tabOf_of hc, ht]
    rw [ed] at q
    exact ⟨⟨e, y, x, xs, lv, dn, m, f, fs, _, _, t, .ret i, rfl, st.same s1, hf, tp.mono (Tk.same s1), Tp.mk hp (.cons (.str _) (.cons (.int _) .nil)), (sz.fr hf).hl, (tab_ok sz.ck (f := f) (by rw [tabOf_of hc]; exact List.mem_of_find?_eq_some ht)).2, (q.behind (Mv.same s1)).cv fun _ h => h⟩⟩
  | none =>
    rw [ht] at hv
    have hv : v = .non := hv
    subst hv
    refine r_ifF (pb_is (pb_ntN (i := 3) rfl) rfl) ?_
    have e1 : (x :: xs).reverse.map (fun x => V.ref x.fa) = xs.reverse.map (fun x => V.ref x.fa) ++ [V.ref x.fa] := by simp
    have hfl : H y.fl = some (.lst (xs.reverse.map (fun x => V.ref x.fa) ++ [V.ref x.fa])) := by rw [← e1]; exact st.frl
    refine ⟨_, rfl, y.ma, CM, y.dx, _, _, rfl, st.ins, T.clM, T.frames, rfl, .inl ⟨rfl, _, SqL.of hfl⟩, y.fl, _, .ref x.fa, rfl, rfl, hfl, by simp, ?_⟩
    rw [List.dropLast_concat]
    have st1 := st.pop (xs' := xs) hf
    have mv1 := st.pop_mv
    generalize L2.upd H y.fl (.lst (xs.reverse.map fun x => V.ref x.fa)) = H1 at st1 mv1 ⊢
    refine ⟨_, rfl, y.ma, CM, y.dx, _, _, rfl, st1.ins, T.clM, T.frames, rfl, (by show 0 ≤ sizeLine; decide), fun p hp => ?_⟩
    have s2 : Same H1 (L2.upd H1 p (.lst [])) := Same.new hp
    have st2 := st1.same s2
    have mv2 : Mv y (x :: xs) H xs (L2.upd H1 p (.lst [])) := mv1.trans (Mv.same s2)
    refine ⟨y.fl, p, _, rfl, rfl, SqL.of st2.frl, SqL.of upd_same, _, rfl, ?_⟩
    generalize L2.upd H1 p (.lst []) = H2 at st2 mv2 ⊢
    have hfr := st2.frs
    cases fs with
    | nil =>
      have hx : xs = [] := by
        have : FrsAt K CF H2 xs [] := hfr
        cases this; rfl
      subst hx
      refine ifT rfl ⟨_, rfl, (by show 2 ≤ sizeLine; decide), fun p2 hp2 => ?_⟩
      have s3 : Same H2 (L2.upd H2 p2 (.tup [.str "return", .int i])) := Same.new hp2
      have st3 := st2.same s3
      refine ⟨_, rfl, y.ma, CM, y.dx, _, rfl, st3.ins, T.clM, T.last, (by show 8 < 1000; decide), ?_⟩
      have st4 := st3.fld (l := m.left) (dn' := dn) (la := some (.ret i)) (lv' := .ref p2) (Tp.mk hp2 (.cons (.str _) (.cons (.int _) .nil)))
      have ed : doRet e.code m f [] i = { m with frs := [], last := some (.ret i) } := by
        unfold doRet; rw [tabOf_of hc, ht]
      rw [ed] at q
      exact q.q _ _ _ st4 ((mv2.trans (Mv.same s3)).trans (Mv.upd (by simp [foot])))
    | cons g r =>
      obtain ⟨x2, xs2, rfl⟩ : ∃ x2 xs2, xs = x2 :: xs2 := by
        have : FrsAt K CF H2 xs (g :: r) := hfr
        cases this; exact ⟨_, _, rfl⟩
      have fr2 := st2.fr rfl
      refine ifF (by simp) ?_
      refine rd_lastF T st2 (i := 0) rfl (Q := fun v H1 => ∃ (a C dx : Addr) (fs : List (Str × V)) (w : V), v = .ref a ∧ H1 a = some (.ins C dx fs) ∧ Cls K C ∧ NoAttr K C "stack" ∧ fs.lookup ("stack" : Str) = some w ∧ _) ⟨x2.fa, CF, x2.dx, _, _, rfl, fr2.ins, T.clF, T.stack, rfl, ?_⟩
      refine ⟨.inl ⟨rfl, _, SqL.of fr2.stk⟩, _, rfl, x2.ka, _, _, rfl, rfl, fr2.stk, sz_lt1 ?_, ?_⟩
      · rw [List.length_map]
        have := (sz.frs g (by rw [hf]; simp)).sl
        omega
      obtain ⟨st3, mv3⟩ := st2.stk (S := g.stk ++ [i]) rfl
      rw [show (g.stk ++ [i]).map V.int = g.stk.map V.int ++ [V.int i] from by simp] at st3 mv3
      generalize L2.upd H2 x2.ka (.lst (g.stk.map V.int ++ [V.int i])) = H3 at st3 mv3 ⊢
      have fr3 := st3.fr rfl
      refine rd_lastF T st3 (i := 0) rfl (Q := fun v H1 => ∃ (a C dx : Addr) (fs : List (Str × V)) (w : V), v = .ref a ∧ H1 a = some (.ins C dx fs) ∧ Cls K C ∧ NoAttr K C "place" ∧ fs.lookup ("place" : Str) = some w ∧ _) ⟨x2.fa, CF, x2.dx, _, _, rfl, fr3.ins, T.clF, T.place, rfl, ?_⟩
      refine ⟨_, _, rfl, rfl, ?_⟩
      refine rd_lastF T st3 (i := 0) rfl (Q := fun v H1 => ∃ (a C dx : Addr) (fs : List (Str × V)), v = .ref a ∧ H1 a = some (.ins C dx fs) ∧ Cls K C ∧ NoAttr K C "place" ∧ fs.length < 1000 ∧ _) ⟨x2.fa, CF, x2.dx, _, rfl, fr3.ins, T.clF, T.place, (by show 5 < 1000; decide), ?_⟩
      obtain ⟨st4, mv4⟩ := st3.place (q := g.pc + 1) rfl
      have ed : doRet e.code m f (g :: r) i = { m with frs := { g with stk := g.stk ++ [i], pc := g.pc + 1 } :: r } := by
        unfold doRet; rw [tabOf_of hc, ht]
      rw [ed] at q
      exact q.q _ _ _ st4 ((mv2.trans mv3).trans mv4)
end
end Lp

/-! LmD: the machine's methods: fly, resume. -/
namespace Lp
open PySem PySem.Spec PyProof.Rows L2
def t_Machine_fly (K : PySem.W.Frag) (C_Machine : Addr) (sp_Machine_table : Sp) (sp_Machine_enter : Sp) (sp_meets : Sp) : TS :=
  tSeq (tWhile (tTest (tOp (rNeE K) (tFld K (tVar 0) "frames") (tLst (tNil)))) (tSeq (tAsg (tOp (rIxL K) (tFld K (tVar 0) "frames") (tUn rNeg (tC (.int 1)))) (gName 2)) (tSeq (tFor (iTup K (tMeth C_Machine "table" sp_Machine_table [] E0 (tVar 0) (tCons (tVar 2) (tNil)))) (gName 3) (tIfS (tTest (tChain rLe rLt (tOp (rIxT K) (tVar 3) (tC (.int 0))) (tFld K (tVar 2) "place") (tOp (rIxT K) (tVar 3) (tC (.int 1))))) (tSeq (tIfS (tTest (tOp rEq (tOp (rIxT K) (tVar 3) (tC (.int 2))) (tC (.str "cleanup")))) (tSeq (tDrop (tMeth C_Machine "enter" sp_Machine_enter [] E0 (tVar 0) (tCons (tVar 2) (tCons (tVar 3) (tCons (tVar 1) (tNil)))))) (tRetN)) (tNext)) (tIfS (tB (tCall sp_meets [] E0 (tCons (tFld K (tVar 0) "kinds") (tCons (tOp (rIxT K) (tVar 3) (tC (.int 3))) (tCons (tOp (rIxT K) (tVar 1) (tC (.int 1))) (tNil)))))) (tSeq (tDrop (tMeth C_Machine "enter" sp_Machine_enter [] E0 (tVar 0) (tCons (tVar 2) (tCons (tVar 3) (tCons (tOp (rCatA K) (tTup (tCons (tC (.str "met")) (tNil))) (tSl (rSlA K) (tVar 1) (tPart (tC (.int 1))) tNoPart)) (tNil)))))) (tRetN)) (tNext))) (tNext))) (tSeq (tDrop (tBM0 K "list" rPop (tFld K (tVar 0) "frames"))) (tIfS (tTest (tOp (rNeE K) (tFld K (tVar 0) "frames") (tLst (tNil)))) (tSeq (tAsg (tOp (rIxL K) (tFld K (tVar 0) "frames") (tUn rNeg (tC (.int 1)))) (gName 4)) (tSeq (tAsg (tOp (rIxT K) (tOp (rIxT K) (tOp (rIxT K) (tOp (rIxT K) (tFld K (tVar 0) "code") (tFld K (tVar 4) "number")) (tC (.int 1))) (tFld K (tVar 4) "place")) (tC (.int 3))) (gName 5)) (tAsg (tTup (tCons (tC (.str "fault")) (tCons (tOp (rIxT K) (tVar 1) (tC (.int 1))) (tCons (tOp (rIxT K) (tVar 1) (tC (.int 2))) (tCons (tOp (rCatA K) (tOp (rIxT K) (tVar 1) (tC (.int 3))) (tTup (tCons (tVar 5) (tNil)))) (tNil)))))) (gName 1)))) (tNext)))))) (sFld K (tVar 0) (tVar 1) "last")

def t_Machine_resume (K : PySem.W.Frag) (C_Machine : Addr) (sp_Machine_leap : Sp) (sp_Machine_give_back : Sp) (sp_Machine_fly : Sp) : TS :=
  tIfS (tTest (tOp rEq (tOp (rIxT K) (tVar 2) (tC (.int 0))) (tC (.str "on")))) (sFld K (tVar 1) (tOp rAdI (tFld K (tVar 1) "place") (tC (.int 1))) "place") (tIfS (tTest (tOp rEq (tOp (rIxT K) (tVar 2) (tC (.int 0))) (tC (.str "leap")))) (tDrop (tMeth C_Machine "leap" sp_Machine_leap [] E0 (tVar 0) (tCons (tVar 1) (tCons (tOp (rIxT K) (tVar 2) (tC (.int 1))) (tCons (tOp (rIxT K) (tVar 2) (tC (.int 2))) (tNil)))))) (tIfS (tTest (tOp rEq (tOp (rIxT K) (tVar 2) (tC (.int 0))) (tC (.str "return")))) (tDrop (tMeth C_Machine "give_back" sp_Machine_give_back [] E0 (tVar 0) (tCons (tVar 1) (tCons (tOp (rIxT K) (tVar 2) (tC (.int 1))) (tNil))))) (tDrop (tMeth C_Machine "fly" sp_Machine_fly [] E0 (tVar 0) (tCons (tVar 2) (tNil))))))

structure FlyP (K : PySem.W.Frag) (CM CF : Addr) (vs : List V) (H : Hp) (Q : VK) : Prop where
  ex : ∃ (e : ME) (y : MA) (xs : List FA) (lv : V) (dn : Int) (m : Mc) (fv : V) (x : Flt), vs = [.ref y.ma, fv] ∧ MSt K CM CF e H y xs lv dn m ∧ Tp K H fv (Hl.flt x).d ∧ Sz e m ∧ m.last = none ∧ x.k < e.ks.length ∧ x.tr.length ≤ 900000 ∧
    Then K CM CF e H y xs dn (doFly e.code e.ks m m.frs x) Q
def spFly (K : PySem.W.Frag) (CM CF : Addr) : Sp := fun vs H Q _ => FlyP K CM CF vs H Q
def resTo (code : List Fc) (ks : List (Option Nat)) (m : Mc) (f : Fr) (fs : List Fr) : Hl → Mc
  | .on => { m with frs := { f with pc := f.pc + 1 } :: fs }
  | .leap g D => doLeap code m f fs g D
  | .ret v => doRet code m f fs v
  | .flt x => doFly code ks m (f :: fs) x
  | .met _ => m
structure ResP (K : PySem.W.Frag) (CM CF : Addr) (vs : List V) (H : Hp) (Q : VK) : Prop where
  ex : ∃ (e : ME) (y : MA) (x : FA) (xs : List FA) (lv : V) (dn : Int) (m : Mc) (f : Fr) (fs : List Fr) (pv : V) (h : Hl), vs = [.ref y.ma, .ref x.fa, pv] ∧ MSt K CM CF e H y (x :: xs) lv dn m ∧ m.frs = f :: fs ∧ Tp K H pv h.d ∧ Sz e m ∧ m.last = none ∧ (∀ z, h ≠ .met z) ∧ HlOk e.ks.length 900000 h ∧
    Then K CM CF e H y (x :: xs) dn (resTo e.code e.ks m f fs h) Q
def spRes (K : PySem.W.Frag) (CM CF : Addr) : Sp := fun vs H Q _ => ResP K CM CF vs H Q
theorem Sz.suff {e : ME} {m : Mc} {pre fs : List Fr} (z : Sz e m) (h : m.frs = pre ++ fs) : Sz e { m with frs := fs } := by
  refine ⟨fun f hf => z.frs f (by rw [h]; exact List.mem_append_right _ hf), z.told, ?_, z.dps, fun f hf => z.call f ?_, z.wfk, z.ck⟩
  · have := z.len
    rw [h, List.length_append] at this
    show fs.length ≤ _
    omega
  · rw [h]
    cases pre with
    | nil => exact hf
    | cons p pre => exact List.mem_append_right _ (List.mem_of_mem_tail hf)
section
variable {K : PySem.W.Frag} {CM CF : Addr} {σ : L2.St} {H : Hp} {Q : VK} {i j : Nat}
/-- (word,) + te[1:] -/
theorem rd_tail {te : TE} {a : Addr} {v0 v1 v2 v3 : V} {w : Str} (ht : ∀ H', Same H H' → Evs te σ H' (.ref a)) (hT : SqT K H a [v0, v1, v2, v3]) (q : ∀ p H', Same H H' → H' p = some (.tup [.str w, v1, v2, v3]) → Q (.ref p) H') :
    tOp (rCatA K) (tTup (tCons (tC (.str w)) tNil)) (tSl (rSlA K) te (tPart (tC (.int 1))) tNoPart) σ H Q := by
  refine ⟨(by show 1 ≤ sizeLine; decide), fun p1 hp1 => ?_⟩
  have s1 : Same H (L2.upd H p1 (.tup [.str w])) := Same.new hp1
  have t1 : L2.upd H p1 (.tup [.str w]) p1 = some (.tup [.str w]) := upd_same
  generalize L2.upd H p1 (.tup [.str w]) = H1 at s1 t1 ⊢
  refine ht H1 s1 _ ⟨1, rfl, a, _, rfl, s1.sqT hT, fun z => absurd z.1 (by show ¬ ((1 : Nat) = 0); decide), fun _ p2 hp2 => ?_⟩
  have e2 : cutV [v0, v1, v2, v3] (some 1) none = [v1, v2, v3] := cut_drop (us := [v0, v1, v2, v3]) (k := 1) (by show 1 ≤ 4; decide)
  rw [e2]
  have s2 : Same H1 (L2.upd H1 p2 (.tup [v1, v2, v3])) := Same.new hp2
  have t2 : L2.upd H1 p2 (.tup [v1, v2, v3]) p2 = some (.tup [v1, v2, v3]) := upd_same
  generalize L2.upd H1 p2 (.tup [v1, v2, v3]) = H2 at s2 t2 ⊢
  exact ⟨p1, p2, _, _, rfl, rfl, SqT.of (s2 _ _ t1), SqT.of t2, (by show 1 + 3 ≤ sizeLine; decide), fun z => (by cases z), fun _ z => (by cases z), fun _ _ p3 hp3 => q p3 _ ((s1.trans s2).trans (Same.new hp3)) upd_same⟩
/-- a tuple of ints, one more behind -/
theorem rd_snoc {te : TE} {a : Addr} {l : List Int} {n : Int} (ht : Evs te σ H (.ref a)) (hT : SqT K H a (l.map V.int)) (hj : σ[j]? = some (some (.int n))) (hl : l.length + 1 ≤ 1000000) (q : ∀ p H', Same H H' → SqT K H' p ((l ++ [n]).map V.int) → Q (.ref p) H') :
    tOp (rCatA K) te (tTup (tCons (tVar j) tNil)) σ H Q := by
  refine ht _ ⟨_, hj, (by show 1 ≤ sizeLine; decide), fun p1 hp1 => ?_⟩
  have s1 : Same H (L2.upd H p1 (.tup [.int n])) := Same.new hp1
  have t1 : L2.upd H p1 (.tup [.int n]) p1 = some (.tup [.int n]) := upd_same
  generalize L2.upd H p1 (.tup [.int n]) = H1 at s1 t1 ⊢
  refine ⟨a, p1, _, _, rfl, rfl, s1.sqT hT, SqT.of t1, sz_le1 (by simpa using hl), fun z => ?_, fun _ z => (by cases z), fun _ _ p3 hp3 => q p3 _ (s1.trans (Same.new hp3)) (SqT.of (by rw [upd_same, List.map_append]; rfl))⟩
  have : l = [] := List.map_eq_nil_iff.mp z
  subst this
  exact q p1 H1 s1 (SqT.of t1)
theorem rd_fly (T : MacT K CM CF) (vs : List V) (H : Hp) (Q : VK) (E : XK) (hh : spFly K CM CF vs H Q E) : t_Machine_fly K CM (spTabM K CM CF) (spEnter K CM CF) (spMeets K) { nx := fun _ H' => Q .non H', rt := Q } (start ["self", "fault", "frame", "row", "outer", "mark"] vs) H := by
  obtain ⟨e, y, xs, lv, dn, m, fv, x, rfl, st, tf, sz, hl, hk, htr, q⟩ := hh.ex
  refine ⟨fun n σ H1 => ∃ (xs1 : List FA) (fs1 pre : List Fr) (x1 : Flt) (lv1 fv1 : V) (v2 v3 v4 v5 : Option V), n = fs1.length ∧ σ = [some (.ref y.ma), some fv1, v2, v3, v4, v5] ∧ MSt K CM CF e H1 y xs1 lv1 dn { m with frs := fs1 } ∧ Mv y xs H xs1 H1 ∧ Tp K H1 fv1 (Hl.flt x1).d ∧ doFly e.code e.ks m m.frs x = doFly e.code e.ks m fs1 x1 ∧ x1.k = x.k ∧ x1.tr.length + fs1.length ≤ x.tr.length + m.frs.length ∧ m.frs = pre ++ fs1,
    ⟨m.frs.length, xs, m.frs, [], x, lv, fv, _, _, _, _, rfl, rfl, st, Mv.refl _ _ _, tf, rfl, rfl, Nat.le_refl _, rfl⟩, ?_⟩
  rintro n σ H1 ⟨xs1, fs1, pre, x1, lv1, fv1, v2, v3, v4, v5, rfl, rfl, st1, mv1, tf1, eq1, k1, l1, hpre⟩
  refine ⟨_, rfl, y.ma, CM, y.dx, _, _, rfl, st1.ins, T.clM, T.frames, rfl, (by show 0 ≤ sizeLine; decide), fun p hp => ?_⟩
  have s2 : Same H1 (L2.upd H1 p (.lst [])) := Same.new hp
  have st2 := st1.same s2
  have tf2 := tf1.mono (Tk.same s2)
  have mv2 : Mv y xs H xs1 (L2.upd H1 p (.lst [])) := mv1.trans (Mv.same s2)
  refine ⟨y.fl, p, _, rfl, rfl, SqL.of st2.frl, SqL.of upd_same, _, rfl, ?_⟩
  generalize L2.upd H1 p (.lst []) = H2 at st2 tf2 mv2 ⊢
  have hfr := st2.frs
  cases fs1 with
  | nil =>
    have hx : xs1 = [] := by
      have : FrsAt K CF H2 xs1 [] := hfr
      cases this; rfl
    subst hx
    refine ifF rfl ⟨_, rfl, _, rfl, y.ma, CM, y.dx, _, rfl, st2.ins, T.clM, T.last, (by show 8 < 1000; decide), ?_⟩
    have st3 := st2.fld (l := m.left) (dn' := dn) (la := some (.flt x1)) (lv' := fv1) tf2
    rw [eq1] at q
    exact q.q _ _ _ st3 (mv2.trans (Mv.upd (by simp [foot])))
  | cons f r =>
    obtain ⟨x2, xs2, rfl⟩ : ∃ x2 xs2, xs1 = x2 :: xs2 := by
      have : FrsAt K CF H2 xs1 (f :: r) := hfr
      cases this; exact ⟨_, _, rfl⟩
    have sz2 := sz.suff hpre
    obtain ⟨c, hc⟩ := sz2.code rfl
    have fr2 := st2.fr rfl
    have fo := sz2.fr rfl
    have bl := sz.len
    have bd := sz.dps
    obtain ⟨fa, f0, f1, f2, f3, rfl, hF, t0, t1, t2, t3⟩ := Tp.tup4 (show Tp K H2 fv1 (.tuple [.str "fault", .int (x1.k : Int), .int x1.v, .tuple (x1.tr.map .int)]) from tf2)
    cases t0.strE; cases t1.intE; cases t2.intE
    refine ifT (by simp) ⟨fun σ' H' => ∃ (xs1 : List FA) (fs1 pre : List Fr) (x1 : Flt) (lv1 fv1 : V) (v2 v3 v4 v5 : Option V), r.length = fs1.length ∧ σ' = [some (.ref y.ma), some fv1, v2, v3, v4, v5] ∧ MSt K CM CF e H' y xs1 lv1 dn { m with frs := fs1 } ∧ Mv y xs H xs1 H' ∧ Tp K H' fv1 (Hl.flt x1).d ∧ doFly e.code e.ks m m.frs x = doFly e.code e.ks m fs1 x1 ∧ x1.k = x.k ∧ x1.tr.length + fs1.length ≤ x.tr.length + m.frs.length ∧ m.frs = pre ++ fs1,
      fun σ' H' h => ⟨r.length, Nat.lt_succ_self _, h⟩, ?_⟩
    refine rd_lastF T st2 (i := 0) rfl (Q := fun v H1 => gName 2 v _ H1 _) ?_
    refine rMethW rfl st2.ins rfl ⟨_, rfl, ⟨⟨e, y, x2, xs2, _, dn, _, f, r, c, rfl, st2, rfl, hc, fun tv ttv => ?_⟩⟩⟩
    obtain ⟨ta, txs, rfl, hT, hA⟩ := ttv.tupE
    refine ⟨ta, rfl, ⟨_, hT⟩, for_tup (K := K) (a := ta) (xs := txs) (fun i σ H' => H' = H2 ∧ ∃ v3 : Option V, σ = [some (.ref y.ma), some (.ref fa), some (.ref x2.fa), v3, v4, v5] ∧ c.tab.find? (catchF e.ks f.pc x1.k) = (c.tab.drop i).find? (catchF e.ks f.pc x1.k))
      ⟨rfl, _, rfl, by rw [List.drop_zero]⟩ (fun i σ H' _ ⟨e, _⟩ => by rw [e]; exact hT) ?_ ?_⟩
    · rintro i xv σ H' hx ⟨rfl, v3, rfl, hfi⟩
      obtain ⟨t, ht, tp, hd⟩ := tab_at hA hx
      obtain ⟨ra, rfl, hR⟩ := Tb.tup tp
      rw [hd] at hfi
      have tmem : t ∈ c.tab := List.mem_of_getElem? ht
      have tD := (tab_ok sz.ck (f := f) (by rw [tabOf_of hc]; exact tmem)).2
      have nxt : catchF e.ks f.pc x1.k t = false → H' = H' ∧ ∃ v3 : Option V, [some (.ref y.ma), some (.ref fa), some (.ref x2.fa), some (V.ref ra), v4, v5] = [some (.ref y.ma), some (.ref fa), some (.ref x2.fa), v3, v4, v5] ∧ c.tab.find? (catchF e.ks f.pc x1.k) = (c.tab.drop (i + 1)).find? (catchF e.ks f.pc x1.k) := fun z => ⟨rfl, _, rfl, by rw [hfi, List.find?_cons_of_neg (by rw [z]; decide)]⟩
      refine r_if (pb_chain (evs_ixT (j := 0) rfl hR rfl) (evs_fld rfl fr2.ins T.clF T.place rfl) (evs_ixT (j := 1) rfl hR rfl)) (fun h1 => ?_) fun h1 => nxt (by unfold catchF; rw [h1]; rfl)
      cases hkd : t.kd with
      | none =>
        have hit : catchF e.ks f.pc x1.k t = true := by unfold catchF; rw [h1, hkd]; rfl
        refine r_ifT (pb_is (pb_evS (evs_ixT (j := 2) rfl hR rfl)) (by unfold Tb.w; rw [hkd]; rfl)) (rMethW rfl st2.ins rfl ⟨_, rfl, _, rfl, _, rfl, ?_⟩)
        have ed : doFly e.code e.ks m m.frs x = { m with frs := f.enter t (.flt x1) :: r } := by
          rw [eq1]
          conv => lhs; unfold doFly
          rw [tabOf_of hc, hfi, List.find?_cons_of_pos (by rw [hit])]
          simp [hkd]
        rw [ed] at q
        exact ⟨⟨e, y, x2, xs2, _, dn, _, f, r, _, _, t, .flt x1, rfl, st2, rfl, tp, tf2, fo.hl, tD, (q.behind mv2).cv fun _ h => h⟩⟩
      | some w =>
        have ec : catchF e.ks f.pc x1.k t = takes e.ks w x1.k := by unfold catchF; rw [h1, hkd]; rfl
        obtain ⟨ka, kxs, ek, hK, hKA⟩ := st2.kt.tupE
        rw [kinds_of hKA] at hK
        refine r_ifF (pb_is (pb_evS (evs_ixT (j := 2) rfl hR rfl)) (by unfold Tb.w; rw [hkd]; rfl)) ?_
        refine ⟨_, rfl, y.ma, CM, y.dx, _, _, rfl, st2.ins, T.clM, T.kinds, rfl, rd_ixT (j := 3) rfl hR rfl (rd_ixT (j := 1) rfl hF rfl ⟨ka, e.ks, w, x1.k, by rw [ek]; unfold Tb.k; rw [hkd]; rfl, hK, sz.wfk, by rw [k1]; exact hk, _, rfl, ifB (fun hw => ?_) fun hw => nxt (by rw [ec, hw])⟩)⟩
        refine rMethW rfl st2.ins rfl ⟨_, rfl, _, rfl, rd_tail (fun H' _ => evs_var rfl) hF fun p3 H3 s3 hp3 => ?_⟩
        have ed : doFly e.code e.ks m m.frs x = { m with frs := f.enter t (.met x1) :: r } := by
          rw [eq1]
          conv => lhs; unfold doFly
          rw [tabOf_of hc, hfi, List.find?_cons_of_pos (by rw [ec, hw])]
          simp [hkd]
        rw [ed] at q
        have tk3 := Tk.same s3
        exact ⟨⟨e, y, x2, xs2, _, dn, _, f, r, _, _, t, .met x1, rfl, st2.same s3, rfl, tp.mono tk3, .tup (SqT.of hp3) (.cons (.str _) (.cons (.int _) (.cons (.int _) (.cons (t3.mono tk3) .nil)))), fo.hl, tD, (q.behind (mv2.trans (Mv.same s3))).cv fun _ h => h⟩⟩
    · rintro σ H' ⟨rfl, v3, rfl, hfi⟩
      have e0 : c.tab.drop txs.length = [] := List.drop_eq_nil_of_le (by rw [hA.length, List.length_map]; exact Nat.le_refl _)
      rw [e0] at hfi
      have hfi : c.tab.find? (catchF e.ks f.pc x1.k) = none := hfi
      have e1 : (x2 :: xs2).reverse.map (fun x => V.ref x.fa) = xs2.reverse.map (fun x => V.ref x.fa) ++ [V.ref x2.fa] := by simp
      have hfl : H' y.fl = some (.lst (xs2.reverse.map (fun x => V.ref x.fa) ++ [V.ref x2.fa])) := by rw [← e1]; exact st2.frl
      refine ⟨_, rfl, y.ma, CM, y.dx, _, _, rfl, st2.ins, T.clM, T.frames, rfl, .inl ⟨rfl, _, SqL.of hfl⟩, y.fl, _, .ref x2.fa, rfl, rfl, hfl, by simp, ?_⟩
      rw [List.dropLast_concat]
      have st3 := st2.pop (xs' := xs2) rfl
      have mv3 := mv2.trans st2.pop_mv
      have tk3 := st2.tk st2.pop_mv
      generalize L2.upd H' y.fl (.lst (xs2.reverse.map fun x => V.ref x.fa)) = H3 at st3 mv3 tk3 ⊢
      refine ⟨_, rfl, y.ma, CM, y.dx, _, _, rfl, st3.ins, T.clM, T.frames, rfl, (by show 0 ≤ sizeLine; decide), fun p4 hp4 => ?_⟩
      have s4 : Same H3 (L2.upd H3 p4 (.lst [])) := Same.new hp4
      have st4 := st3.same s4
      have tk4 := tk3.trans (Tk.same s4)
      have mv4 : Mv y xs H xs2 (L2.upd H3 p4 (.lst [])) := mv3.trans (Mv.same s4)
      refine ⟨y.fl, p4, _, rfl, rfl, SqL.of st4.frl, SqL.of upd_same, _, rfl, ?_⟩
      generalize L2.upd H3 p4 (.lst []) = H4 at st4 mv4 tk4 ⊢
      have hfr4 := st4.frs
      have hl1 : x1.tr.length + (r.length + 1) ≤ x.tr.length + m.frs.length := l1
      cases r with
      | nil =>
        have hx : xs2 = [] := by
          have : FrsAt K CF H4 xs2 [] := hfr4
          cases this; rfl
        subst hx
        refine ifF rfl ⟨[], [], pre ++ [f], x1, _, _, _, _, _, _, rfl, rfl, st4, mv4, tf2.mono tk4, ?_, k1, by simp at hl1 ⊢; omega, by rw [hpre]; simp⟩
        rw [eq1]
        conv => lhs; unfold doFly
        rw [tabOf_of hc, hfi]; rfl
      | cons g r =>
        obtain ⟨x3, xs3, rfl⟩ : ∃ x3 xs3, xs2 = x3 :: xs3 := by
          have : FrsAt K CF H4 xs2 (g :: r) := hfr4
          cases this; exact ⟨_, _, rfl⟩
        have fr4 := st4.fr rfl
        obtain ⟨cf, cn, mk, hrow⟩ := sz2.call g (by simp)
        have hg0 := (sz2.frs g (by simp)).pc
        refine ifT (by simp) ?_
        refine rd_lastF T st4 (i := 0) rfl (Q := fun v H1 => gName 4 v _ H1 _) ?_
        refine rd_rw T st4 (i := 0) (j := 4) rfl rfl fr4.ins hrow hg0 (Q := fun v H1 => rIxT K v (.int 3) H1 _) fun v tv => ?_
        obtain ⟨ra, rfl, hR⟩ := Rw.tup tv
        refine ⟨ra, _, ((3 : Nat) : Int), .int mk, rfl, rfl, hR, atI_nat rfl, ?_⟩
        have hF4 := tk4.sqT hF
        obtain ⟨tra, trx, rfl, hTr, hTrA⟩ := (t3.mono tk4).tupE
        have etr : trx = x1.tr.map V.int := by
          rw [hTrA.flat (by simp [isFlat])]
          rw [List.map_map]; rfl
        rw [etr] at hTr
        refine rd_ixT (j := 1) rfl hF4 rfl (rd_ixT (j := 2) rfl hF4 rfl (rd_snoc (evs_ixT (j := 3) rfl hF4 rfl) hTr rfl (by have : x.tr.length ≤ 900000 := htr; omega) fun p5 H5 s5 hp5 => ⟨(by show 4 ≤ sizeLine; decide), fun p6 hp6 => ?_⟩))
        have s6 : Same H5 (L2.upd H5 p6 (.tup [.str "fault", .int (x1.k : Int), .int x1.v, .ref p5])) := Same.new hp6
        have s56 := s5.trans s6
        have em : markOf e.code g = mk := by unfold markOf; rw [hrow]
        refine ⟨x3 :: xs3, g :: r, pre ++ [f], { x1 with tr := x1.tr ++ [mk] }, _, _, _, _, _, _, rfl, rfl, st4.same s56, mv4.trans (Mv.same s56), ?_, ?_, k1, ?_, by rw [hpre]; simp⟩
        · refine .tup (SqT.of upd_same) (.cons (.str _) (.cons (.int _) (.cons (.int _) (.cons (.tup (s6.sqT hp5) ?_) .nil))))
          show TpAll K _ ((x1.tr ++ [mk]).map V.int) ((x1.tr ++ [mk]).map PyData.int)
          generalize x1.tr ++ [mk] = l
          induction l with
          | nil => exact .nil
          | cons a l ih => exact .cons (.int _) ih
        · rw [eq1]
          conv => lhs; unfold doFly
          rw [tabOf_of hc, hfi, ← em]
        · simp at hl1 ⊢; omega
end
end Lp

/-! LmE: the machine's methods: resume, a new frame, call, leave. -/
namespace Lp
open PySem PySem.Spec PyProof.Rows L2
def t_Frame_init (K : PySem.W.Frag) : TS :=
  tSeq (sFld K (tVar 0) (tVar 1) "number") (tSeq (sFld K (tVar 0) (tVar 2) "slots") (tSeq (sFld K (tVar 0) (tC (.int 0)) "place") (tSeq (sFld K (tVar 0) (tLst (tNil)) "stack") (sFld K (tVar 0) (tLst (tNil)) "held"))))

def t_Machine_call (K : PySem.W.Frag) (C_Frame : Addr) (sp_Frame_init : Sp) (sp_slots_for : Sp) : TS :=
  tSeq (sFld K (tVar 0) (tOp rSbI (tFld K (tVar 0) "left") (tC (.int 1))) "left") (tIfS (tTest (tOp rLt (tFld K (tVar 0) "left") (tC (.int 0)))) (sFld K (tVar 0) (tTup (tCons (tC (.str "dry")) (tNil))) "last") (tIfS (tTest (tOp rEq (tCB (rLenQ K) (tCons (tFld K (tVar 0) "frames") (tNil))) (tFld K (tVar 0) "deep"))) (sFld K (tVar 0) (tTup (tCons (tC (.str "deep")) (tNil))) "last") (tSeq (tAsg (tOp (rIxT K) (tVar 2) (tC (.int 2))) (gName 3)) (tSeq (tAsg (tSl (rSlL K) (tFld K (tVar 1) "stack") (tPart (tOp rSbI (tCB (rLenQ K) (tCons (tFld K (tVar 1) "stack") (tNil))) (tVar 3))) tNoPart) (gName 4)) (tSeq (sFld K (tVar 1) (tSl (rSlL K) (tFld K (tVar 1) "stack") tNoPart (tPart (tOp rSbI (tCB (rLenQ K) (tCons (tFld K (tVar 1) "stack") (tNil))) (tVar 3)))) "stack") (tDrop (tBM K "list" rAppend (tFld K (tVar 0) "frames") (tCons (tMake C_Frame sp_Frame_init [] E0 (tCons (tOp (rIxT K) (tVar 2) (tC (.int 1))) (tCons (tCall sp_slots_for [] E0 (tCons (tVar 4) (tNil))) (tNil)))) (tNil)))))))))

def t_Machine_leave (K : PySem.W.Frag) (C_Machine : Addr) (sp_Machine_leap : Sp) (sp_Machine_give_back : Sp) (sp_Machine_fly : Sp) (sp_Machine_call : Sp) (sp_Machine_resume : Sp) : TS :=
  tSeq (tAsg (tOp (rIxT K) (tVar 2) (tC (.int 0))) (gName 3)) (tIfS (tTest (tOp rEq (tVar 3) (tC (.str "leap")))) (tDrop (tMeth C_Machine "leap" sp_Machine_leap [] E0 (tVar 0) (tCons (tVar 1) (tCons (tOp (rIxT K) (tVar 2) (tC (.int 1))) (tCons (tOp (rIxT K) (tVar 2) (tC (.int 2))) (tNil)))))) (tIfS (tTest (tOp rEq (tVar 3) (tC (.str "return")))) (tDrop (tMeth C_Machine "give_back" sp_Machine_give_back [] E0 (tVar 0) (tCons (tVar 1) (tCons (tBM0 K "list" rPop (tFld K (tVar 1) "stack")) (tNil))))) (tIfS (tTest (tOp rEq (tVar 3) (tC (.str "raise")))) (tDrop (tMeth C_Machine "fly" sp_Machine_fly [] E0 (tVar 0) (tCons (tTup (tCons (tC (.str "fault")) (tCons (tOp (rIxT K) (tVar 2) (tC (.int 1))) (tCons (tBM0 K "list" rPop (tFld K (tVar 1) "stack")) (tCons (tTup (tCons (tOp (rIxT K) (tVar 2) (tC (.int 2))) (tNil))) (tNil)))))) (tNil)))) (tIfS (tTest (tOp rEq (tVar 3) (tC (.str "again")))) (tSeq (tAsg (tLc (iList K (tFld K (tVar 1) "held")) (gName 5) (tTest (tOp rEq (tOp (rIxT K) (tVar 5) (tC (.int 0))) (tC (.str "met")))) (tVar 5) [5]) (gName 4)) (tDrop (tMeth C_Machine "fly" sp_Machine_fly [] E0 (tVar 0) (tCons (tOp (rCatA K) (tTup (tCons (tC (.str "fault")) (tNil))) (tSl (rSlA K) (tOp (rIxL K) (tVar 4) (tUn rNeg (tC (.int 1)))) (tPart (tC (.int 1))) tNoPart)) (tNil))))) (tIfS (tTest (tOp rEq (tVar 3) (tC (.str "call")))) (tDrop (tMeth C_Machine "call" sp_Machine_call [] E0 (tVar 0) (tCons (tVar 1) (tCons (tVar 2) (tNil))))) (tDrop (tMeth C_Machine "resume" sp_Machine_resume [] E0 (tVar 0) (tCons (tVar 1) (tCons (tBM0 K "list" rPop (tFld K (tVar 1) "held")) (tNil))))))))))

structure FrIniP (K : PySem.W.Frag) (CF : Addr) (vs : List V) (H : Hp) (Q : VK) : Prop where
  ex : ∃ (c dx : Addr) (k : Nat) (sa : Addr), vs = [.ref c, .int (k : Int), .ref sa] ∧ H c = some (.ins CF dx []) ∧
    ∀ (ka ha : Addr) (H' : Hp), H ka = none → H ha = none → ka ≠ ha → H' c = some (.ins CF dx [("number", .int (k : Int)), ("slots", .ref sa), ("place", .int 0), ("stack", .ref ka), ("held", .ref ha)]) → H' ka = some (.lst []) → H' ha = some (.lst []) → Kp (fun x => x = c) H H' → Q .non H'
def spFrIni (K : PySem.W.Frag) (CF : Addr) : Sp := fun vs H Q _ => FrIniP K CF vs H Q
structure CallM (K : PySem.W.Frag) (CM CF : Addr) (vs : List V) (H : Hp) (Q : VK) : Prop where
  ex : ∃ (e : ME) (y : MA) (x : FA) (xs : List FA) (lv : V) (dn : Int) (m : Mc) (f : Fr) (fs : List Fr) (rv : V) (g k : Nat) (mk : Int), vs = [.ref y.ma, .ref x.fa, rv] ∧ MSt K CM CF e H y (x :: xs) lv dn m ∧ m.frs = f :: fs ∧ rowAt e.code f = some (.call g k mk) ∧ Tp K H rv (Rw.call g k mk).d ∧ k ≤ f.stk.length ∧ k ≤ 3 ∧ Sz e m ∧ m.last = none ∧
    Then K CM CF e H y (x :: xs) dn (step e.code e.ks e.dp m) Q
def spCallM (K : PySem.W.Frag) (CM CF : Addr) : Sp := fun vs H Q _ => CallM K CM CF vs H Q
def isLeave : Rw → Bool
  | .leap _ _ => true
  | .ret => true
  | .rais _ _ => true
  | .again => true
  | .resume => true
  | .call _ _ _ => true
  | _ => false
structure LeaveP (K : PySem.W.Frag) (CM CF : Addr) (vs : List V) (H : Hp) (Q : VK) : Prop where
  ex : ∃ (e : ME) (y : MA) (x : FA) (xs : List FA) (lv : V) (dn : Int) (m : Mc) (f : Fr) (fs : List Fr) (rv : V) (r : Rw), vs = [.ref y.ma, .ref x.fa, rv] ∧ MSt K CM CF e H y (x :: xs) lv dn m ∧ m.frs = f :: fs ∧ rowAt e.code f = some r ∧ Tp K H rv r.d ∧ rowLegal f r ∧ RwOk e.code.length e.ks.length r ∧ Sz e m ∧ m.last = none ∧ isLeave r = true ∧
    Then K CM CF e H y (x :: xs) dn (step e.code e.ks e.dp m) Q
def spLeave (K : PySem.W.Frag) (CM CF : Addr) : Sp := fun vs H Q _ => LeaveP K CM CF vs H Q
section
variable {K : PySem.W.Frag} {CM CF : Addr}
theorem FrsAt.len {H : Hp} : ∀ {xs : List FA} {fs : List Fr}, FrsAt K CF H xs fs → xs.length = fs.length
  | _, _, .nil => rfl
  | _, _, .cons _ b => by simp [FrsAt.len b]
theorem rd_res (T : MacT K CM CF) (vs : List V) (H : Hp) (Q : VK) (E : XK) (hh : spRes K CM CF vs H Q E) : t_Machine_resume K CM (spLeap K CM CF) (spGive K CM CF) (spFly K CM CF) { nx := fun _ H' => Q .non H', rt := Q } (start ["self", "frame", "pending"] vs) H := by
  obtain ⟨e, y, x, xs, lv, dn, m, f, fs, pv, h, rfl, st, hf, tp, sz, hl, hm, ho, q⟩ := hh.ex
  have fr := st.fr hf
  cases h with
  | on =>
    obtain ⟨a, x0, rfl, hT, h0⟩ := tp.tup1
    cases h0.strE
    refine r_ifT (pb_is (pb_evS (evs_ixT (j := 0) rfl hT rfl)) rfl) ⟨_, rfl, x.fa, CF, x.dx, _, _, rfl, fr.ins, T.clF, T.place, rfl, _, _, rfl, rfl, _, rfl, x.fa, CF, x.dx, _, rfl, fr.ins, T.clF, T.place, (by show 5 < 1000; decide), ?_⟩
    obtain ⟨st1, mv1⟩ := st.place (q := f.pc + 1) hf
    exact q.q _ _ _ st1 mv1
  | leap g D =>
    obtain ⟨a, x0, x1, x2, rfl, hT, h0, h1, h2⟩ := tp.tup3
    cases h0.strE; cases h1.intE; cases h2.intE
    refine r_ifF (pb_is (pb_evS (evs_ixT (j := 0) rfl hT rfl)) rfl) (r_ifT (pb_is (pb_evS (evs_ixT (j := 0) rfl hT rfl)) rfl) ?_)
    exact rMethW rfl st.ins rfl ⟨_, rfl, rd_ixT (j := 1) rfl hT rfl (rd_ixT (j := 2) rfl hT rfl ⟨⟨e, y, x, xs, lv, dn, m, f, fs, g, D, rfl, st, hf, sz, ho.2, q.cv fun _ h => h⟩⟩)⟩
  | ret v =>
    obtain ⟨a, x0, x1, rfl, hT, h0, h1⟩ := tp.tup2
    cases h0.strE; cases h1.intE
    refine r_ifF (pb_is (pb_evS (evs_ixT (j := 0) rfl hT rfl)) rfl) (r_ifF (pb_is (pb_evS (evs_ixT (j := 0) rfl hT rfl)) rfl) (r_ifT (pb_is (pb_evS (evs_ixT (j := 0) rfl hT rfl)) rfl) ?_))
    exact rMethW rfl st.ins rfl ⟨_, rfl, rd_ixT (j := 1) rfl hT rfl ⟨⟨e, y, x, xs, lv, dn, m, f, fs, v, rfl, st, hf, sz, hl, q.cv fun _ h => h⟩⟩⟩
  | flt z =>
    obtain ⟨a, x0, x1, x2, x3, rfl, hT, h0, _⟩ := Tp.tup4 (show Tp K H pv (.tuple [.str "fault", .int (z.k : Int), .int z.v, .tuple (z.tr.map .int)]) from tp)
    cases h0.strE
    refine r_ifF (pb_is (pb_evS (evs_ixT (j := 0) rfl hT rfl)) rfl) (r_ifF (pb_is (pb_evS (evs_ixT (j := 0) rfl hT rfl)) rfl) (r_ifF (pb_is (pb_evS (evs_ixT (j := 0) rfl hT rfl)) rfl) ?_))
    rw [show resTo e.code e.ks m f fs (.flt z) = doFly e.code e.ks m m.frs z from by rw [hf]; rfl] at q
    exact rMethW rfl st.ins rfl ⟨_, rfl, ⟨⟨e, y, x :: xs, lv, dn, m, _, z, rfl, st, tp, sz, hl, ho.1, ho.2.2, q.cv fun _ h => h⟩⟩⟩
  | met z => exact absurd rfl (hm z)
theorem rd_fr_init (T : MacT K CM CF) (vs : List V) (H : Hp) (Q : VK) (E : XK) (hh : spFrIni K CF vs H Q E) : t_Frame_init K { nx := fun _ H' => Q .non H', rt := Q } (start ["self", "number", "slots"] vs) H := by
  obtain ⟨c, dx, k, sa, rfl, hc, q⟩ := hh.ex
  refine ⟨_, rfl, _, rfl, c, CF, dx, _, rfl, hc, T.clF, T.number, (by show 0 < 1000; decide), ?_⟩
  have kp1 : Kp (fun x => x = c) H (L2.upd H c (.ins CF dx (putF "number" (.int (k : Int)) []))) := Kp.upd rfl
  have c1 : L2.upd H c (.ins CF dx (putF "number" (.int (k : Int)) [])) c = some (.ins CF dx [("number", .int (k : Int))]) := upd_same
  generalize L2.upd H c (.ins CF dx (putF "number" (.int (k : Int)) [])) = H1 at kp1 c1 ⊢
  refine ⟨_, rfl, _, rfl, c, CF, dx, _, rfl, c1, T.clF, T.slots, (by show 1 < 1000; decide), ?_⟩
  have kp2 : Kp (fun x => x = c) H (L2.upd H1 c (.ins CF dx (putF "slots" (.ref sa) [("number", .int (k : Int))]))) := kp1.trans (Kp.upd rfl)
  have c2 : L2.upd H1 c (.ins CF dx (putF "slots" (.ref sa) [("number", .int (k : Int))])) c = some (.ins CF dx [("number", .int (k : Int)), ("slots", .ref sa)]) := upd_same
  generalize L2.upd H1 c (.ins CF dx (putF "slots" (.ref sa) [("number", .int (k : Int))])) = H2 at kp2 c2 ⊢
  refine ⟨_, rfl, c, CF, dx, _, rfl, c2, T.clF, T.place, (by show 2 < 1000; decide), ?_⟩
  have kp3 : Kp (fun x => x = c) H (L2.upd H2 c (.ins CF dx (putF "place" (.int 0) [("number", .int (k : Int)), ("slots", .ref sa)]))) := kp2.trans (Kp.upd rfl)
  have c3 : L2.upd H2 c (.ins CF dx (putF "place" (.int 0) [("number", .int (k : Int)), ("slots", .ref sa)])) c = some (.ins CF dx [("number", .int (k : Int)), ("slots", .ref sa), ("place", .int 0)]) := upd_same
  generalize L2.upd H2 c (.ins CF dx (putF "place" (.int 0) [("number", .int (k : Int)), ("slots", .ref sa)])) = H3 at kp3 c3 ⊢
  refine ⟨(by show 0 ≤ sizeLine; decide), fun ka hka => ⟨_, rfl, c, CF, dx, _, rfl, by rw [upd_ne (ne_of_none c3 hka)]; exact c3, T.clF, T.stack, (by show 3 < 1000; decide), ?_⟩⟩
  have cka : c ≠ ka := ne_of_none c3 hka
  have hkaH : H ka = none := kp3.free hka (fun z => cka z.symm)
  have kp4 : Kp (fun x => x = c) H (L2.upd (L2.upd H3 ka (.lst [])) c (.ins CF dx (putF "stack" (.ref ka) [("number", .int (k : Int)), ("slots", .ref sa), ("place", .int 0)]))) := (kp3.trans (Kp.new hka)).trans (Kp.upd rfl)
  have c4 : L2.upd (L2.upd H3 ka (.lst [])) c (.ins CF dx (putF "stack" (.ref ka) [("number", .int (k : Int)), ("slots", .ref sa), ("place", .int 0)])) c = some (.ins CF dx [("number", .int (k : Int)), ("slots", .ref sa), ("place", .int 0), ("stack", .ref ka)]) := upd_same
  have k4 : L2.upd (L2.upd H3 ka (.lst [])) c (.ins CF dx (putF "stack" (.ref ka) [("number", .int (k : Int)), ("slots", .ref sa), ("place", .int 0)])) ka = some (.lst []) := by rw [upd_ne cka.symm, upd_same]
  generalize L2.upd (L2.upd H3 ka (.lst [])) c (.ins CF dx (putF "stack" (.ref ka) [("number", .int (k : Int)), ("slots", .ref sa), ("place", .int 0)])) = H4 at kp4 c4 k4 ⊢
  refine ⟨(by show 0 ≤ sizeLine; decide), fun ha hha => ⟨_, rfl, c, CF, dx, _, rfl, by rw [upd_ne (ne_of_none c4 hha)]; exact c4, T.clF, T.held, (by show 4 < 1000; decide), ?_⟩⟩
  have cha : c ≠ ha := ne_of_none c4 hha
  have hhaH : H ha = none := kp4.free hha (fun z => cha z.symm)
  have kha : ka ≠ ha := ne_of_none k4 hha
  exact q ka ha _ hkaH hhaH kha (by rw [upd_same]; rfl) (by rw [upd_ne cka.symm, upd_ne kha]; exact k4) (by rw [upd_ne cha.symm, upd_same]) ((kp4.trans (Kp.new hha)).trans (Kp.upd rfl))
theorem rd_mcall (T : MacT K CM CF) (vs : List V) (H : Hp) (Q : VK) (E : XK) (hh : spCallM K CM CF vs H Q E) : t_Machine_call K CF (spFrIni K CF) (spSlots K) { nx := fun _ H' => Q .non H', rt := Q } (start ["self", "frame", "row", "many", "numbers"] vs) H := by
  obtain ⟨e, y, x, xs, lv, dn, m, f, fs, rv, g, k, mk, rfl, st, hf, hrow, tr, hk, hk3, sz, hl, q⟩ := hh.ex
  obtain ⟨ra, rfl, hR⟩ := Rw.tup tr
  refine ⟨_, rfl, y.ma, CM, y.dx, _, _, rfl, st.ins, T.clM, T.left, rfl, _, _, rfl, rfl, _, rfl, y.ma, CM, y.dx, _, rfl, st.ins, T.clM, T.left, (by show 8 < 1000; decide), ?_⟩
  have st1 := st.fld (l := m.left - 1) (dn' := dn) (la := m.last) (lv' := lv) st.last
  have mv1 : Mv y (x :: xs) H (x :: xs) (L2.upd H y.ma (.ins CM y.dx (mcFs y (m.left - 1) e.dp dn lv))) := Mv.upd (by simp [foot])
  have tk1 := st.tk mv1
  have eput : putF "left" (.int (m.left - 1)) (mcFs y m.left e.dp dn lv) = mcFs y (m.left - 1) e.dp dn lv := rfl
  have es : step e.code e.ks e.dp m = if m.left - 1 < 0 then { m with left := m.left - 1, last := some .dry } else if fs.length + 1 = e.dp then { m with left := m.left - 1, last := some .deep } else { m with left := m.left - 1, frs := ⟨g, slotsFor (f.stk.drop (f.stk.length - k)), 0, [], []⟩ :: { f with stk := f.stk.take (f.stk.length - k) } :: fs } := by
    unfold step; rw [hf]; simp only [hrow]
  rw [es] at q
  rw [eput]
  generalize L2.upd H y.ma (.ins CM y.dx (mcFs y (m.left - 1) e.dp dn lv)) = H1 at st1 mv1 tk1 ⊢
  have hR1 := tk1.sqT hR
  refine ⟨_, rfl, y.ma, CM, y.dx, _, _, rfl, st1.ins, T.clM, T.left, rfl, _, _, rfl, rfl, _, rfl, ifB (fun h => ?_) fun h => ?_⟩
  · have h : m.left - 1 < 0 := of_decide_eq_true h
    rw [if_pos h] at q
    refine ⟨(by show 1 ≤ sizeLine; decide), fun p hp => ?_⟩
    have s2 : Same H1 (L2.upd H1 p (.tup [.str "dry"])) := Same.new hp
    have st2 := st1.same s2
    refine ⟨_, rfl, y.ma, CM, y.dx, _, rfl, st2.ins, T.clM, T.last, (by show 8 < 1000; decide), ?_⟩
    have st3 := st2.fld (l := m.left - 1) (dn' := dn) (la := some .dry) (lv' := .ref p) (Tp.mk hp (.cons (.str _) .nil))
    exact q.q _ _ _ st3 ((mv1.trans (Mv.same s2)).trans (Mv.upd (by simp [foot])))
  · have h : ¬ m.left - 1 < 0 := of_decide_eq_false h
    rw [if_neg h] at q
    have xl : xs.length = fs.length := by
      have : FrsAt K CF H1 (x :: xs) m.frs := st1.frs
      rw [hf] at this
      have := this.len
      simpa using this
    refine ⟨_, rfl, y.ma, CM, y.dx, _, _, rfl, st1.ins, T.clM, T.frames, rfl, y.fl, _, rfl, .inl (SqL.of st1.frl), _, rfl, y.ma, CM, y.dx, _, _, rfl, st1.ins, T.clM, T.deep, rfl, rfl, _, rfl, ifB (fun h2 => ?_) fun h2 => ?_⟩
    · have h2 := V.int.inj (of_decide_eq_true h2)
      have h2 : fs.length + 1 = e.dp := by
        have e1 : ((x :: xs).reverse.map fun x => V.ref x.fa).length = fs.length + 1 := by simp [xl]
        rw [e1] at h2
        omega
      rw [if_pos h2] at q
      refine ⟨(by show 1 ≤ sizeLine; decide), fun p hp => ?_⟩
      have s2 : Same H1 (L2.upd H1 p (.tup [.str "deep"])) := Same.new hp
      have st2 := st1.same s2
      refine ⟨_, rfl, y.ma, CM, y.dx, _, rfl, st2.ins, T.clM, T.last, (by show 8 < 1000; decide), ?_⟩
      have st3 := st2.fld (l := m.left - 1) (dn' := dn) (la := some .deep) (lv' := .ref p) (Tp.mk hp (.cons (.str _) .nil))
      exact q.q _ _ _ st3 ((mv1.trans (Mv.same s2)).trans (Mv.upd (by simp [foot])))
    · have h2 : ¬ fs.length + 1 = e.dp := fun z => by
        have e1 : ((x :: xs).reverse.map fun x => V.ref x.fa).length = fs.length + 1 := by simp [xl]
        rw [e1, z] at h2
        simp at h2
      rw [if_neg h2] at q
      have fr1 := st1.fr hf
      refine rd_ixT (j := 2) rfl hR1 rfl ?_
      have lk : ((f.stk.map V.int).length : Int) - (k : Int) = ((f.stk.length - k : Nat) : Int) := by rw [List.length_map]; omega
      refine ⟨_, rfl, x.fa, CF, x.dx, _, _, rfl, fr1.ins, T.clF, T.stack, rfl, _, rfl, x.fa, CF, x.dx, _, _, rfl, fr1.ins, T.clF, T.stack, rfl, x.ka, _, rfl, .inl (SqL.of fr1.stk), _, rfl, _, _, rfl, rfl, _, rfl, x.ka, _, rfl, SqL.of fr1.stk, fun p hp => ?_⟩
      have ec : cutV (f.stk.map V.int) (some (((f.stk.map V.int).length : Int) - (k : Int))) none = (f.stk.drop (f.stk.length - k)).map V.int := by
        rw [lk, cut_drop (by rw [List.length_map]; omega), List.map_drop]
      have ec2 : cutV (f.stk.map V.int) none (some (((f.stk.map V.int).length : Int) - (k : Int))) = (f.stk.take (f.stk.length - k)).map V.int := by
        rw [lk, cut_take (by omega), Int.toNat_natCast, List.map_take]
      rw [ec]
      have s2 : Same H1 (L2.upd H1 p (.lst ((f.stk.drop (f.stk.length - k)).map V.int))) := Same.new hp
      have hnum : L2.upd H1 p (.lst ((f.stk.drop (f.stk.length - k)).map V.int)) p = some (.lst ((f.stk.drop (f.stk.length - k)).map V.int)) := upd_same
      have st2 := st1.same s2
      have mv2 := mv1.trans (Mv.same (y := y) (xs := x :: xs) s2)
      have hpf : p ∉ foot y (x :: xs) := fun z => st1.at z hp
      have hR2 := s2.sqT hR1
      generalize L2.upd H1 p (.lst ((f.stk.drop (f.stk.length - k)).map V.int)) = H2 at s2 hnum st2 mv2 hR2 ⊢
      have fr2 := st2.fr hf
      refine ⟨_, rfl, x.fa, CF, x.dx, _, _, rfl, fr2.ins, T.clF, T.stack, rfl, _, rfl, x.fa, CF, x.dx, _, _, rfl, fr2.ins, T.clF, T.stack, rfl, x.ka, _, rfl, .inl (SqL.of fr2.stk), _, rfl, _, _, rfl, rfl, _, rfl, x.ka, _, rfl, SqL.of fr2.stk, fun p3 hp3 => ?_⟩
      refine ⟨_, rfl, x.fa, CF, x.dx, _, rfl, by rw [upd_ne (ne_of_none fr2.ins hp3)]; exact fr2.ins, T.clF, T.stack, (by show 5 < 1000; decide), ?_⟩
      rw [ec2, putF_stack (S := f.stk.take (f.stk.length - k))]
      obtain ⟨st3, mv3⟩ := st2.stkN (S := f.stk.take (f.stk.length - k)) (p := p3) hf hp3
      have tk3 := st2.tk mv3
      have hnum3 : L2.upd (L2.upd H2 p3 (.lst ((f.stk.take (f.stk.length - k)).map V.int))) x.fa (.ins CF x.dx (frFs { x with ka := p3 } { f with stk := f.stk.take (f.stk.length - k) })) p = some (.lst ((f.stk.drop (f.stk.length - k)).map V.int)) := mv3.k _ _ hnum hpf
      generalize L2.upd (L2.upd H2 p3 (.lst ((f.stk.take (f.stk.length - k)).map V.int))) x.fa (.ins CF x.dx (frFs { x with ka := p3 } { f with stk := f.stk.take (f.stk.length - k) })) = H3 at st3 mv3 tk3 hnum3 ⊢
      have hR3 := tk3.sqT hR2
      generalize hx1 : ({ x with ka := p3 } : FA) = x1 at st3 mv3
      refine ⟨_, rfl, y.ma, CM, y.dx, _, _, rfl, st3.ins, T.clM, T.frames, rfl, .inl ⟨rfl, _, SqL.of st3.frl⟩, rd_ixT (j := 1) rfl hR3 rfl ⟨_, rfl, p, f.stk.drop (f.stk.length - k), rfl, hnum3, by rw [List.length_drop]; omega, fun sa H4 hsa hsa4 s4 => fun c dx hc hdx cdx => ?_⟩⟩
      have st4 := st3.same s4
      have s5 : Same H4 (L2.upd (L2.upd H4 dx (.own c)) c (.ins CF dx [])) := fun b o eo => by rw [upd_ne (ne_of_none eo hc), upd_ne (ne_of_none eo hdx)]; exact eo
      have csa : c ≠ sa := fun z => by rw [z, hsa4] at hc; cases hc
      refine ⟨⟨c, dx, g, sa, rfl, upd_same, fun ka ha H6 hka hha kah h6 hk6 hh6 kp6 => ⟨rfl, ?_⟩⟩⟩
      have s6 : Same H4 H6 := fun b o eo => kp6 b o (s5 b o eo) (ne_of_none eo hc)
      have s36 := s4.trans s6
      have c3 : H3 c = none := s4.free hc
      have ka3 : H3 ka = none := s4.free (s5.free hka)
      have ha3 : H3 ha = none := s4.free (s5.free hha)
      have sa6 : H6 sa = some (.lst ((slotsFor (f.stk.drop (f.stk.length - k))).map V.int)) := s6 _ _ hsa4
      have dka : c ≠ ka := fun z => by rw [← z, upd_same] at hka; cases hka
      have dha : c ≠ ha := fun z => by rw [← z, upd_same] at hha; cases hha
      have ska : sa ≠ ka := fun z => by rw [← z, s5 _ _ hsa4] at hka; cases hka
      have sha : sa ≠ ha := fun z => by rw [← z, s5 _ _ hsa4] at hha; cases hha
      have st6 := st3.same s36
      refine ⟨y.fl, _, _, rfl, rfl, st6.frl, ?_, ?_⟩
      · have bl := sz.len; have bd := sz.dps
        rw [hf] at bl
        have : (x1 :: xs).length ≤ 1000 := by
          have : fs.length + 1 ≤ e.dp := bl
          simp [xl]; omega
        exact sz_lt1 (by simp at this ⊢; omega)
      obtain ⟨st7, mv7⟩ := st3.push (x := ⟨c, dx, sa, ka, ha⟩) (f := ⟨g, slotsFor (f.stk.drop (f.stk.length - k)), 0, [], []⟩) s36 ⟨h6, sa6, hk6, [], hh6, .nil⟩ (by
        intro a hz
        simp only [FA.own, List.mem_cons, List.not_mem_nil, or_false] at hz
        rcases hz with rfl | rfl | rfl | rfl
        · exact c3
        · exact hsa
        · exact ka3
        · exact ha3) (by
        simp only [FA.own, List.nodup_cons, List.mem_cons, List.not_mem_nil, or_false, not_or]
        exact ⟨⟨csa, dka, dha⟩, ⟨ska, sha⟩, kah, not_false, .nil⟩)
      exact q.q _ _ _ st7 ((mv2.trans mv3).trans mv7)
end
end Lp

/-! LmF: the machine's methods: leave, turn, plain, move. -/
namespace Lp
open PySem PySem.Spec PyProof.Rows L2
def t_Machine_turn (K : PySem.W.Frag) : TS :=
  tIfS (tTest (tOp rEq (tOp (rIxT K) (tVar 2) (tC (.int 0))) (tC (.str "turn")))) (tSeq (sFld K (tVar 0) (tOp rSbI (tFld K (tVar 0) "left") (tC (.int 1))) "left") (tSeq (tIfS (tTest (tOp rLt (tFld K (tVar 0) "left") (tC (.int 0)))) (sFld K (tVar 0) (tTup (tCons (tC (.str "dry")) (tNil))) "last") (tNext)) (sFld K (tVar 1) (tOp rAdI (tFld K (tVar 1) "place") (tC (.int 1))) "place"))) (tIfS (tOr (tTest (tOp rEq (tOp (rIxT K) (tVar 2) (tC (.int 0))) (tC (.str "go")))) (tTest (tOp rEq (tBM0 K "list" rPop (tFld K (tVar 1) "stack")) (tC (.int 0))))) (sFld K (tVar 1) (tOp (rIxT K) (tVar 2) (tC (.int 1))) "place") (sFld K (tVar 1) (tOp rAdI (tFld K (tVar 1) "place") (tC (.int 1))) "place"))

def t_Machine_plain (K : PySem.W.Frag) (sp_joined : Sp) : TS :=
  tSeq (tAsg (tOp (rIxT K) (tVar 2) (tC (.int 0))) (gName 3)) (tIfS (tTest (tOp rEq (tVar 3) (tC (.str "num")))) (tDrop (tBM K "list" rAppend (tFld K (tVar 1) "stack") (tCons (tOp (rIxT K) (tVar 2) (tC (.int 1))) (tNil)))) (tIfS (tTest (tOp rEq (tVar 3) (tC (.str "var")))) (tDrop (tBM K "list" rAppend (tFld K (tVar 1) "stack") (tCons (tOp (rIxL K) (tFld K (tVar 1) "slots") (tOp (rIxT K) (tVar 2) (tC (.int 1)))) (tNil)))) (tIfS (tTest (tOp rEq (tVar 3) (tC (.str "say")))) (tDrop (tBM K "list" rAppend (tFld K (tVar 0) "told") (tCons (tTup (tCons (tC (.str "say")) (tCons (tBM0 K "list" rPop (tFld K (tVar 1) "stack")) (tNil)))) (tNil)))) (tIfS (tTest (tOp rEq (tVar 3) (tC (.str "set")))) (tAsg (tBM0 K "list" rPop (tFld K (tVar 1) "stack")) (gSub (tFld K (tVar 1) "slots") (tOp (rIxT K) (tVar 2) (tC (.int 1))) rSetL)) (tIfS (tTest (tOp rEq (tVar 3) (tC (.str "handler")))) (tSeq (tAsg (tOp (rIxL K) (tFld K (tVar 1) "held") (tUn rNeg (tC (.int 1)))) (gName 4)) (tSeq (tDrop (tBM K "list" rAppend (tFld K (tVar 0) "told") (tCons (tTup (tCons (tC (.str "met")) (tCons (tOp (rIxT K) (tVar 4) (tC (.int 1))) (tCons (tOp (rIxT K) (tVar 4) (tC (.int 2))) (tCons (tOp (rIxT K) (tVar 4) (tC (.int 3))) (tNil)))))) (tNil)))) (tDrop (tBM K "list" rAppend (tFld K (tVar 1) "stack") (tCons (tOp (rIxT K) (tVar 4) (tC (.int 2))) (tNil)))))) (tIfS (tTest (tOp rEq (tVar 3) (tC (.str "settled")))) (tDrop (tBM0 K "list" rPop (tFld K (tVar 1) "held"))) (tIfS (tTest (tOp rEq (tVar 3) (tC (.str "mend")))) (tDrop (tBM K "list" rAppend (tFld K (tVar 1) "held") (tCons (tTup (tCons (tC (.str "on")) (tNil))) (tNil)))) (tIfS (tTest (tOp rNe (tVar 3) (tC (.str "cleanup")))) (tSeq (tAsg (tBM0 K "list" rPop (tFld K (tVar 1) "stack")) (gName 5)) (tSeq (tAsg (tBM0 K "list" rPop (tFld K (tVar 1) "stack")) (gName 6)) (tDrop (tBM K "list" rAppend (tFld K (tVar 1) "stack") (tCons (tCall sp_joined [] E0 (tCons (tVar 3) (tCons (tVar 6) (tCons (tVar 5) (tNil))))) (tNil)))))) (tNext)))))))))

def t_Machine_move (K : PySem.W.Frag) (C_Machine : Addr) (sp_Machine_leave : Sp) (sp_Machine_turn : Sp) (sp_Machine_plain : Sp) : TS :=
  tSeq (tAsg (tOp (rIxL K) (tFld K (tVar 0) "frames") (tUn rNeg (tC (.int 1)))) (gName 1)) (tSeq (tAsg (tOp (rIxT K) (tOp (rIxT K) (tOp (rIxT K) (tFld K (tVar 0) "code") (tFld K (tVar 1) "number")) (tC (.int 1))) (tFld K (tVar 1) "place")) (gName 2)) (tSeq (tAsg (tOp (rIxT K) (tVar 2) (tC (.int 0))) (gName 3)) (tIfS (tTest (tOp (rIn K false) (tVar 3) (tTup (tCons (tC (.str "leap")) (tCons (tC (.str "return")) (tCons (tC (.str "raise")) (tCons (tC (.str "again")) (tCons (tC (.str "resume")) (tCons (tC (.str "call")) (tNil)))))))))) (tDrop (tMeth C_Machine "leave" sp_Machine_leave [] E0 (tVar 0) (tCons (tVar 1) (tCons (tVar 2) (tNil))))) (tIfS (tTest (tOp (rIn K false) (tVar 3) (tTup (tCons (tC (.str "unless")) (tCons (tC (.str "go")) (tCons (tC (.str "turn")) (tNil))))))) (tDrop (tMeth C_Machine "turn" sp_Machine_turn [] E0 (tVar 0) (tCons (tVar 1) (tCons (tVar 2) (tNil))))) (tSeq (tDrop (tMeth C_Machine "plain" sp_Machine_plain [] E0 (tVar 0) (tCons (tVar 1) (tCons (tVar 2) (tNil))))) (sFld K (tVar 1) (tOp rAdI (tFld K (tVar 1) "place") (tC (.int 1))) "place"))))))

theorem Sz.top {e : ME} {m : Mc} {f f' : Fr} {fs : List Fr} (z : Sz e m) (hf : m.frs = f :: fs) (h : FrOk e.code.length e.ks.length 900000 900000 f') : Sz e { m with frs := f' :: fs } := by
  refine ⟨fun g hg => ?_, z.told, by have := z.len; rw [hf] at this; exact this, z.dps, fun g hg => z.call g (by rw [hf]; exact hg), z.wfk, z.ck⟩
  rcases List.mem_cons.mp hg with rfl | hg
  · exact h
  · exact z.frs g (by rw [hf]; exact List.mem_cons_of_mem _ hg)
theorem snoc_of {α : Type} {l : List α} (h : l ≠ []) : ∃ S v, l = S ++ [v] := ⟨l.dropLast, l.getLast h, (List.dropLast_concat_getLast h).symm⟩
theorem FrOk.stkD {nf nk n B : Nat} {f : Fr} {S : List Int} {v : Int} (h : FrOk nf nk n B f) (e : f.stk = S ++ [v]) : FrOk nf nk n B { f with stk := S } ∧ 0 ≤ v ∧ v < 10007 := by
  have h1 := h.stk
  have h2 := h.sl
  rw [e] at h1 h2
  refine ⟨⟨h.fn, h.inr, h.pc, fun w hw => h1 w (List.mem_append_left _ hw), ?_, h.held, h.hl⟩, h1 v (by simp)⟩
  simp at h2
  show S.length ≤ n
  omega
theorem FrOk.heldD {nf nk n B : Nat} {f : Fr} {S : List Hl} {v : Hl} (h : FrOk nf nk n B f) (e : f.held = S ++ [v]) : FrOk nf nk n B { f with held := S } ∧ HlOk nk B v := by
  have h1 := h.held
  have h2 := h.hl
  rw [e] at h1 h2
  refine ⟨⟨h.fn, h.inr, h.pc, h.stk, h.sl, fun w hw => h1 w (List.mem_append_left _ hw), ?_⟩, h1 v (by simp)⟩
  simp at h2
  show S.length ≤ n
  omega
theorem TpAll.snocE {K : PySem.W.Frag} {H : Hp} : ∀ {ds : List PyData} {d : PyData} {vs : List V}, TpAll K H vs (ds ++ [d]) → ∃ us u, vs = us ++ [u] ∧ TpAll K H us ds ∧ Tp K H u d
  | [], d, vs, h => by
    obtain ⟨v, r, rfl, h1, h2⟩ := TpAll.consE (show TpAll K H vs (d :: []) from h)
    rw [h2.nilE]
    exact ⟨[], v, rfl, .nil, h1⟩
  | d0 :: ds, d, vs, h => by
    obtain ⟨v, r, rfl, h1, h2⟩ := TpAll.consE (show TpAll K H vs (d0 :: (ds ++ [d])) from h)
    obtain ⟨us, u, rfl, h3, h4⟩ := h2.snocE
    exact ⟨v :: us, u, rfl, .cons h1 h3, h4⟩
def Hl.mt : Hl → List Flt
  | .met f => [f]
  | _ => []
theorem mets_take {held : List Hl} {i : Nat} {h : Hl} (e : held[i]? = some h) : metsOf (held.take (i + 1)) = metsOf (held.take i) ++ h.mt := by
  rw [List.take_add_one, e]
  unfold metsOf
  rw [List.filterMap_append]
  cases h <;> rfl
section
variable {K : PySem.W.Frag} {CM CF : Addr}
theorem rd_leave (T : MacT K CM CF) (vs : List V) (H : Hp) (Q : VK) (E : XK) (hh : spLeave K CM CF vs H Q E) : t_Machine_leave K CM (spLeap K CM CF) (spGive K CM CF) (spFly K CM CF) (spCallM K CM CF) (spRes K CM CF) { nx := fun _ H' => Q .non H', rt := Q } (start ["self", "frame", "row", "word", "met", "one"] vs) H := by
  obtain ⟨e, y, x, xs, lv, dn, m, f, fs, rv, r, rfl, st, hf, hrow, tr, leg, ro, sz, hl, isl, q⟩ := hh.ex
  obtain ⟨ra, rfl, hR⟩ := Rw.tup tr
  have fr := st.fr hf
  have fo := sz.fr hf
  cases r with
  | leap g D =>
    refine rd_ixT (j := 0) rfl hR rfl (r_ifT (pb_is (pb_eqS rfl) rfl) (rMethW rfl st.ins rfl ⟨_, rfl, rd_ixT (j := 1) rfl hR rfl (rd_ixT (j := 2) rfl hR rfl ?_)⟩))
    have es : step e.code e.ks e.dp m = doLeap e.code m f fs g D := by unfold step; rw [hf]; simp only [hrow]
    rw [es] at q
    exact ⟨⟨e, y, x, xs, lv, dn, m, f, fs, g, D, rfl, st, hf, sz, ro.2, q.cv fun _ h => h⟩⟩
  | ret =>
    refine rd_ixT (j := 0) rfl hR rfl (r_ifF (pb_is (pb_eqS rfl) rfl) (r_ifT (pb_is (pb_eqS rfl) rfl) (rMethW rfl st.ins rfl ⟨_, rfl, ?_⟩)))
    obtain ⟨S, v, hs⟩ := snoc_of (show f.stk ≠ [] from leg)
    have hk : H x.ka = some (.lst (S.map V.int ++ [V.int v])) := by have := fr.stk; rw [hs, List.map_append] at this; exact this
    refine ⟨_, rfl, x.fa, CF, x.dx, _, _, rfl, fr.ins, T.clF, T.stack, rfl, .inl ⟨rfl, _, SqL.of hk⟩, x.ka, _, .int v, rfl, rfl, hk, by simp, ?_⟩
    rw [List.dropLast_concat]
    obtain ⟨st1, mv1⟩ := st.stk (S := S) hf
    generalize L2.upd H x.ka (.lst (S.map V.int)) = H1 at st1 mv1 ⊢
    have es : step e.code e.ks e.dp m = doRet e.code { m with frs := { f with stk := S } :: fs } { f with stk := S } fs v := by
      rw [doRet_m]
      unfold step; rw [hf]; simp only [hrow]
      rw [hs, List.dropLast_concat, List.getLastD_concat]
    rw [es] at q
    exact ⟨⟨e, y, x, xs, lv, dn, _, _, fs, v, rfl, st1, rfl, sz.top hf (fo.stkD hs).1, hl, (q.behind mv1).cv fun _ h => h⟩⟩
  | rais kd mk =>
    refine rd_ixT (j := 0) rfl hR rfl (r_ifF (pb_is (pb_eqS rfl) rfl) (r_ifF (pb_is (pb_eqS rfl) rfl) (r_ifT (pb_is (pb_eqS rfl) rfl) (rMethW rfl st.ins rfl (rd_ixT (j := 1) (v := .int (kd : Int)) rfl hR rfl ?_)))))
    obtain ⟨S, v, hs⟩ := snoc_of (show f.stk ≠ [] from leg)
    have hk : H x.ka = some (.lst (S.map V.int ++ [V.int v])) := by have := fr.stk; rw [hs, List.map_append] at this; exact this
    refine ⟨_, rfl, x.fa, CF, x.dx, _, _, rfl, fr.ins, T.clF, T.stack, rfl, .inl ⟨rfl, _, SqL.of hk⟩, x.ka, _, .int v, rfl, rfl, hk, by simp, ?_⟩
    rw [List.dropLast_concat]
    obtain ⟨st1, mv1⟩ := st.stk (S := S) hf
    have tk1 := st.tk mv1
    generalize L2.upd H x.ka (.lst (S.map V.int)) = H1 at st1 mv1 tk1 ⊢
    refine rd_ixT (j := 2) (v := .int mk) rfl (tk1.sqT hR) rfl ⟨(by show 1 ≤ sizeLine; decide), fun p1 hp1 => ?_⟩
    have s2 : Same H1 (L2.upd H1 p1 (.tup [.int mk])) := Same.new hp1
    have t2 : L2.upd H1 p1 (.tup [.int mk]) p1 = some (.tup [.int mk]) := upd_same
    generalize L2.upd H1 p1 (.tup [.int mk]) = H2 at s2 t2 ⊢
    refine ⟨(by show 4 ≤ sizeLine; decide), fun p3 hp3 => ?_⟩
    have s3 : Same H2 (L2.upd H2 p3 (.tup [.str "fault", .int (kd : Int), .int v, .ref p1])) := Same.new hp3
    have es : step e.code e.ks e.dp m = doFly e.code e.ks { m with frs := { f with stk := S } :: fs } ({ f with stk := S } :: fs) ⟨kd, v, [mk]⟩ := by
      rw [doFly_m]
      unfold step; rw [hf]; simp only [hrow]
      rw [hs, List.dropLast_concat, List.getLastD_concat]
    rw [es] at q
    have s13 := s2.trans s3
    exact ⟨⟨e, y, x :: xs, lv, dn, _, _, ⟨kd, v, [mk]⟩, rfl, st1.same s13, .tup (SqT.of upd_same) (.cons (.str _) (.cons (.int _) (.cons (.int _) (.cons (.tup (SqT.of (s3 _ _ t2)) (.cons (.int _) .nil)) .nil)))), sz.top hf (fo.stkD hs).1, hl, ro, by show 1 ≤ 900000; decide, (q.behind (mv1.trans (Mv.same s13))).cv fun _ h => h⟩⟩
  | again =>
    refine rd_ixT (j := 0) rfl hR rfl (r_ifF (pb_is (pb_eqS rfl) rfl) (r_ifF (pb_is (pb_eqS rfl) rfl) (r_ifF (pb_is (pb_eqS rfl) rfl) (r_ifT (pb_is (pb_eqS rfl) rfl) ?_))))
    obtain ⟨us, hu, tu⟩ := fr.held
    refine ⟨_, rfl, x.fa, CF, x.dx, _, _, rfl, fr.ins, T.clF, T.held, rfl, x.ha, rfl, ⟨_, SqL.of hu⟩, fun D hD => lc_list (K := K) (a := x.ha) (xs := us) (fun i H' => ∃ acc, H' D = some (.lst acc) ∧ Same H H' ∧ TpAll K H acc ((metsOf (f.held.take i)).map fun z => (Hl.met z).d))
      ⟨[], upd_same, Same.new hD, .nil⟩ (fun i H' _ ⟨_, _, s, _⟩ => SqL.of (s _ _ hu)) ?_ ?_⟩
    · rintro i xv H' hx ⟨acc, hacc, s, tacc⟩
      obtain ⟨d, hd, tp⟩ := tu.get hx
      rw [List.getElem?_map] at hd
      cases hh : f.held[i]? with
      | none => rw [hh] at hd; cases hd
      | some h =>
        rw [hh] at hd
        cases hd
        have em := mets_take hh
        have skip : ∀ {w : Str} {l : List PyData}, h.d = .tuple (.str w :: l) → decide (V.str w = V.str "met") = false → h.mt = [] → (gName 5) xv (wipe [some (.ref y.ma), some (.ref x.fa), some (.ref ra), some (.str "again"), none, none] [5]) H' fun σ2 H2 => wipe σ2 [5] = wipe [some (.ref y.ma), some (.ref x.fa), some (.ref ra), some (.str "again"), none, none] [5] ∧ (tTest (tOp rEq (tOp (rIxT K) (tVar 5) (tC (.int 0))) (tC (.str "met")))) σ2 H2 fun b H3 =>
            if b = true then (tVar 5) σ2 H3 fun y H4 => ∃ acc, H4 D = some (.lst acc) ∧ acc.length < sizeLine ∧ (∃ acc', (upd H4 D (.lst (acc ++ [y]))) D = some (.lst acc') ∧ Same H (upd H4 D (.lst (acc ++ [y]))) ∧ TpAll K H acc' ((metsOf (f.held.take (i + 1))).map fun z => (Hl.met z).d)) else ∃ acc', H3 D = some (.lst acc') ∧ Same H H3 ∧ TpAll K H acc' ((metsOf (f.held.take (i + 1))).map fun z => (Hl.met z).d) := by
          intro w l ed ew en
          rw [ed] at tp
          obtain ⟨a, rs, rfl, hT, hA⟩ := tp.tupE
          obtain ⟨v0, r0, rfl, h0, _⟩ := hA.consE
          cases h0.strE
          refine ⟨rfl, pb_evS (evs_ixT (j := 0) rfl (s.sqT hT) rfl) _ ?_⟩
          refine ifF ew ⟨acc, hacc, s, ?_⟩
          rw [em, en, List.append_nil]
          exact tacc
        cases h with
        | on => exact skip rfl rfl rfl
        | leap g D => exact skip rfl rfl rfl
        | ret v => exact skip rfl rfl rfl
        | flt z => exact skip rfl rfl rfl
        | met z =>
          obtain ⟨a, rs, rfl, hT, hA⟩ := Tp.tupE (show Tp K H xv (.tuple (.str "met" :: z.tl)) from tp)
          obtain ⟨v0, r0, rfl, h0, _⟩ := hA.consE
          cases h0.strE
          refine ⟨rfl, pb_evS (evs_ixT (j := 0) rfl (s.sqT hT) rfl) _ ?_⟩
          have la : acc.length ≤ 900000 := by
            rw [tacc.length, List.length_map]
            have h1 : (metsOf (f.held.take i)).length ≤ (f.held.take i).length := List.length_filterMap_le _ _
            have h2 := fo.hl
            rw [List.length_take] at h1
            omega
          refine ifT rfl ⟨_, rfl, acc, hacc, sz_lt1 (by omega), acc ++ [.ref a], upd_same, fun b o eo => by rw [upd_ne (ne_of_none eo hD)]; exact s b o eo, ?_⟩
          rw [em, List.map_append]
          exact tacc.snoc tp
    · rintro H' ⟨acc, hacc, s, tacc⟩
      have e1 : f.held.take us.length = f.held := List.take_of_length_le (by rw [tu.length, List.length_map]; exact Nat.le_refl _)
      rw [e1] at tacc
      obtain ⟨L, z, hL⟩ := snoc_of (show metsOf f.held ≠ [] from leg)
      have hm : (metsOf f.held).getLast? = some z := by rw [hL]; simp
      rw [hL, List.map_append] at tacc
      obtain ⟨ub, u, rfl, _, tz⟩ := tacc.snocE
      obtain ⟨a, v0, v1, v2, v3, rfl, hT, h0, h1, h2, h3⟩ := Tp.tup4 (show Tp K H u (.tuple [.str "met", .int (z.k : Int), .int z.v, .tuple (z.tr.map .int)]) from tz)
      cases h1.intE; cases h2.intE
      refine rMethW rfl (s _ _ st.ins) rfl (rd_tail (a := a) (fun H' s' Q q => ⟨_, rfl, _, rfl, D, _, -1, _, rfl, rfl, SqL.of (s' _ _ hacc), atI_last _ _, q⟩) (s.sqT hT) fun p H2 s2 hp2 => ?_)
      have s12 := s.trans s2
      have es : step e.code e.ks e.dp m = doFly e.code e.ks m m.frs z := by
        unfold step; rw [hf]; simp only [hrow, hm]
      rw [es] at q
      have hz := fo.held _ (mets_mem hm)
      exact ⟨⟨e, y, x :: xs, lv, dn, m, _, z, rfl, st.same s12, .tup (SqT.of hp2) (.cons (.str _) (.cons (.int _) (.cons (.int _) (.cons (h3.mono (Tk.same s12)) .nil)))), sz, hl, hz.1, hz.2.2, (q.behind (Mv.same s12)).cv fun _ h => h⟩⟩
  | call g k mk =>
    refine rd_ixT (j := 0) rfl hR rfl (r_ifF (pb_is (pb_eqS rfl) rfl) (r_ifF (pb_is (pb_eqS rfl) rfl) (r_ifF (pb_is (pb_eqS rfl) rfl) (r_ifF (pb_is (pb_eqS rfl) rfl) (r_ifT (pb_is (pb_eqS rfl) rfl) ?_)))))
    exact rMethW rfl st.ins rfl ⟨_, rfl, _, rfl, ⟨⟨e, y, x, xs, lv, dn, m, f, fs, _, g, k, mk, rfl, st, hf, hrow, tr, leg, ro.2, sz, hl, q.cv fun _ h => h⟩⟩⟩
  | resume =>
    refine rd_ixT (j := 0) rfl hR rfl (r_ifF (pb_is (pb_eqS rfl) rfl) (r_ifF (pb_is (pb_eqS rfl) rfl) (r_ifF (pb_is (pb_eqS rfl) rfl) (r_ifF (pb_is (pb_eqS rfl) rfl) (r_ifF (pb_is (pb_eqS rfl) rfl) (rMethW rfl st.ins rfl ⟨_, rfl, ?_⟩))))))
    obtain ⟨us, hu, tu⟩ := fr.held
    obtain ⟨h, hlast, hnm⟩ : ∃ h, f.held.getLast? = some h ∧ ∀ flt, h ≠ .met flt := leg
    obtain ⟨B, h', hB⟩ := snoc_of (show f.held ≠ [] from fun z => by rw [z] at hlast; cases hlast)
    obtain rfl : h = h' := by rw [hB] at hlast; simpa using hlast.symm
    rw [hB, List.map_append] at tu
    obtain ⟨ub, u, rfl, tub, tz⟩ := tu.snocE
    refine ⟨_, rfl, x.fa, CF, x.dx, _, _, rfl, fr.ins, T.clF, T.held, rfl, .inl ⟨rfl, _, SqL.of hu⟩, x.ha, _, u, rfl, rfl, hu, by simp, ?_⟩
    rw [List.dropLast_concat]
    obtain ⟨st1, mv1⟩ := st.hold (us := ub) (B := B) hf tub
    have tk1 := st.tk mv1
    generalize L2.upd H x.ha (.lst ub) = H1 at st1 mv1 tk1 ⊢
    have es : step e.code e.ks e.dp m = resTo e.code e.ks { m with frs := { f with held := B } :: fs } { f with held := B } fs h := by
      unfold step; rw [hf]; simp only [hrow, hlast]
      rw [hB, List.dropLast_concat]
      cases h with
      | on => rfl
      | leap g D => exact doLeap_m.symm
      | ret v => exact doRet_m.symm
      | flt z => exact doFly_m.symm
      | met z => exact absurd rfl (hnm z)
    rw [es] at q
    obtain ⟨fo1, ho⟩ := fo.heldD hB
    exact ⟨⟨e, y, x, xs, lv, dn, _, _, fs, u, h, rfl, st1, rfl, tz.mono tk1, sz.top hf fo1, hl, hnm, ho, (q.behind mv1).cv fun _ h => h⟩⟩
  | _ => cases isl
end
end Lp

/-! LmG: the machine's methods: turn, plain, move. -/
namespace Lp
open PySem PySem.Spec PyProof.Rows L2
def isTurn : Rw → Bool
  | .unless _ => true
  | .go _ => true
  | .turn => true
  | _ => false
def plainTo (m : Mc) (f : Fr) (fs : List Fr) : Rw → Mc
  | .num n => { m with frs := { f with stk := f.stk ++ [n] } :: fs }
  | .var k => { m with frs := { f with stk := f.stk ++ [f.σ.getD k 0] } :: fs }
  | .op o => { m with frs := { f with stk := f.stk.dropLast.dropLast ++ [o.ap (f.stk.dropLast.getLastD 0) (f.stk.getLastD 0)] } :: fs }
  | .say => { m with told := m.told ++ [.say (f.stk.getLastD 0)], frs := { f with stk := f.stk.dropLast } :: fs }
  | .set k => { m with frs := { f with σ := f.σ.set k (f.stk.getLastD 0), stk := f.stk.dropLast } :: fs }
  | .hand _ _ _ _ => match f.held.getLast? with
    | some (.met flt) => { m with told := m.told ++ [.met flt], frs := { f with stk := f.stk ++ [flt.v] } :: fs }
    | _ => m
  | .settled => { m with frs := { f with held := f.held.dropLast } :: fs }
  | .mend => { m with frs := { f with held := f.held ++ [.on] } :: fs }
  | .cup _ _ _ => { m with frs := f :: fs }
  | _ => m
structure TurnP (K : PySem.W.Frag) (CM CF : Addr) (vs : List V) (H : Hp) (Q : VK) : Prop where
  ex : ∃ (e : ME) (y : MA) (x : FA) (xs : List FA) (lv : V) (dn : Int) (m : Mc) (f : Fr) (fs : List Fr) (rv : V) (r : Rw), vs = [.ref y.ma, .ref x.fa, rv] ∧ MSt K CM CF e H y (x :: xs) lv dn m ∧ m.frs = f :: fs ∧ rowAt e.code f = some r ∧ Tp K H rv r.d ∧ rowLegal f r ∧ m.last = none ∧ isTurn r = true ∧
    Then K CM CF e H y (x :: xs) dn (step e.code e.ks e.dp m) Q
def spTurn (K : PySem.W.Frag) (CM CF : Addr) : Sp := fun vs H Q _ => TurnP K CM CF vs H Q
structure PlainMP (K : PySem.W.Frag) (CM CF : Addr) (vs : List V) (H : Hp) (Q : VK) : Prop where
  ex : ∃ (e : ME) (y : MA) (x : FA) (xs : List FA) (lv : V) (dn : Int) (m : Mc) (f : Fr) (fs : List Fr) (rv : V) (r : Rw), vs = [.ref y.ma, .ref x.fa, rv] ∧ MSt K CM CF e H y (x :: xs) lv dn m ∧ m.frs = f :: fs ∧ Tp K H rv r.d ∧ rowLegal f r ∧ RwOk e.code.length e.ks.length r ∧ Sz e m ∧ isTurn r = false ∧ isLeave r = false ∧
    ∀ xs' lv' H', MSt K CM CF e H' y (x :: xs') lv' dn (plainTo m f fs r) → Mv y (x :: xs) H (x :: xs') H' → Q .non H'
def spPlainM (K : PySem.W.Frag) (CM CF : Addr) : Sp := fun vs H Q _ => PlainMP K CM CF vs H Q
structure MoveP (K : PySem.W.Frag) (CM CF : Addr) (vs : List V) (H : Hp) (Q : VK) : Prop where
  ex : ∃ (e : ME) (y : MA) (xs : List FA) (lv : V) (dn : Int) (m : Mc), vs = [.ref y.ma] ∧ MSt K CM CF e H y xs lv dn m ∧ Legal e.code m ∧ Sz e m ∧ m.last = none ∧
    Then K CM CF e H y xs dn (step e.code e.ks e.dp m) Q
def spMove (K : PySem.W.Frag) (CM CF : Addr) : Sp := fun vs H Q _ => MoveP K CM CF vs H Q
theorem op_ne (o : BOp) : decide (V.str o.s = V.str "num") = false ∧ decide (V.str o.s = V.str "var") = false ∧ decide (V.str o.s = V.str "say") = false ∧ decide (V.str o.s = V.str "set") = false ∧ decide (V.str o.s = V.str "handler") = false ∧ decide (V.str o.s = V.str "settled") = false ∧ decide (V.str o.s = V.str "mend") = false ∧ (!decide (V.str o.s = V.str "cleanup")) = true := by cases o <;> exact ⟨rfl, rfl, rfl, rfl, rfl, rfl, rfl, rfl⟩
section
variable {K : PySem.W.Frag} {CM CF : Addr}
theorem rd_mturn (T : MacT K CM CF) (vs : List V) (H : Hp) (Q : VK) (E : XK) (hh : spTurn K CM CF vs H Q E) : t_Machine_turn K { nx := fun _ H' => Q .non H', rt := Q } (start ["self", "frame", "row"] vs) H := by
  obtain ⟨e, y, x, xs, lv, dn, m, f, fs, rv, r, rfl, st, hf, hrow, tr, leg, hl, ist, q⟩ := hh.ex
  obtain ⟨ra, rfl, hR⟩ := Rw.tup tr
  have fr := st.fr hf
  cases r with
  | turn =>
    refine r_ifT (pb_is (pb_evS (evs_ixT (j := 0) (v := .str "turn") rfl hR rfl)) rfl) ?_
    have es : step e.code e.ks e.dp m = { m with left := m.left - 1, last := if m.left - 1 < 0 then some .dry else none, frs := { f with pc := f.pc + 1 } :: fs } := by unfold step; rw [hf]; simp only [hrow]
    rw [es] at q
    refine ⟨_, rfl, y.ma, CM, y.dx, _, _, rfl, st.ins, T.clM, T.left, rfl, _, _, rfl, rfl, _, rfl, y.ma, CM, y.dx, _, rfl, st.ins, T.clM, T.left, (by show 8 < 1000; decide), ?_⟩
    have st1 := st.fld (l := m.left - 1) (dn' := dn) (la := m.last) (lv' := lv) st.last
    have mv1 : Mv y (x :: xs) H (x :: xs) (L2.upd H y.ma (.ins CM y.dx (mcFs y (m.left - 1) e.dp dn lv))) := Mv.upd (by simp [foot])
    have eput : putF "left" (.int (m.left - 1)) (mcFs y m.left e.dp dn lv) = mcFs y (m.left - 1) e.dp dn lv := rfl
    rw [eput]
    generalize L2.upd H y.ma (.ins CM y.dx (mcFs y (m.left - 1) e.dp dn lv)) = H1 at st1 mv1 ⊢
    have pl : ∀ {lv2 : V} {la : Option Out} {H2 : Hp}, MSt K CM CF e H2 y (x :: xs) lv2 dn { m with left := m.left - 1, last := la } → Mv y (x :: xs) H (x :: xs) H2 → la = (if m.left - 1 < 0 then some .dry else none) → (sFld K (tVar 1) (tOp rAdI (tFld K (tVar 1) "place") (tC (.int 1))) "place") { nx := fun _ H' => Q .non H', rt := Q } [some (.ref y.ma), some (.ref x.fa), some (.ref ra)] H2 := by
      intro lv2 la H2 st2 mv2 ela
      have fr2 := st2.fr hf
      refine ⟨_, rfl, x.fa, CF, x.dx, _, _, rfl, fr2.ins, T.clF, T.place, rfl, _, _, rfl, rfl, _, rfl, x.fa, CF, x.dx, _, rfl, fr2.ins, T.clF, T.place, (by show 5 < 1000; decide), ?_⟩
      obtain ⟨st3, mv3⟩ := st2.place (q := f.pc + 1) hf
      subst ela
      exact q.q _ _ _ st3 (mv2.trans mv3)
    refine ⟨_, rfl, y.ma, CM, y.dx, _, _, rfl, st1.ins, T.clM, T.left, rfl, _, _, rfl, rfl, _, rfl, ifB (fun h => ?_) fun h => ?_⟩
    · have h : m.left - 1 < 0 := of_decide_eq_true h
      refine ⟨(by show 1 ≤ sizeLine; decide), fun p hp => ?_⟩
      have s2 : Same H1 (L2.upd H1 p (.tup [.str "dry"])) := Same.new hp
      have st2 := st1.same s2
      refine ⟨_, rfl, y.ma, CM, y.dx, _, rfl, st2.ins, T.clM, T.last, (by show 8 < 1000; decide), ?_⟩
      have st3 := st2.fld (l := m.left - 1) (dn' := dn) (la := some .dry) (lv' := .ref p) (Tp.mk hp (.cons (.str _) .nil))
      exact pl st3 ((mv1.trans (Mv.same s2)).trans (Mv.upd (by simp [foot]))) (by rw [if_pos h])
    · have h : ¬ m.left - 1 < 0 := of_decide_eq_false h
      exact pl (la := m.last) st1 mv1 (by rw [if_neg h]; exact hl)
  | go z =>
    refine r_ifF (pb_is (pb_evS (evs_ixT (j := 0) (v := .str "go") rfl hR rfl)) rfl) (r_ifT (pb_orT (pb_is (pb_evS (evs_ixT (j := 0) (v := .str "go") rfl hR rfl)) rfl)) (rd_ixT (j := 1) (v := .int z) rfl hR rfl ?_))
    refine ⟨_, rfl, x.fa, CF, x.dx, _, rfl, fr.ins, T.clF, T.place, (by show 5 < 1000; decide), ?_⟩
    obtain ⟨st3, mv3⟩ := st.place (q := z) hf
    have es : step e.code e.ks e.dp m = { m with frs := { f with pc := z } :: fs } := by unfold step; rw [hf]; simp only [hrow]
    rw [es] at q
    exact q.q _ _ _ st3 mv3
  | «unless» g =>
    obtain ⟨S, v, hs⟩ := snoc_of (show f.stk ≠ [] from leg)
    have hk : H x.ka = some (.lst (S.map V.int ++ [V.int v])) := by have := fr.stk; rw [hs, List.map_append] at this; exact this
    refine r_ifF (pb_is (pb_evS (evs_ixT (j := 0) (v := .str "unless") rfl hR rfl)) rfl) ?_
    refine pb_is (pb_evS (evs_ixT (j := 0) (v := .str "unless") rfl hR rfl)) (w := false) rfl _ (ifF rfl ?_)
    refine ⟨_, rfl, x.fa, CF, x.dx, _, _, rfl, fr.ins, T.clF, T.stack, rfl, .inl ⟨rfl, _, SqL.of hk⟩, x.ka, _, .int v, rfl, rfl, hk, by simp, ?_⟩
    rw [List.dropLast_concat]
    obtain ⟨st1, mv1⟩ := st.stk (S := S) hf
    have tk1 := st.tk mv1
    generalize L2.upd H x.ka (.lst (S.map V.int)) = H1 at st1 mv1 tk1 ⊢
    have fr1 := st1.fr rfl
    have es : step e.code e.ks e.dp m = if v = 0 then { m with frs := { f with stk := S, pc := g } :: fs } else { m with frs := { f with stk := S, pc := f.pc + 1 } :: fs } := by
      unfold step; rw [hf]; simp only [hrow]
      rw [hs, List.dropLast_concat, List.getLastD_concat]
    rw [es] at q
    refine ⟨rfl, _, rfl, ifB (fun h => ?_) fun h => ?_⟩
    · have h : v = 0 := V.int.inj (of_decide_eq_true h)
      rw [if_pos h] at q
      refine rd_ixT (j := 1) (v := .int g) rfl (tk1.sqT hR) rfl ⟨_, rfl, x.fa, CF, x.dx, _, rfl, fr1.ins, T.clF, T.place, (by show 5 < 1000; decide), ?_⟩
      obtain ⟨st3, mv3⟩ := st1.place (q := g) rfl
      exact q.q _ _ _ st3 (mv1.trans mv3)
    · have h : ¬ v = 0 := fun z => of_decide_eq_false h (by rw [z])
      rw [if_neg h] at q
      refine ⟨_, rfl, x.fa, CF, x.dx, _, _, rfl, fr1.ins, T.clF, T.place, rfl, _, _, rfl, rfl, _, rfl, x.fa, CF, x.dx, _, rfl, fr1.ins, T.clF, T.place, (by show 5 < 1000; decide), ?_⟩
      obtain ⟨st3, mv3⟩ := st1.place (q := f.pc + 1) rfl
      exact q.q _ _ _ st3 (mv1.trans mv3)
  | _ => cases ist
theorem rd_plainM (T : MacT K CM CF) (vs : List V) (H : Hp) (Q : VK) (E : XK) (hh : spPlainM K CM CF vs H Q E) : t_Machine_plain K spJoined { nx := fun _ H' => Q .non H', rt := Q } (start ["self", "frame", "row", "word", "fault", "two", "one"] vs) H := by
  obtain ⟨e, y, x, xs, lv, dn, m, f, fs, rv, r, rfl, st, hf, tr, leg, ro, sz, nt, nl, q⟩ := hh.ex
  obtain ⟨ra, rfl, hR⟩ := Rw.tup tr
  have fr := st.fr hf
  have fo := sz.fr hf
  have sl := fo.sl
  have hl := fo.hl
  have push : ∀ (n : Int) (Q' : Prop), (∀ H', MSt K CM CF e H' y (x :: xs) lv dn { m with frs := { f with stk := f.stk ++ [n] } :: fs } → Mv y (x :: xs) H (x :: xs) H' → H' = L2.upd H x.ka (.lst (f.stk.map V.int ++ [V.int n])) → Q') → Q' := by
    intro n Q' k
    obtain ⟨st1, mv1⟩ := st.stk (S := f.stk ++ [n]) hf
    rw [show (f.stk ++ [n]).map V.int = f.stk.map V.int ++ [V.int n] from by simp] at st1 mv1
    exact k _ st1 mv1 rfl
  cases r with
  | num n =>
    refine rd_ixT (j := 0) (v := .str "num") rfl hR rfl (r_ifT (pb_is (pb_eqS rfl) rfl) ?_)
    refine ⟨_, rfl, x.fa, CF, x.dx, _, _, rfl, fr.ins, T.clF, T.stack, rfl, .inl ⟨rfl, _, SqL.of fr.stk⟩, rd_ixT (j := 1) (v := .int n) rfl hR rfl ⟨x.ka, _, _, rfl, rfl, fr.stk, sz_lt1 (by rw [List.length_map]; omega), ?_⟩⟩
    exact push n _ fun H' s k e => by subst e; exact q _ _ _ s k
  | var k =>
    refine rd_ixT (j := 0) (v := .str "var") rfl hR rfl (r_ifF (pb_is (pb_eqS rfl) rfl) (r_ifT (pb_is (pb_eqS rfl) rfl) ?_))
    refine ⟨_, rfl, x.fa, CF, x.dx, _, _, rfl, fr.ins, T.clF, T.stack, rfl, .inl ⟨rfl, _, SqL.of fr.stk⟩, _, rfl, x.fa, CF, x.dx, _, _, rfl, fr.ins, T.clF, T.slots, rfl, rd_ixT (j := 1) (v := .int (k : Int)) rfl hR rfl ⟨x.sa, _, (k : Int), _, rfl, rfl, SqL.of fr.slo, atI_nat (slot_get fo.inr ro), x.ka, _, _, rfl, rfl, fr.stk, sz_lt1 (by rw [List.length_map]; omega), ?_⟩⟩
    exact push (f.σ.getD k 0) _ fun H' s k e => by subst e; exact q _ _ _ s k
  | op o =>
    obtain ⟨n1, n2, n3, n4, n5, n6, n7, n8⟩ := op_ne o
    have leg : 2 ≤ f.stk.length := leg
    obtain ⟨S1, b, hs1⟩ := snoc_of (show f.stk ≠ [] from fun z => by rw [z] at leg; simp at leg)
    obtain ⟨S, a, hs2⟩ := snoc_of (show S1 ≠ [] from fun z => by rw [hs1, z] at leg; simp at leg)
    have hs : f.stk = S ++ [a] ++ [b] := by rw [hs1, hs2]
    have fa := (fo.stkD hs)
    have fb := FrOk.stkD (v := a) (S := S) fa.1 rfl
    have hk : H x.ka = some (.lst (S.map V.int ++ [V.int a] ++ [V.int b])) := by have := fr.stk; rw [hs] at this; simp only [List.map_append, List.map_cons, List.map_nil] at this; exact this
    refine rd_ixT (j := 0) (v := .str o.s) rfl hR rfl (r_ifF (pb_is (pb_eqS rfl) n1) (r_ifF (pb_is (pb_eqS rfl) n2) (r_ifF (pb_is (pb_eqS rfl) n3) (r_ifF (pb_is (pb_eqS rfl) n4) (r_ifF (pb_is (pb_eqS rfl) n5) (r_ifF (pb_is (pb_eqS rfl) n6) (r_ifF (pb_is (pb_eqS rfl) n7) (r_ifT (pb_is (pb_neS rfl) n8) ?_))))))))
    refine ⟨_, rfl, x.fa, CF, x.dx, _, _, rfl, fr.ins, T.clF, T.stack, rfl, .inl ⟨rfl, _, SqL.of hk⟩, x.ka, _, .int b, rfl, rfl, hk, by simp, ?_⟩
    rw [List.dropLast_concat]
    obtain ⟨st1, mv1⟩ := st.stk (S := S ++ [a]) hf
    rw [show (S ++ [a]).map V.int = S.map V.int ++ [V.int a] from by simp] at st1 mv1
    have hk1 : L2.upd H x.ka (.lst (S.map V.int ++ [V.int a])) x.ka = some (.lst (S.map V.int ++ [V.int a])) := upd_same
    generalize L2.upd H x.ka (.lst (S.map V.int ++ [V.int a])) = H1 at st1 mv1 hk1 ⊢
    have fr1 := st1.fr rfl
    refine ⟨_, rfl, x.fa, CF, x.dx, _, _, rfl, fr1.ins, T.clF, T.stack, rfl, .inl ⟨rfl, _, SqL.of hk1⟩, x.ka, _, .int a, rfl, rfl, hk1, by simp, ?_⟩
    rw [List.dropLast_concat]
    obtain ⟨st2, mv2⟩ := st1.stk (S := S) rfl
    have hk2 : L2.upd H1 x.ka (.lst (S.map V.int)) x.ka = some (.lst (S.map V.int)) := upd_same
    generalize L2.upd H1 x.ka (.lst (S.map V.int)) = H2 at st2 mv2 hk2 ⊢
    have fr2 := st2.fr rfl
    refine ⟨_, rfl, x.fa, CF, x.dx, _, _, rfl, fr2.ins, T.clF, T.stack, rfl, .inl ⟨rfl, _, SqL.of hk2⟩, _, rfl, _, rfl, _, rfl, o, a, b, rfl, fb.2.1, fb.2.2, fa.2.1, fa.2.2, x.ka, _, _, rfl, rfl, hk2, sz_lt1 (by rw [List.length_map]; rw [hs] at sl; simp at sl; omega), ?_⟩
    obtain ⟨st3, mv3⟩ := st2.stk (S := S ++ [o.ap a b]) rfl
    rw [show (S ++ [o.ap a b]).map V.int = S.map V.int ++ [V.int (o.ap a b)] from by simp] at st3 mv3
    have ep : plainTo m f fs (.op o) = { m with frs := { f with stk := S ++ [o.ap a b] } :: fs } := by
      unfold plainTo
      rw [hs]; simp
    rw [ep] at q
    exact q _ _ _ st3 (mv1.trans (mv2.trans mv3))
  | say =>
    obtain ⟨S, v, hs⟩ := snoc_of (show f.stk ≠ [] from leg)
    have hk : H x.ka = some (.lst (S.map V.int ++ [V.int v])) := by have := fr.stk; rw [hs, List.map_append] at this; exact this
    refine rd_ixT (j := 0) (v := .str "say") rfl hR rfl (r_ifF (pb_is (pb_eqS rfl) rfl) (r_ifF (pb_is (pb_eqS rfl) rfl) (r_ifT (pb_is (pb_eqS rfl) rfl) ?_)))
    obtain ⟨ut, hut, _⟩ := st.told
    refine ⟨_, rfl, y.ma, CM, y.dx, _, _, rfl, st.ins, T.clM, T.told, rfl, .inl ⟨rfl, _, SqL.of hut⟩, _, rfl, x.fa, CF, x.dx, _, _, rfl, fr.ins, T.clF, T.stack, rfl, .inl ⟨rfl, _, SqL.of hk⟩, x.ka, _, .int v, rfl, rfl, hk, by simp, ?_⟩
    rw [List.dropLast_concat]
    obtain ⟨st1, mv1⟩ := st.stk (S := S) hf
    generalize L2.upd H x.ka (.lst (S.map V.int)) = H1 at st1 mv1 ⊢
    refine ⟨(by show 2 ≤ sizeLine; decide), fun p hp => ?_⟩
    have s2 : Same H1 (L2.upd H1 p (.tup [.str "say", .int v])) := Same.new hp
    have st2 := st1.same s2
    obtain ⟨us2, hu2, lu2, st3⟩ := st2.tell (ev := .say v) (Tp.mk hp (.cons (.str _) (.cons (.int _) .nil)))
    refine ⟨y.tl, us2, _, rfl, rfl, hu2, sz_lt1 (by rw [lu2]; have := sz.told; show m.told.length < 1000000; omega), ?_⟩
    have ep : plainTo m f fs .say = { m with told := m.told ++ [.say v], frs := { f with stk := S } :: fs } := by
      unfold plainTo
      rw [hs]; simp
    rw [ep] at q
    exact q _ _ _ st3 ((mv1.trans (Mv.same s2)).trans (Mv.upd (by simp [foot])))
  | set k =>
    obtain ⟨S, v, hs⟩ := snoc_of (show f.stk ≠ [] from leg)
    have hk : H x.ka = some (.lst (S.map V.int ++ [V.int v])) := by have := fr.stk; rw [hs, List.map_append] at this; exact this
    refine rd_ixT (j := 0) (v := .str "set") rfl hR rfl (r_ifF (pb_is (pb_eqS rfl) rfl) (r_ifF (pb_is (pb_eqS rfl) rfl) (r_ifF (pb_is (pb_eqS rfl) rfl) (r_ifT (pb_is (pb_eqS rfl) rfl) ?_))))
    refine ⟨_, rfl, x.fa, CF, x.dx, _, _, rfl, fr.ins, T.clF, T.stack, rfl, .inl ⟨rfl, _, SqL.of hk⟩, x.ka, _, .int v, rfl, rfl, hk, by simp, ?_⟩
    rw [List.dropLast_concat]
    obtain ⟨st1, mv1⟩ := st.stk (S := S) hf
    have tk1 := st.tk mv1
    generalize L2.upd H x.ka (.lst (S.map V.int)) = H1 at st1 mv1 tk1 ⊢
    have fr1 := st1.fr rfl
    refine ⟨_, rfl, x.fa, CF, x.dx, _, _, rfl, fr1.ins, T.clF, T.slots, rfl, rd_ixT (j := 1) (v := .int (k : Int)) rfl (tk1.sqT hR) rfl ⟨x.sa, _, (k : Int), k, rfl, rfl, fr1.slo, ixN_n (by rw [List.length_map]; have h8 := fo.inr.1; have : k < 8 := ro; show k < f.σ.length; omega), ?_⟩⟩
    obtain ⟨st2, mv2⟩ := st1.slo (σ := f.σ.set k v) rfl
    rw [List.map_set] at st2 mv2
    have ep : plainTo m f fs (.set k) = { m with frs := { f with σ := f.σ.set k v, stk := S } :: fs } := by
      unfold plainTo
      rw [hs]; simp
    rw [ep] at q
    exact q _ _ _ st2 (mv1.trans mv2)
  | hand b z kd D =>
    obtain ⟨flt, hlast⟩ : ∃ flt, f.held.getLast? = some (.met flt) := leg
    obtain ⟨B, h', hB⟩ := snoc_of (show f.held ≠ [] from fun z => by rw [z] at hlast; cases hlast)
    obtain rfl : Hl.met flt = h' := by rw [hB] at hlast; simpa using hlast.symm
    obtain ⟨us, hu, tu⟩ := fr.held
    rw [hB, List.map_append] at tu
    obtain ⟨ub, u, rfl, tub, tz⟩ := tu.snocE
    obtain ⟨a, v0, v1, v2, v3, rfl, hT, h0, h1, h2, h3⟩ := Tp.tup4 (show Tp K H u (.tuple [.str "met", .int (flt.k : Int), .int flt.v, .tuple (flt.tr.map .int)]) from tz)
    cases h0.strE; cases h1.intE; cases h2.intE
    refine rd_ixT (j := 0) (v := .str "handler") rfl hR rfl (r_ifF (pb_is (pb_eqS rfl) rfl) (r_ifF (pb_is (pb_eqS rfl) rfl) (r_ifF (pb_is (pb_eqS rfl) rfl) (r_ifF (pb_is (pb_eqS rfl) rfl) (r_ifT (pb_is (pb_eqS rfl) rfl) ?_)))))
    obtain ⟨ut, hut, _⟩ := st.told
    refine ⟨_, rfl, x.fa, CF, x.dx, _, _, rfl, fr.ins, T.clF, T.held, rfl, _, rfl, x.ha, _, -1, _, rfl, rfl, SqL.of hu, atI_last _ _, ?_⟩
    refine ⟨_, rfl, y.ma, CM, y.dx, _, _, rfl, st.ins, T.clM, T.told, rfl, .inl ⟨rfl, _, SqL.of hut⟩, rd_ixT (j := 1) rfl hT rfl (rd_ixT (j := 2) rfl hT rfl (rd_ixT (j := 3) rfl hT rfl ⟨(by show 4 ≤ sizeLine; decide), fun p hp => ?_⟩))⟩
    have s2 : Same H (L2.upd H p (.tup [.str "met", .int (flt.k : Int), .int flt.v, v3])) := Same.new hp
    have st2 := st.same s2
    obtain ⟨us2, hu2, lu2, st3⟩ := st2.tell (ev := .met flt) (Tp.mk hp (.cons (.str _) (.cons (.int _) (.cons (.int _) (.cons h3 .nil)))))
    refine ⟨y.tl, us2, _, rfl, rfl, hu2, sz_lt1 (by rw [lu2]; have := sz.told; omega), ?_⟩
    have mv3 : Mv y (x :: xs) H (x :: xs) (L2.upd (L2.upd H p (.tup [.str "met", .int (flt.k : Int), .int flt.v, v3])) y.tl (.lst (us2 ++ [.ref p]))) := (Mv.same s2).trans (Mv.upd (by simp [foot]))
    have tk3 := st.tk mv3
    generalize L2.upd (L2.upd H p (.tup [.str "met", .int (flt.k : Int), .int flt.v, v3])) y.tl (.lst (us2 ++ [.ref p])) = H3 at st3 mv3 tk3 ⊢
    have fr3 := st3.fr hf
    refine ⟨_, rfl, x.fa, CF, x.dx, _, _, rfl, fr3.ins, T.clF, T.stack, rfl, .inl ⟨rfl, _, SqL.of fr3.stk⟩, rd_ixT (j := 2) rfl (tk3.sqT hT) rfl ⟨x.ka, _, _, rfl, rfl, fr3.stk, sz_lt1 (by rw [List.length_map]; omega), ?_⟩⟩
    obtain ⟨st4, mv4⟩ := st3.stk (S := f.stk ++ [flt.v]) hf
    rw [show (f.stk ++ [flt.v]).map V.int = f.stk.map V.int ++ [V.int flt.v] from by simp] at st4 mv4
    have ep : plainTo m f fs (.hand b z kd D) = { m with told := m.told ++ [.met flt], frs := { f with stk := f.stk ++ [flt.v] } :: fs } := by
      unfold plainTo
      rw [hlast]
    rw [ep] at q
    exact q _ _ _ st4 (mv3.trans mv4)
  | settled =>
    obtain ⟨B, h', hB⟩ := snoc_of (show f.held ≠ [] from leg)
    obtain ⟨us, hu, tu⟩ := fr.held
    rw [hB, List.map_append] at tu
    obtain ⟨ub, u, rfl, tub, tz⟩ := tu.snocE
    refine rd_ixT (j := 0) (v := .str "settled") rfl hR rfl (r_ifF (pb_is (pb_eqS rfl) rfl) (r_ifF (pb_is (pb_eqS rfl) rfl) (r_ifF (pb_is (pb_eqS rfl) rfl) (r_ifF (pb_is (pb_eqS rfl) rfl) (r_ifF (pb_is (pb_eqS rfl) rfl) (r_ifT (pb_is (pb_eqS rfl) rfl) ?_))))))
    refine ⟨_, rfl, x.fa, CF, x.dx, _, _, rfl, fr.ins, T.clF, T.held, rfl, .inl ⟨rfl, _, SqL.of hu⟩, x.ha, _, u, rfl, rfl, hu, by simp, ?_⟩
    rw [List.dropLast_concat]
    obtain ⟨st1, mv1⟩ := st.hold (us := ub) (B := B) hf tub
    have ep : plainTo m f fs .settled = { m with frs := { f with held := B } :: fs } := by
      unfold plainTo
      rw [hB]; simp
    rw [ep] at q
    exact q _ _ _ st1 mv1
  | mend =>
    obtain ⟨us, hu, tu⟩ := fr.held
    refine rd_ixT (j := 0) (v := .str "mend") rfl hR rfl (r_ifF (pb_is (pb_eqS rfl) rfl) (r_ifF (pb_is (pb_eqS rfl) rfl) (r_ifF (pb_is (pb_eqS rfl) rfl) (r_ifF (pb_is (pb_eqS rfl) rfl) (r_ifF (pb_is (pb_eqS rfl) rfl) (r_ifF (pb_is (pb_eqS rfl) rfl) (r_ifT (pb_is (pb_eqS rfl) rfl) ?_)))))))
    refine ⟨_, rfl, x.fa, CF, x.dx, _, _, rfl, fr.ins, T.clF, T.held, rfl, .inl ⟨rfl, _, SqL.of hu⟩, (by show 1 ≤ sizeLine; decide), fun p hp => ?_⟩
    have s2 : Same H (L2.upd H p (.tup [.str "on"])) := Same.new hp
    have st2 := st.same s2
    have th : Tp K (L2.upd H p (.tup [.str "on"])) (.ref p) Hl.on.d := Tp.mk hp (.cons (.str _) .nil)
    generalize L2.upd H p (.tup [.str "on"]) = H2 at s2 st2 th ⊢
    refine ⟨x.ha, us, _, rfl, rfl, s2 _ _ hu, sz_lt1 (by rw [tu.length, List.length_map]; omega), ?_⟩
    obtain ⟨st3, mv3⟩ := st2.hold (us := us ++ [.ref p]) (B := f.held ++ [.on]) hf (by rw [List.map_append]; exact (tu.mono (Tk.same s2)).snoc th)
    exact q _ _ _ st3 ((Mv.same s2).trans mv3)
  | cup b z D =>
    refine rd_ixT (j := 0) (v := .str "cleanup") rfl hR rfl (r_ifF (pb_is (pb_eqS rfl) rfl) (r_ifF (pb_is (pb_eqS rfl) rfl) (r_ifF (pb_is (pb_eqS rfl) rfl) (r_ifF (pb_is (pb_eqS rfl) rfl) (r_ifF (pb_is (pb_eqS rfl) rfl) (r_ifF (pb_is (pb_eqS rfl) rfl) (r_ifF (pb_is (pb_eqS rfl) rfl) (r_ifF (pb_is (pb_neS rfl) rfl) ?_))))))))
    have ep : plainTo m f fs (.cup b z D) = m := by
      unfold plainTo
      rw [← hf]
    rw [ep] at q
    exact q _ _ _ st (Mv.refl _ _ _)
  | «unless» _ => cases nt
  | go _ => cases nt
  | turn => cases nt
  | leap _ _ => cases nl
  | ret => cases nl
  | rais _ _ => cases nl
  | again => cases nl
  | call _ _ _ => cases nl
  | resume => cases nl
theorem plain_step {e : ME} {m : Mc} {f : Fr} {fs : List Fr} {r : Rw} (hf : m.frs = f :: fs) (hrow : rowAt e.code f = some r) (leg : rowLegal f r) (nt : isTurn r = false) (nl : isLeave r = false) :
    ∃ f1, (plainTo m f fs r).frs = f1 :: fs ∧ step e.code e.ks e.dp m = { plainTo m f fs r with frs := { f1 with pc := f1.pc + 1 } :: fs } := by
  unfold step
  rw [hf]
  cases r with
  | hand b z kd D =>
    obtain ⟨flt, hlast⟩ : ∃ flt, f.held.getLast? = some (.met flt) := leg
    simp only [hrow, plainTo, hlast]
    exact ⟨_, rfl, rfl⟩
  | «unless» _ => cases nt
  | go _ => cases nt
  | turn => cases nt
  | leap _ _ => cases nl
  | ret => cases nl
  | rais _ _ => cases nl
  | again => cases nl
  | call _ _ _ => cases nl
  | resume => cases nl
  | _ =>
    simp only [hrow, plainTo]
    exact ⟨_, rfl, rfl⟩
def Rw.w (r : Rw) : Str := match r.vs with
  | .str x :: _ => x
  | _ => ""
theorem Rw.w_at (r : Rw) : r.vs[0]? = some (.str r.w) := by cases r <;> first | rfl | (rename_i o; cases o <;> rfl)
theorem Rw.inL (r : Rw) : inV (.str r.w) [.str "leap", .str "return", .str "raise", .str "again", .str "resume", .str "call"] = isLeave r := by cases r <;> first | rfl | (rename_i o; cases o <;> rfl)
theorem Rw.inT (r : Rw) : inV (.str r.w) [.str "unless", .str "go", .str "turn"] = isTurn r := by cases r <;> first | rfl | (rename_i o; cases o <;> rfl)
theorem rd_move (T : MacT K CM CF) (vs : List V) (H : Hp) (Q : VK) (E : XK) (hh : spMove K CM CF vs H Q E) : t_Machine_move K CM (spLeave K CM CF) (spTurn K CM CF) (spPlainM K CM CF) { nx := fun _ H' => Q .non H', rt := Q } (start ["self", "frame", "row", "word"] vs) H := by
  obtain ⟨e, y, xs0, lv, dn, m, rfl, st, ⟨f, fs, r, hf, hrow, leg⟩, sz, hl, q⟩ := hh.ex
  obtain ⟨x, xs, rfl⟩ : ∃ x xs, xs0 = x :: xs := by
    have := st.frs
    rw [hf] at this
    cases this; exact ⟨_, _, rfl⟩
  have fr := st.fr hf
  have fo := sz.fr hf
  have ro : RwOk e.code.length e.ks.length r := by
    unfold rowAt at hrow
    cases hc : e.code[f.fn]? with
    | none => rw [hc] at hrow; cases hrow
    | some c => rw [hc] at hrow; exact sz.ck c (List.mem_of_getElem? hc) r (List.mem_of_getElem? hrow)
  refine rd_lastF T st (i := 0) rfl (Q := fun v H1 => gName 1 v _ H1 _) ?_
  refine rd_rw T st (i := 0) (j := 1) rfl rfl fr.ins hrow fo.pc (Q := fun v H1 => gName 2 v _ H1 _) fun rv tr => ?_
  obtain ⟨ra, rfl, hR⟩ := Rw.tup tr
  refine rd_ixT (j := 0) rfl hR r.w_at ?_
  refine ⟨_, rfl, (by show 6 ≤ sizeLine; decide), fun p1 hp1 => ?_⟩
  have s1 : Same H (L2.upd H p1 (.tup [.str "leap", .str "return", .str "raise", .str "again", .str "resume", .str "call"])) := Same.new hp1
  refine ⟨p1, _, rfl, .inr (SqT.of upd_same), rfl, rfl, _, rfl, ?_⟩
  rw [if_neg (by decide), Rw.inL]
  have st1 := st.same s1
  have mv1 : Mv y (x :: xs) H (x :: xs) (L2.upd H p1 (.tup [.str "leap", .str "return", .str "raise", .str "again", .str "resume", .str "call"])) := Mv.same s1
  have tr1 := tr.mono (Tk.same s1)
  generalize L2.upd H p1 (.tup [.str "leap", .str "return", .str "raise", .str "again", .str "resume", .str "call"]) = H1 at st1 mv1 tr1 ⊢
  refine ifB (fun hL => ?_) fun hL => ?_
  · exact rMethW rfl st1.ins rfl ⟨_, rfl, _, rfl, ⟨⟨e, y, x, xs, lv, dn, m, f, fs, _, r, rfl, st1, hf, hrow, tr1, leg, ro, sz, hl, hL, (q.behind mv1).cv fun _ h => h⟩⟩⟩
  refine ⟨_, rfl, (by show 3 ≤ sizeLine; decide), fun p2 hp2 => ?_⟩
  have s2 : Same H1 (L2.upd H1 p2 (.tup [.str "unless", .str "go", .str "turn"])) := Same.new hp2
  refine ⟨p2, _, rfl, .inr (SqT.of upd_same), rfl, rfl, _, rfl, ?_⟩
  rw [if_neg (by decide), Rw.inT]
  have st2 := st1.same s2
  have mv2 : Mv y (x :: xs) H (x :: xs) (L2.upd H1 p2 (.tup [.str "unless", .str "go", .str "turn"])) := mv1.trans (Mv.same s2)
  have tr2 := tr1.mono (Tk.same s2)
  generalize L2.upd H1 p2 (.tup [.str "unless", .str "go", .str "turn"]) = H2 at st2 mv2 tr2 ⊢
  refine ifB (fun hT => ?_) fun hT => ?_
  · exact rMethW rfl st2.ins rfl ⟨_, rfl, _, rfl, ⟨⟨e, y, x, xs, lv, dn, m, f, fs, _, r, rfl, st2, hf, hrow, tr2, leg, hl, hT, (q.behind mv2).cv fun _ h => h⟩⟩⟩
  refine rMethW rfl st2.ins rfl ⟨_, rfl, _, rfl, ⟨⟨e, y, x, xs, lv, dn, m, f, fs, _, r, rfl, st2, hf, tr2, leg, ro, sz, hT, hL, fun xs' lv' H3 st3 mv3 => ?_⟩⟩⟩
  obtain ⟨f1, ef, es⟩ := plain_step (e := e) hf hrow leg hT hL
  have fr3 := st3.fr ef
  refine ⟨_, rfl, x.fa, CF, x.dx, _, _, rfl, fr3.ins, T.clF, T.place, rfl, _, _, rfl, rfl, _, rfl, x.fa, CF, x.dx, _, rfl, fr3.ins, T.clF, T.place, (by show 5 < 1000; decide), ?_⟩
  obtain ⟨st4, mv4⟩ := st3.place (q := f1.pc + 1) ef
  rw [es] at q
  exact q.q _ _ _ st4 (mv2.trans (mv3.trans mv4))
end
end Lp

/-! LmH: the machine's methods: go, events; its beginning. -/
namespace Lp
open PySem PySem.Spec PyProof.Rows L2
def t_Machine_init (K : PySem.W.Frag) (C_Frame : Addr) (sp_Frame_init : Sp) (sp_slots_for : Sp) : TS :=
  tSeq (sFld K (tVar 0) (tVar 1) "kinds") (tSeq (sFld K (tVar 0) (tVar 2) "code") (tSeq (sFld K (tVar 0) (tVar 4) "left") (tSeq (sFld K (tVar 0) (tVar 5) "deep") (tSeq (sFld K (tVar 0) (tLst (tNil)) "told") (tSeq (sFld K (tVar 0) (tC (.int 0)) "done") (tSeq (sFld K (tVar 0) (tC .non) "last") (sFld K (tVar 0) (tLst (tCons (tMake C_Frame sp_Frame_init [] E0 (tCons (tC (.int 0)) (tCons (tCall sp_slots_for [] E0 (tCons (tVar 3) (tNil))) (tNil)))) (tNil))) "frames")))))))

def t_Machine_go (K : PySem.W.Frag) (C_Machine : Addr) (sp_Machine_move : Sp) : TS :=
  tSeq (tFor (iRng1 (tCons (tVar 1) (tNil))) (gName 2) (tIfS (tTest (tOp rIsN (tFld K (tVar 0) "last") (tC .non))) (tSeq (sFld K (tVar 0) (tOp rAdI (tFld K (tVar 0) "done") (tC (.int 1))) "done") (tDrop (tMeth C_Machine "move" sp_Machine_move [] E0 (tVar 0) tNil))) (tNext))) (tSeq (tIfS (tTest (tOp rIsN (tFld K (tVar 0) "last") (tC .non))) (tRet (tTup (tCons (tC (.str "goes")) (tNil)))) (tNext)) (tRet (tFld K (tVar 0) "last")))

def t_Machine_events (K : PySem.W.Frag) : TS :=
  tRet (tCB (rLstOf K) (tCons (tFld K (tVar 0) "told") (tNil)))

/-- a way to its end, and small enough -/
structure Way (e : ME) (m : Mc) (c : Nat) (mf : Mc) : Prop where
  go : Go e.code e.ks e.dp c m mf
  last : mf.last.isSome = true
  inv : ∃ n B, Inv e.code e.ks.length e.dp n B m ∧ n + c ≤ 900000 ∧ B + c * (e.dp + 1) ≤ 900000
  dps : e.dp ≤ 1000
  wfk : WfK e.ks
  ck : MCodeOk e.code e.ks.length
theorem Way.sz {e : ME} {m mf : Mc} {c : Nat} (w : Way e m c mf) : Sz e m := by
  obtain ⟨n, B, i, h1, h2⟩ := w.inv
  have hB : B ≤ 900000 := Nat.le_trans (Nat.le_add_right _ _) h2
  exact ⟨fun f hf => (i.frs f hf).mono (by omega) hB, by have := i.told; omega, i.len, w.dps, i.call, w.wfk, w.ck⟩
theorem Way.on {e : ME} {m mf : Mc} {c : Nat} (w : Way e m c mf) : m.last = none → 0 < c := fun h => by
  cases c with
  | zero =>
    have g := w.go
    cases g
    have := w.last
    rw [h] at this
    cases this
  | succ c => exact Nat.succ_pos _
theorem Way.end {e : ME} {m mf : Mc} {c : Nat} (w : Way e m c mf) : m.last ≠ none → c = 0 ∧ m = mf := fun h => by
  have g := w.go
  cases g with
  | nil => exact ⟨rfl, rfl⟩
  | next h2 _ _ => exact absurd h2 h
theorem Way.next {e : ME} {m mf : Mc} {c : Nat} (w : Way e m (c + 1) mf) : m.last = none ∧ Legal e.code m ∧ Way e (step e.code e.ks e.dp m) c mf := by
  have g := w.go
  cases g with
  | next h l g2 =>
    obtain ⟨n, B, i, h1, h2⟩ := w.inv
    refine ⟨h, l, g2, w.last, ⟨n + 1, B + e.dp + 1, i.step w.ck l (Nat.le_refl _), by omega, ?_⟩, w.dps, w.wfk, w.ck⟩
    rw [Nat.succ_mul] at h2
    omega
def RetIs (K : PySem.W.Frag) (H : Hp) (v : V) (o : Option Out) : Prop := match o with
  | none => Tp K H v (.tuple [.str "goes"])
  | some o => Tp K H v o.d
structure GoP (K : PySem.W.Frag) (CM CF : Addr) (vs : List V) (H : Hp) (Q : VK) : Prop where
  ex : ∃ (e : ME) (y : MA) (xs : List FA) (lv : V) (dn : Int) (m mf : Mc) (c k : Nat), vs = [.ref y.ma, .int (k : Int)] ∧ MSt K CM CF e H y xs lv dn m ∧ Way e m c mf ∧ k ≤ 1000000 ∧
    ∀ (m1 : Mc) (xs' : List FA) (lv' v : V) (H' : Hp), Go e.code e.ks e.dp (min k c) m m1 → Way e m1 (c - min k c) mf → MSt K CM CF e H' y xs' lv' (dn + (min k c : Nat)) m1 → Mv y xs H xs' H' → RetIs K H' v m1.last → Q v H'
def spGo (K : PySem.W.Frag) (CM CF : Addr) : Sp := fun vs H Q _ => GoP K CM CF vs H Q
structure EvP (K : PySem.W.Frag) (CM CF : Addr) (vs : List V) (H : Hp) (Q : VK) : Prop where
  ex : ∃ (e : ME) (y : MA) (xs : List FA) (lv : V) (dn : Int) (m : Mc), vs = [.ref y.ma] ∧ MSt K CM CF e H y xs lv dn m ∧
    ∀ (l : Addr) (us : List V) (H' : Hp), H l = none → H' l = some (.lst us) → TpAll K H' us (m.told.map Ev.d) → Same H H' → Q (.ref l) H'
def spEv (K : PySem.W.Frag) (CM CF : Addr) : Sp := fun vs H Q _ => EvP K CM CF vs H Q
structure MInP (K : PySem.W.Frag) (CM CF : Addr) (vs : List V) (H : Hp) (Q : VK) : Prop where
  ex : ∃ (c dx : Addr) (e : ME) (kv cv : V) (nl : Addr) (ns : List Int) (most : Int), vs = [.ref c, kv, cv, .ref nl, .int most, .int (e.dp : Int)] ∧ H c = some (.ins CM dx []) ∧ Tp K H kv (.tuple (e.ks.map kindD)) ∧ Tp K H cv (codeD e.code) ∧ H nl = some (.lst (ns.map V.int)) ∧ ns.length ≤ 3 ∧
    ∀ (y : MA) (xs : List FA) (H' : Hp), y.ma = c → MSt K CM CF e H' y xs .non 0 (mc0 most ns) → (∀ a ∈ foot y xs, a = c ∨ H a = none) → Kp (fun x => x = c) H H' → Q .non H'
def spMIn (K : PySem.W.Frag) (CM CF : Addr) : Sp := fun vs H Q _ => MInP K CM CF vs H Q
section
variable {K : PySem.W.Frag} {CM CF : Addr}
theorem rd_ev (T : MacT K CM CF) (vs : List V) (H : Hp) (Q : VK) (E : XK) (hh : spEv K CM CF vs H Q E) : t_Machine_events K { nx := fun _ H' => Q .non H', rt := Q } (start ["self"] vs) H := by
  obtain ⟨e, y, xs, lv, dn, m, rfl, st, q⟩ := hh.ex
  obtain ⟨us, hu, tu⟩ := st.told
  refine ⟨_, rfl, y.ma, CM, y.dx, _, _, rfl, st.ins, T.clM, T.told, rfl, y.tl, us, rfl, .inl (SqL.of hu), fun l hl => ?_⟩
  have s : Same H (L2.upd H l (.lst us)) := Same.new hl
  exact q l us _ hl upd_same (tu.mono (Tk.same s)) s
theorem rd_go (T : MacT K CM CF) (vs : List V) (H : Hp) (Q : VK) (E : XK) (hh : spGo K CM CF vs H Q E) : t_Machine_go K CM (spMove K CM CF) { nx := fun _ H' => Q .non H', rt := Q } (start ["self", "rows", "k"] vs) H := by
  obtain ⟨e, y, xs, lv, dn, m, mf, c, k, rfl, st, w, hk, q⟩ := hh.ex
  refine ⟨_, rfl, _, rfl, by omega, by omega, for_range (lo := 0) (n := ((k : Int)).toNat) (fun i σ H' => ∃ (m1 : Mc) (xs' : List FA) (lv' : V) (v2 : Option V), σ = [some (.ref y.ma), some (.int (k : Int)), v2] ∧ Go e.code e.ks e.dp (min i c) m m1 ∧ Way e m1 (c - min i c) mf ∧ MSt K CM CF e H' y xs' lv' (dn + (min i c : Nat)) m1 ∧ Mv y xs H xs' H')
    ⟨m, xs, lv, _, rfl, by rw [Nat.zero_min]; exact .nil, by rw [Nat.zero_min]; exact w, by rw [Nat.zero_min]; simpa using st, Mv.refl _ _ _⟩ ?_ ?_⟩
  · rintro i σ H1 hi ⟨m1, xs1, lv1, v2, rfl, g1, w1, st1, mv1⟩
    have lo := st1.last
    refine ⟨_, rfl, y.ma, CM, y.dx, _, _, rfl, st1.ins, T.clM, T.last, rfl, rfl, _, rfl, ?_⟩
    cases hl : m1.last with
    | none =>
      rw [hl] at lo
      have lo : lv1 = .non := lo
      subst lo
      have c0 := w1.on hl
      have ei : min i c = i := by omega
      have ei2 : min (i + 1) c = i + 1 := by omega
      rw [ei] at g1 w1 st1
      obtain ⟨c', hc'⟩ : ∃ c', c - i = c' + 1 := ⟨c - i - 1, by omega⟩
      rw [hc'] at w1
      obtain ⟨hl', leg, w2⟩ := w1.next
      refine ifT rfl ⟨_, rfl, y.ma, CM, y.dx, _, _, rfl, st1.ins, T.clM, T.done, rfl, _, _, rfl, rfl, _, rfl, y.ma, CM, y.dx, _, rfl, st1.ins, T.clM, T.done, (by show 8 < 1000; decide), ?_⟩
      have eput : putF "done" (.int (dn + (i : Int) + 1)) (mcFs y m1.left e.dp (dn + (i : Int)) .non) = mcFs y m1.left e.dp (dn + (i : Int) + 1) .non := rfl
      rw [eput]
      have st2 := st1.fld (l := m1.left) (dn' := dn + (i : Int) + 1) (la := m1.last) (lv' := .non) (by rw [hl]; rfl)
      have mv2 : Mv y xs1 H1 xs1 (L2.upd H1 y.ma (.ins CM y.dx (mcFs y m1.left e.dp (dn + (i : Int) + 1) .non))) := Mv.upd (by simp [foot])
      generalize L2.upd H1 y.ma (.ins CM y.dx (mcFs y m1.left e.dp (dn + (i : Int) + 1) .non)) = H2 at st2 mv2 ⊢
      have e0 : ({ m1 with left := m1.left, last := m1.last } : Mc) = m1 := rfl
      rw [e0] at st2
      refine ⟨_, rfl, y.ma, y.dx, _, rfl, st2.ins, rfl, ⟨⟨e, y, xs1, _, _, m1, rfl, st2, leg, w1.sz, hl, ⟨fun xs3 lv3 H3 st3 mv3 => ?_⟩⟩⟩⟩
      refine ⟨step e.code e.ks e.dp m1, xs3, lv3, _, rfl, ?_, ?_, ?_, mv1.trans (mv2.trans mv3)⟩
      · rw [ei2]
        exact g1.trans (.next hl' leg .nil)
      · rw [ei2, show c - (i + 1) = c' from by omega]
        exact w2
      · rw [ei2, show dn + ((i + 1 : Nat) : Int) = dn + (i : Int) + 1 from by omega]
        exact st3
    | some o =>
      rw [hl] at lo
      have lo : Tp K H1 lv1 o.d := lo
      obtain ⟨a, r, rfl, _, _⟩ := Out.tup lo
      obtain ⟨z, em⟩ := w1.end (by rw [hl]; exact fun w => nomatch w)
      have ei2 : min (i + 1) c = min i c := by omega
      refine ifF rfl ⟨m1, xs1, _, _, rfl, by rw [ei2]; exact g1, by rw [ei2]; exact w1, by rw [ei2]; exact st1, mv1⟩
  · rintro σ H1 ⟨m1, xs1, lv1, v2, rfl, g1, w1, st1, mv1⟩
    rw [Int.toNat_natCast] at g1 w1 st1
    have lo := st1.last
    refine ⟨_, rfl, y.ma, CM, y.dx, _, _, rfl, st1.ins, T.clM, T.last, rfl, rfl, _, rfl, ?_⟩
    cases hl : m1.last with
    | none =>
      rw [hl] at lo
      have lo : lv1 = .non := lo
      subst lo
      refine ifT rfl ⟨(by show 1 ≤ sizeLine; decide), fun p hp => ?_⟩
      have s2 : Same H1 (L2.upd H1 p (.tup [.str "goes"])) := Same.new hp
      exact q m1 xs1 _ _ _ g1 w1 (st1.same s2) (mv1.trans (Mv.same s2)) (by rw [hl]; exact Tp.mk hp (.cons (.str _) .nil))
    | some o =>
      rw [hl] at lo
      have lo : Tp K H1 lv1 o.d := lo
      obtain ⟨a, r, rfl, _, _⟩ := Out.tup lo
      refine ifF rfl ⟨_, rfl, y.ma, CM, y.dx, _, _, rfl, st1.ins, T.clM, T.last, rfl, ?_⟩
      exact q m1 xs1 _ _ _ g1 w1 st1 mv1 (by rw [hl]; exact lo)
theorem rd_m_init (T : MacT K CM CF) (vs : List V) (H : Hp) (Q : VK) (E : XK) (hh : spMIn K CM CF vs H Q E) : t_Machine_init K CF (spFrIni K CF) (spSlots K) { nx := fun _ H' => Q .non H', rt := Q } (start ["self", "kinds", "code", "numbers", "most", "deep"] vs) H := by
  obtain ⟨c, dx, e, kv, cv, nl, ns, most, rfl, hc, tk, tc, hn, hl, q⟩ := hh.ex
  refine ⟨_, rfl, _, rfl, c, CM, dx, _, rfl, hc, T.clM, T.kinds, (by show 0 < 1000; decide), ?_⟩
  have kp1 : Kp (fun x => x = c) H (L2.upd H c (.ins CM dx (putF "kinds" kv []))) := Kp.upd rfl
  have t1 : Tk H (L2.upd H c (.ins CM dx (putF "kinds" kv []))) := Tk.ins hc
  have c1 : L2.upd H c (.ins CM dx (putF "kinds" kv [])) c = some (.ins CM dx [("kinds", kv)]) := upd_same
  generalize L2.upd H c (.ins CM dx (putF "kinds" kv [])) = H1 at kp1 t1 c1 ⊢
  refine ⟨_, rfl, _, rfl, c, CM, dx, _, rfl, c1, T.clM, T.code, (by show 1 < 1000; decide), ?_⟩
  have kp2 : Kp (fun x => x = c) H (L2.upd H1 c (.ins CM dx (putF "code" cv [("kinds", kv)]))) := kp1.trans (Kp.upd rfl)
  have t2 := t1.trans (Tk.ins (o := .ins CM dx (putF "code" cv [("kinds", kv)])) c1)
  have c2 : L2.upd H1 c (.ins CM dx (putF "code" cv [("kinds", kv)])) c = some (.ins CM dx [("kinds", kv), ("code", cv)]) := upd_same
  generalize L2.upd H1 c (.ins CM dx (putF "code" cv [("kinds", kv)])) = H2 at kp2 t2 c2 ⊢
  refine ⟨_, rfl, _, rfl, c, CM, dx, _, rfl, c2, T.clM, T.left, (by show 2 < 1000; decide), ?_⟩
  have kp3 : Kp (fun x => x = c) H (L2.upd H2 c (.ins CM dx (putF "left" (.int most) [("kinds", kv), ("code", cv)]))) := kp2.trans (Kp.upd rfl)
  have t3 := t2.trans (Tk.ins (o := .ins CM dx (putF "left" (.int most) [("kinds", kv), ("code", cv)])) c2)
  have c3 : L2.upd H2 c (.ins CM dx (putF "left" (.int most) [("kinds", kv), ("code", cv)])) c = some (.ins CM dx [("kinds", kv), ("code", cv), ("left", .int most)]) := upd_same
  generalize L2.upd H2 c (.ins CM dx (putF "left" (.int most) [("kinds", kv), ("code", cv)])) = H3 at kp3 t3 c3 ⊢
  refine ⟨_, rfl, _, rfl, c, CM, dx, _, rfl, c3, T.clM, T.deep, (by show 3 < 1000; decide), ?_⟩
  have kp4 : Kp (fun x => x = c) H (L2.upd H3 c (.ins CM dx (putF "deep" (.int (e.dp : Int)) [("kinds", kv), ("code", cv), ("left", .int most)]))) := kp3.trans (Kp.upd rfl)
  have t4 := t3.trans (Tk.ins (o := .ins CM dx (putF "deep" (.int (e.dp : Int)) [("kinds", kv), ("code", cv), ("left", .int most)])) c3)
  have c4 : L2.upd H3 c (.ins CM dx (putF "deep" (.int (e.dp : Int)) [("kinds", kv), ("code", cv), ("left", .int most)])) c = some (.ins CM dx [("kinds", kv), ("code", cv), ("left", .int most), ("deep", .int (e.dp : Int))]) := upd_same
  generalize L2.upd H3 c (.ins CM dx (putF "deep" (.int (e.dp : Int)) [("kinds", kv), ("code", cv), ("left", .int most)])) = H4 at kp4 t4 c4 ⊢
  refine ⟨(by show 0 ≤ sizeLine; decide), fun tl htl => ⟨_, rfl, c, CM, dx, _, rfl, by rw [upd_ne (ne_of_none c4 htl)]; exact c4, T.clM, T.told, (by show 4 < 1000; decide), ?_⟩⟩
  have ctl : c ≠ tl := ne_of_none c4 htl
  have htl0 : H tl = none := kp4.free htl (fun z => ctl z.symm)
  have kp5 : Kp (fun x => x = c) H (L2.upd (L2.upd H4 tl (.lst [])) c (.ins CM dx (putF "told" (.ref tl) [("kinds", kv), ("code", cv), ("left", .int most), ("deep", .int (e.dp : Int))]))) := (kp4.trans (Kp.new htl)).trans (Kp.upd rfl)
  have t5 := (t4.trans (Tk.new (o := .lst []) htl)).trans (Tk.ins (o := .ins CM dx (putF "told" (.ref tl) [("kinds", kv), ("code", cv), ("left", .int most), ("deep", .int (e.dp : Int))])) (by rw [upd_ne ctl]; exact c4))
  have c5 : L2.upd (L2.upd H4 tl (.lst [])) c (.ins CM dx (putF "told" (.ref tl) [("kinds", kv), ("code", cv), ("left", .int most), ("deep", .int (e.dp : Int))])) c = some (.ins CM dx [("kinds", kv), ("code", cv), ("left", .int most), ("deep", .int (e.dp : Int)), ("told", .ref tl)]) := upd_same
  have l5 : L2.upd (L2.upd H4 tl (.lst [])) c (.ins CM dx (putF "told" (.ref tl) [("kinds", kv), ("code", cv), ("left", .int most), ("deep", .int (e.dp : Int))])) tl = some (.lst []) := by rw [upd_ne ctl.symm, upd_same]
  generalize L2.upd (L2.upd H4 tl (.lst [])) c (.ins CM dx (putF "told" (.ref tl) [("kinds", kv), ("code", cv), ("left", .int most), ("deep", .int (e.dp : Int))])) = H5 at kp5 t5 c5 l5 ⊢
  refine ⟨_, rfl, c, CM, dx, _, rfl, c5, T.clM, T.done, (by show 5 < 1000; decide), ?_⟩
  have kp6 : Kp (fun x => x = c) H (L2.upd H5 c (.ins CM dx (putF "done" (.int 0) [("kinds", kv), ("code", cv), ("left", .int most), ("deep", .int (e.dp : Int)), ("told", .ref tl)]))) := kp5.trans (Kp.upd rfl)
  have t6 := t5.trans (Tk.ins (o := .ins CM dx (putF "done" (.int 0) [("kinds", kv), ("code", cv), ("left", .int most), ("deep", .int (e.dp : Int)), ("told", .ref tl)])) c5)
  have c6 : L2.upd H5 c (.ins CM dx (putF "done" (.int 0) [("kinds", kv), ("code", cv), ("left", .int most), ("deep", .int (e.dp : Int)), ("told", .ref tl)])) c = some (.ins CM dx [("kinds", kv), ("code", cv), ("left", .int most), ("deep", .int (e.dp : Int)), ("told", .ref tl), ("done", .int 0)]) := upd_same
  have l6 : L2.upd H5 c (.ins CM dx (putF "done" (.int 0) [("kinds", kv), ("code", cv), ("left", .int most), ("deep", .int (e.dp : Int)), ("told", .ref tl)])) tl = some (.lst []) := by rw [upd_ne ctl.symm]; exact l5
  generalize L2.upd H5 c (.ins CM dx (putF "done" (.int 0) [("kinds", kv), ("code", cv), ("left", .int most), ("deep", .int (e.dp : Int)), ("told", .ref tl)])) = H6 at kp6 t6 c6 l6 ⊢
  refine ⟨_, rfl, c, CM, dx, _, rfl, c6, T.clM, T.last, (by show 6 < 1000; decide), ?_⟩
  have kp7 : Kp (fun x => x = c) H (L2.upd H6 c (.ins CM dx (putF "last" .non [("kinds", kv), ("code", cv), ("left", .int most), ("deep", .int (e.dp : Int)), ("told", .ref tl), ("done", .int 0)]))) := kp6.trans (Kp.upd rfl)
  have t7 := t6.trans (Tk.ins (o := .ins CM dx (putF "last" .non [("kinds", kv), ("code", cv), ("left", .int most), ("deep", .int (e.dp : Int)), ("told", .ref tl), ("done", .int 0)])) c6)
  have c7 : L2.upd H6 c (.ins CM dx (putF "last" .non [("kinds", kv), ("code", cv), ("left", .int most), ("deep", .int (e.dp : Int)), ("told", .ref tl), ("done", .int 0)])) c = some (.ins CM dx [("kinds", kv), ("code", cv), ("left", .int most), ("deep", .int (e.dp : Int)), ("told", .ref tl), ("done", .int 0), ("last", .non)]) := upd_same
  have l7 : L2.upd H6 c (.ins CM dx (putF "last" .non [("kinds", kv), ("code", cv), ("left", .int most), ("deep", .int (e.dp : Int)), ("told", .ref tl), ("done", .int 0)])) tl = some (.lst []) := by rw [upd_ne ctl.symm]; exact l6
  generalize L2.upd H6 c (.ins CM dx (putF "last" .non [("kinds", kv), ("code", cv), ("left", .int most), ("deep", .int (e.dp : Int)), ("told", .ref tl), ("done", .int 0)])) = H7 at kp7 t7 c7 l7 ⊢
  have cnl : nl ≠ c := ne_of hn hc (by intro z; cases z)
  have hn7 : H7 nl = some (.lst (ns.map V.int)) := kp7 _ _ hn cnl
  refine ⟨_, rfl, nl, ns, rfl, hn7, hl, fun sa H8 hsa hsa8 s8 => fun fa fdx hfa hfdx fdxfa => ?_⟩
  have s9 : Same H8 (L2.upd (L2.upd H8 fdx (.own fa)) fa (.ins CF fdx [])) := fun b o eo => by rw [upd_ne (ne_of_none eo hfa), upd_ne (ne_of_none eo hfdx)]; exact eo
  refine ⟨⟨fa, fdx, 0, sa, rfl, upd_same, fun ka ha H10 hka hha kah h10 hk10 hh10 kp10 => ⟨rfl, (by show 1 ≤ sizeLine; decide), fun fl hfl => ?_⟩⟩⟩
  have s10 : Same H8 H10 := fun b o eo => kp10 b o (s9 b o eo) (ne_of_none eo hfa)
  have s7 : Same H7 H10 := s8.trans s10
  have fsa : fa ≠ sa := fun z => by rw [z, hsa8] at hfa; cases hfa
  have fka : fa ≠ ka := fun z => by rw [← z, upd_same] at hka; cases hka
  have fha : fa ≠ ha := fun z => by rw [← z, upd_same] at hha; cases hha
  have ska : sa ≠ ka := fun z => by rw [← z, s9 _ _ hsa8] at hka; cases hka
  have sha : sa ≠ ha := fun z => by rw [← z, s9 _ _ hsa8] at hha; cases hha
  have hfa7 : H7 fa = none := s8.free hfa
  have hka7 : H7 ka = none := s8.free (s9.free hka)
  have hha7 : H7 ha = none := s8.free (s9.free hha)
  have hfl7 : H7 fl = none := s7.free hfl
  have c10 := s7 _ _ c7
  have l10 := s7 _ _ l7
  have sa10 := s10 _ _ hsa8
  have flne : ∀ {a : Addr} {o : HO}, H10 a = some o → a ≠ fl := fun h => ne_of_none h hfl
  refine ⟨_, rfl, c, CM, dx, _, rfl, by rw [upd_ne (flne c10)]; exact c10, T.clM, T.frames, (by show 7 < 1000; decide), ?_⟩
  have tkF : Tk H10 (L2.upd (L2.upd H10 fl (.lst [.ref fa])) c (.ins CM dx (putF "frames" (.ref fl) [("kinds", kv), ("code", cv), ("left", .int most), ("deep", .int (e.dp : Int)), ("told", .ref tl), ("done", .int 0), ("last", .non)]))) := (Tk.new hfl).trans (Tk.ins (by rw [upd_ne (flne c10)]; exact c10))
  have tA := (t7.trans (Tk.same s7)).trans tkF
  have cne7 : ∀ {a : Addr}, H7 a = none → a ≠ c := fun h z => by rw [z, c7] at h; cases h
  have tne7 : ∀ {a : Addr}, H7 a = none → a ≠ tl := fun h z => by rw [z, l7] at h; cases h
  have old : ∀ {a : Addr}, H7 a = none → H a = none := fun h => kp7.free h (cne7 h)
  refine q ⟨c, dx, tl, fl, kv, cv⟩ [⟨fa, fdx, sa, ka, ha⟩] _ rfl ⟨?_, ⟨[], ?_, .nil⟩, ?_, .cons ⟨?_, ?_, ?_, [], ?_, .nil⟩ .nil, rfl, tk.mono tA, tc.mono tA, ?_⟩ ?_ ?_
  · rw [upd_same]; rfl
  · show L2.upd (L2.upd H10 fl _) c _ tl = _
    rw [upd_ne ctl.symm, upd_ne (flne l10)]; exact l10
  · show L2.upd (L2.upd H10 fl _) c _ fl = _
    rw [upd_ne (cne7 hfl7), upd_same]; rfl
  · show L2.upd (L2.upd H10 fl _) c _ fa = _
    rw [upd_ne (cne7 hfa7), upd_ne (flne h10)]; exact h10
  · show L2.upd (L2.upd H10 fl _) c _ sa = _
    rw [upd_ne (cne7 hsa), upd_ne (flne sa10)]; exact sa10
  · show L2.upd (L2.upd H10 fl _) c _ ka = _
    rw [upd_ne (cne7 hka7), upd_ne (flne hk10)]; exact hk10
  · show L2.upd (L2.upd H10 fl _) c _ ha = _
    rw [upd_ne (cne7 hha7), upd_ne (flne hh10)]; exact hh10
  · simp only [foot, FA.own, List.flatMap_cons, List.flatMap_nil, List.append_nil, List.cons_append, List.nil_append, List.nodup_cons, List.mem_cons, List.not_mem_nil, or_false, not_or]
    exact ⟨⟨ctl, (cne7 hfl7).symm, (cne7 hfa7).symm, (cne7 hsa).symm, (cne7 hka7).symm, (cne7 hha7).symm⟩, ⟨(tne7 hfl7).symm, (tne7 hfa7).symm, (tne7 hsa).symm, (tne7 hka7).symm, (tne7 hha7).symm⟩, ⟨(flne h10).symm, (flne sa10).symm, (flne hk10).symm, (flne hh10).symm⟩, ⟨fsa, fka, fha⟩, ⟨ska, sha⟩, kah, not_false, .nil⟩
  · intro a hz
    simp only [foot, FA.own, List.flatMap_cons, List.flatMap_nil, List.append_nil, List.mem_cons, List.cons_append, List.nil_append, List.not_mem_nil, or_false] at hz
    rcases hz with rfl | rfl | rfl | rfl | rfl | rfl | rfl
    · exact .inl rfl
    · exact .inr htl0
    · exact .inr (old hfl7)
    · exact .inr (old hfa7)
    · exact .inr (old hsa)
    · exact .inr (old hka7)
    · exact .inr (old hha7)
  · exact ((kp7.trans (Kp.same s7)).trans (Kp.new hfl)).trans (Kp.upd rfl)
end
end Lp

/-! LmI: drawn programs on the machine; what stands beside it. -/
namespace Lp
open PySem PySem.Spec PyProof.Rows L2
def t_Machine_rows_done (K : PySem.W.Frag) : TS :=
  tRet (tFld K (tVar 0) "done")

theorem PgOk.pgW {p : Pg} (ok : PgOk p) : PgW p := ⟨ok.wf, ok.small.dep, fun f hf => by have := ok.small.len f hf; omega⟩
/-- the machine's way over a drawn program -/
theorem way_of {p : Pg} {fn : Nat × Sm} {ns : List Int} {most : Int} {dp : Nat} {o : Out} {w1 : WSt} {c : Nat} (h : WIn p fn ns most dp) (hm : most ≤ 30) (hR : Rn p dp 1 [] fn.2 ⟨slotsFor ns, most, []⟩ o w1 c) :
    ∃ c' mf, Way ⟨p.code, p.kinds, dp⟩ (mc0 most ns) c' mf ∧ mf.last = some (calledEnd o) ∧ mf.told = w1.told ∧ c' ≤ 70000 := by
  have pre := h.pre
  obtain ⟨mf, g, l, t, _⟩ := Rn.run pre.pw.r h.f0 hR
  obtain ⟨c1, _, _, _⟩ := Rn.cost pre.pw.len hR pre.len pre.left
  obtain ⟨lw, _⟩ := Rn.left_ge hR (by show (0 : Int) ≤ most; exact h.m0)
  have lf := pre.len
  have c1 : (c : Int) ≤ fn.2.len + 2000 * (most - w1.left) := c1
  have tk := tick_le o 2
  have hc : c + o.tick 2 ≤ 70000 := by omega
  have hd := h.d1
  refine ⟨_, mf, ⟨g, by rw [l]; rfl, ⟨0, 0, Inv.start h.d0 (by
    have := (List.getElem?_eq_some_iff.mp h.f0).1
    show 0 < p.code.length
    simp only [Pg.code, List.length_map]; exact this) (by have := h.few; omega) h.inr, by omega, ?_⟩, by show dp ≤ 1000; omega, h.pw.wf.kinds, pre.pw.r.mcodeOk⟩, l, t, hc⟩
  show 0 + (c + o.tick 2) * (dp + 1) ≤ 900000
  have : (c + o.tick 2) * (dp + 1) ≤ 70000 * 7 := Nat.mul_le_mul hc (by omega)
  omega
/-- all that stood ahead of the machine stands -/
structure Keep (y : MA) (xs : List FA) (Hd H : Hp) : Prop where
  s : Same Hd H
  f : ∀ a ∈ foot y xs, Hd a = none
theorem Keep.mv {y : MA} {xs xs' : List FA} {Hd H H' : Hp} (k : Keep y xs Hd H) (m : Mv y xs H xs' H') : Keep y xs' Hd H' :=
  ⟨fun b o e => m.k b o (k.s b o e) fun z => (by rw [k.f b z] at e; cases e), fun a ha => (m.f a ha).elim (k.f a) k.s.free⟩
theorem Keep.same {y : MA} {xs : List FA} {Hd H H' : Hp} (k : Keep y xs Hd H) (s : Same H H') : Keep y xs Hd H' := ⟨k.s.trans s, k.f⟩
theorem goes_shaped : SeqAt.shaped (.tuple [.str "goes"]) = true := by simp [SeqAt.shaped, PyData.canLay0, PyData.canLayAll0, PyData.depth, PyData.depthAll]; decide +kernel
theorem Out.shaped2 (o : Option Out) (K : PySem.W.Frag) (H : Hp) (v : V) (h : RetIs K H v o) : ∃ d, Dp K H v d ∧ SeqAt.shaped d = true ∧ PyData.eqv d (.tuple [.str "goes"]) = o.isNone ∧ d = (match o with
    | none => .tuple [.str "goes"]
    | some o => o.d) := by
  cases o with
  | none => exact ⟨_, Tp.dp _ _ h, goes_shaped, rfl, rfl⟩
  | some o => exact ⟨_, Tp.dp _ _ h, o.shaped, by cases o <;> rfl, rfl⟩

structure RdP (K : PySem.W.Frag) (CM CF : Addr) (vs : List V) (H : Hp) (Q : VK) : Prop where
  ex : ∃ (e : ME) (y : MA) (xs : List FA) (lv : V) (dn : Int) (m : Mc), vs = [.ref y.ma] ∧ MSt K CM CF e H y xs lv dn m ∧ Q (.int dn) H
def spRd (K : PySem.W.Frag) (CM CF : Addr) : Sp := fun vs H Q _ => RdP K CM CF vs H Q
section
variable {K : PySem.W.Frag} {CM CF : Addr}
theorem rd_rows (T : MacT K CM CF) (vs : List V) (H : Hp) (Q : VK) (E : XK) (hh : spRd K CM CF vs H Q E) : t_Machine_rows_done K { nx := fun _ H' => Q .non H', rt := Q } (start ["self"] vs) H := by
  obtain ⟨e, y, xs, lv, dn, m, rfl, st, q⟩ := hh.ex
  exact ⟨_, rfl, y.ma, CM, y.dx, _, _, rfl, st.ins, T.clM, T.done, rfl, q⟩
/-- what is not the machine's own changes -/
theorem MSt.keep {e : ME} {H H' : Hp} {y : MA} {xs : List FA} {lv : V} {dn : Int} {m : Mc} (h : MSt K CM CF e H y xs lv dn m) (k : ∀ a ∈ foot y xs, ∀ o, H a = some o → H' a = some o) (t : Tk H H') : MSt K CM CF e H' y xs lv dn m := by
  obtain ⟨us, h1, h2⟩ := h.told
  exact ⟨k _ (by simp [foot]) _ h.ins, ⟨us, k _ (by simp [foot]) _ h1, h2.mono t⟩, k _ (by simp [foot]) _ h.frl, h.frs.mono t fun a ha => k a (foot_own ha), h.last.mono t, h.kt.mono t, h.ct.mono t, h.nd⟩
theorem MSt.kp {B : Addr → Prop} {e : ME} {H H' : Hp} {y : MA} {xs : List FA} {lv : V} {dn : Int} {m : Mc} (h : MSt K CM CF e H y xs lv dn m) (k : Kp B H H') (hB : ∀ a ∈ foot y xs, ¬ B a) (t : Tk H H') : MSt K CM CF e H' y xs lv dn m := h.keep (fun a ha o eo => k a o eo (hB a ha)) t
/-- the other machine goes on -/
theorem MSt.other {e e2 : ME} {H H' : Hp} {y y2 : MA} {xs xs' xs2 : List FA} {lv lv2 : V} {dn dn2 : Int} {m m2 : Mc} (h : MSt K CM CF e2 H y2 xs2 lv2 dn2 m2) (s : MSt K CM CF e H y xs lv dn m) (mv : Mv y xs H xs' H') (dis : ∀ a ∈ foot y xs, a ∉ foot y2 xs2) :
    MSt K CM CF e2 H' y2 xs2 lv2 dn2 m2 ∧ ∀ a ∈ foot y xs', a ∉ foot y2 xs2 := by
  refine ⟨h.kp mv.k (fun a ha hb => dis a hb ha) (s.tk mv), fun a ha hb => ?_⟩
  rcases mv.f a ha with z | z
  · exact dis a z hb
  · exact h.at hb z
end
section
variable {code : List Fc} {ks : List (Option Nat)} {dp : Nat}
theorem doLeap_told {m : Mc} {f : Fr} {fs : List Fr} {g D : Int} : (doLeap code m f fs g D).told = m.told := by unfold doLeap; split <;> rfl
theorem doRet_told {m : Mc} {f : Fr} {fs : List Fr} {v : Int} : (doRet code m f fs v).told = m.told := by
  unfold doRet; split
  · rfl
  · split <;> rfl
theorem doFly_told {m : Mc} : ∀ {fs : List Fr} {x : Flt}, (doFly code ks m fs x).told = m.told
  | [], _ => rfl
  | f :: fs, x => by
    unfold doFly; split
    · rfl
    · split
      · rfl
      · exact doFly_told
theorem step_told (m : Mc) : ∃ x, (step code ks dp m).told = m.told ++ x := by
  unfold step
  split
  · exact ⟨[], by simp⟩
  · next f fs _ =>
    cases rowAt code f with
    | none => exact ⟨[], by simp⟩
    | some r =>
      cases r with
      | say => exact ⟨_, rfl⟩
      | «unless» q =>
        simp only
        split <;> exact ⟨[], by simp⟩
      | call g k mk =>
        simp only
        split
        · exact ⟨[], by simp⟩
        · split <;> exact ⟨[], by simp⟩
      | leap g D => exact ⟨[], by simp [doLeap_told]⟩
      | ret => exact ⟨[], by simp [doRet_told]⟩
      | rais kd mk => exact ⟨[], by simp [doFly_told]⟩
      | again =>
        simp only
        split
        · exact ⟨[], by simp [doFly_told]⟩
        · exact ⟨[], by simp⟩
      | hand b x kd D =>
        simp only
        split
        · exact ⟨_, rfl⟩
        · exact ⟨[], by simp⟩
      | resume =>
        simp only
        split
        · exact ⟨[], by simp⟩
        · exact ⟨[], by simp [doLeap_told]⟩
        · exact ⟨[], by simp [doRet_told]⟩
        · exact ⟨[], by simp [doFly_told]⟩
        · exact ⟨[], by simp⟩
      | _ => exact ⟨[], by simp⟩
theorem Go.told : ∀ {n : Nat} {m m' : Mc}, Go code ks dp n m m' → ∃ x, m'.told = m.told ++ x
  | 0, _, _, .nil => ⟨[], by simp⟩
  | n + 1, m, m', .next _ _ g => by
    obtain ⟨x, hx⟩ := step_told (code := code) (ks := ks) (dp := dp) m
    obtain ⟨z, hz⟩ := Go.told g
    exact ⟨x ++ z, by rw [hz, hx, List.append_assoc]⟩
end
theorem Way.told {e : ME} {m mf : Mc} {c : Nat} (w : Way e m c mf) : mf.told.take m.told.length = m.told := by
  obtain ⟨x, hx⟩ := w.go.told
  rw [hx, List.take_left']; rfl
theorem Flt.lay (f : Flt) : PyData.canLayAll0 f.tl = true := by simp [Flt.tl, PyData.canLayAll0, PyData.canLay0, lay_ints]
theorem evs_lay : ∀ es : List Ev, PyData.canLayAll0 (es.map Ev.d) = true
  | [] => rfl
  | .say n :: es => by
    have h : PyData.strOk "say" = true := by decide +kernel
    simp [Ev.d, PyData.canLayAll0, PyData.canLay0, evs_lay es, h]
  | .met f :: es => by
    have h : PyData.strOk "met" = true := by decide +kernel
    simp [Ev.d, PyData.canLayAll0, PyData.canLay0, evs_lay es, f.lay, h]
theorem evs_dep : ∀ es : List Ev, PyData.depthAll (es.map Ev.d) ≤ 2
  | [] => by simp [PyData.depthAll]
  | .say n :: es => by have := evs_dep es; simp [PyData.depthAll, Ev.d, PyData.depth]; omega
  | .met f :: es => by have := evs_dep es; simp [PyData.depthAll, Ev.d, Flt.tl, PyData.depth, ints_dep]; omega
theorem evs_shaped (es : List Ev) : SeqAt.shaped (.list (es.map Ev.d)) = true := by
  have := evs_dep es
  simp [SeqAt.shaped, PyData.canLay0, evs_lay, PyData.depth]; omega
theorem DpAll.takeN {K : PySem.W.Frag} {H : Hp} : ∀ {k : Nat} {ds : List PyData} {vs : List V}, DpAll K H vs ds → DpAll K H (vs.take k) (ds.take k)
  | 0, _, _, _ => by rw [List.take_zero, List.take_zero]; exact .nil
  | k + 1, _, _, .nil => .nil
  | k + 1, _, _, .cons a b => .cons a (DpAll.takeN b)
end Lp

/-! LmK: data that a law writes down; a machine over a program of the law's own. -/
namespace Lp
open PySem PySem.Spec PyProof.Rows L2
/-- te gives d, and the heap only grows -/
def ET (K : PySem.W.Frag) (te : TE) (σ : L2.St) (H0 : Hp) (d : PyData) : Prop := ∀ H, Same H0 H → ∀ Q : VK, (∀ v H', Tp K H' v d → Same H H' → Q v H') → te σ H Q
def EA (K : PySem.W.Frag) (ta : TA) (σ : L2.St) (H0 : Hp) (ds : List PyData) : Prop := ∀ H, Same H0 H → ∀ Q : List V → Hp → Prop, (∀ vs H', TpAll K H' vs ds → Same H H' → Q vs H') → ta σ H Q
section
variable {K : PySem.W.Frag} {σ : L2.St} {H0 H : Hp} {i j : Int} {k : Nat} {x : Str} {v : V} {d : PyData} {ds : List PyData} {ta tr : TA} {te tf : TE}
theorem ET.int : ET K (tC (.int i)) σ H0 (.int i) := fun H s Q q => q _ _ (.int i) (Same.refl _)
theorem ET.str : ET K (tC (.str x)) σ H0 (.str x) := fun H s Q q => q _ _ (.str x) (Same.refl _)
theorem ET.non : ET K (tC .non) σ H0 .none := fun H s Q q => q _ _ .non (Same.refl _)
theorem ET.var (hs : σ[k]? = some (some v)) (t : Tp K H0 v d) : ET K (tVar k) σ H0 d := fun H s Q q => ⟨v, hs, q _ _ (t.mono (Tk.same s)) (Same.refl _)⟩
theorem ET.add (a : ET K te σ H0 (.int i)) (b : ET K tf σ H0 (.int j)) : ET K (tOp rAdI te tf) σ H0 (.int (i + j)) := fun H s Q q => a H s _ fun v H1 tv s1 => b H1 (s.trans s1) _ fun w H2 tw s2 => by
  cases tv.intE; cases tw.intE
  exact ⟨_, _, rfl, rfl, q _ _ (.int _) (s1.trans s2)⟩
theorem ET.sub (a : ET K te σ H0 (.int i)) (b : ET K tf σ H0 (.int j)) : ET K (tOp rSbI te tf) σ H0 (.int (i - j)) := fun H s Q q => a H s _ fun v H1 tv s1 => b H1 (s.trans s1) _ fun w H2 tw s2 => by
  cases tv.intE; cases tw.intE
  exact ⟨_, _, rfl, rfl, q _ _ (.int _) (s1.trans s2)⟩
theorem ET.mul (a : ET K te σ H0 (.int i)) (b : ET K tf σ H0 (.int j)) (h : 0 ≤ i ∧ i < 100000000) : ET K (tOp rMlI te tf) σ H0 (.int (i * j)) := fun H s Q q => a H s _ fun v H1 tv s1 => b H1 (s.trans s1) _ fun w H2 tw s2 => by
  cases tv.intE; cases tw.intE
  exact ⟨_, _, rfl, rfl, cmul_small h, q _ _ (.int _) (s1.trans s2)⟩
theorem ET.md (a : ET K te σ H0 (.int i)) (b : ET K tf σ H0 (.int j)) (h : 0 < j) : ET K (tOp rMdI te tf) σ H0 (.int (i % j)) := fun H s Q q => a H s _ fun v H1 tv s1 => b H1 (s.trans s1) _ fun w H2 tw s2 => by
  cases tv.intE; cases tw.intE
  exact ⟨_, _, rfl, rfl, h, q _ _ (.int _) (s1.trans s2)⟩
theorem EA.nil : EA K tNil σ H0 [] := fun H s Q q => q _ _ .nil (Same.refl _)
theorem EA.cons (a : ET K te σ H0 d) (b : EA K tr σ H0 ds) : EA K (tCons te tr) σ H0 (d :: ds) := fun H s Q q => a H s _ fun v H1 tv s1 => b H1 (s.trans s1) _ fun vs H2 tvs s2 => q _ _ (.cons (tv.mono (Tk.same s2)) tvs) (s1.trans s2)
theorem ET.tup (a : EA K ta σ H0 ds) (hl : Nat.ble ds.length 100 = true := by rfl) : ET K (tTup ta) σ H0 (.tuple ds) := fun H s Q q => a H s _ fun vs H1 tvs s1 => ⟨by rw [tvs.length]; exact sz_le1 (Nat.le_trans (Nat.le_of_ble_eq_true hl) (by omega)), fun p hp => q _ _ (Tp.mk hp tvs) (s1.trans (Same.new hp))⟩
/-- at once -/
theorem ET.use (a : ET K te σ H d) {Q : VK} (q : ∀ v H', Tp K H' v d → Same H H' → Q v H') : te σ H Q := a H (Same.refl _) Q q
/-- tuple(list of data) -/
theorem ET.tupOf {p : Addr} {us : List V} (hs : σ[k]? = some (some (.ref p))) (h : H0 p = some (.lst us)) (t : TpAll K H0 us ds) : ET K (tCB (rTupOf K) (tCons (tVar k) tNil)) σ H0 (.tuple ds) := fun H s Q q => by
  refine ⟨_, hs, p, us, rfl, .inl ⟨SqL.of (s _ _ h), fun l hl => ?_⟩⟩
  exact q _ _ (Tp.mk hl (t.mono (Tk.same s))) (Same.new hl)
theorem gn {Q : L2.St → Hp → Prop} (h : Q (σ.set k (some v)) H) : gName k v σ H Q := h
theorem ET.asg {D : Ends} {tb : TS} (a : ET K te σ H d) (q : ∀ v H', Tp K H' v d → Same H H' → tb D (σ.set k (some v)) H') : tSeq (tAsg te (gName k)) tb D σ H := a.use fun v H' t s => q v H' t s
/-- a list of data -/
theorem EA.lst (a : EA K ta σ H ds) (hl : Nat.ble ds.length 100 = true) {Q : VK} (q : ∀ p vs H', H p = none → H' p = some (.lst vs) → TpAll K H' vs ds → Same H H' → Q (.ref p) H') : tLst ta σ H Q := a H (Same.refl _) _ fun vs H1 tvs s1 => ⟨by rw [tvs.length]; exact sz_le1 (Nat.le_trans (Nat.le_of_ble_eq_true hl) (by omega)), fun p hp => q p vs _ (s1.free hp) upd_same (tvs.mono (Tk.new hp)) (s1.trans (Same.new hp))⟩
theorem EA.asg {D : Ends} {tb : TS} (a : EA K ta σ H ds) (hl : Nat.ble ds.length 100 = true) (q : ∀ p vs H', H p = none → H' p = some (.lst vs) → TpAll K H' vs ds → Same H H' → tb D (σ.set k (some (.ref p))) H') : tSeq (tAsg (tLst ta) (gName k)) tb D σ H := EA.lst (Q := fun v H' => tb D (σ.set k (some v)) H') a hl q
/-- [te for i in range(n)], data each -/
theorem lc_data {n : Nat} {te : TE} {σ : L2.St} {vsl : List Nat} {g : TG} {D : Addr} {Qd : Hp → Prop} {f : Nat → PyData} (hn : n ≤ 100000) (hD : H D = none)
    (hs : ∀ i H', i < n → Same H H' → g (.int (0 + (i : Int))) (wipe σ vsl) H' fun σ2 H2 => wipe σ2 vsl = wipe σ vsl ∧ Same H' H2 ∧ ET K te σ2 H2 (f i))
    (hd : ∀ H' us, H' D = some (.lst us) → TpAll K H' us ((List.range n).map f) → Same H H' → Qd H')
    (mono : ∀ v σ H Q Q', (∀ σ' H', Q σ' H' → Q' σ' H') → g v σ H Q → g v σ H Q') :
    ∃ W : Nat → Nat → Hp → Prop, (∃ m, W 0 m (upd H D (.lst []))) ∧ ∀ i m H, W i m H →
      ((Itr 0 n).stop i H ∧ Qd H) ∨ ((Itr 0 n).go i H ∧ ∃ Nx : Hp → Prop, (∀ H', Nx H' → ∃ m', m' < m ∧ W (i + 1) m' H') ∧ ∀ x H', (Itr 0 n).yld i H x H' → g x (wipe σ vsl) H' fun σ2 H2 => wipe σ2 vsl = wipe σ vsl ∧ tYes σ2 H2 fun b H3 =>
        if b = true then te σ2 H3 fun y H4 => ∃ acc, H4 D = some (.lst acc) ∧ acc.length < sizeLine ∧ Nx (upd H4 D (.lst (acc ++ [y]))) else Nx H3) := by
  refine lc_range (lo := 0) (n := n) (fun i H' => ∃ us, H' D = some (.lst us) ∧ TpAll K H' us ((List.range i).map f) ∧ Same H H') ⟨[], upd_same, .nil, Same.new hD⟩ ?_ fun H' ⟨us, h1, h2, h3⟩ => hd H' us h1 h2 h3
  rintro i H' hi ⟨us, h1, h2, h3⟩
  refine mono _ _ _ _ _ ?_ (hs i H' hi h3)
  rintro σ2 H2 ⟨e, s2, et⟩
  refine ⟨e, ?_⟩
  refine et.use fun v H4 tv s4 => ?_
  have s24 := s2.trans s4
  refine ⟨us, s24 _ _ h1, ?_, us ++ [v], upd_same, ?_, ?_⟩
  · rw [h2.length]; simp; exact sz_lt1 (by omega)
  · rw [List.range_succ, List.map_append]
    exact ((h2.mono (Tk.same s24)).snoc tv).mono (Tk.lst (s24 _ _ h1))
  · intro b o eo
    rw [upd_ne (ne_of_none eo hD)]
    exact s24 _ _ (h3 _ _ eo)
end
theorem gName_mono {k : Nat} (v : V) (σ : L2.St) (H : Hp) (Q Q' : L2.St → Hp → Prop) (h : ∀ σ' H', Q σ' H' → Q' σ' H') (g : gName k v σ H Q) : gName k v σ H Q' := h _ _ g
/-- the machine's way over a program of the law's own -/
theorem way_fix {p : Pg} {fn : Nat × Sm} {ns : List Int} {most : Int} {dp : Nat} {o : Out} {w1 : WSt} {c : Nat} (hp : PgR p) (wk : WfK p.kinds) (f0 : p.funs[0]? = some fn) (few : ns.length ≤ 8) (inr : ∀ n ∈ ns, 0 ≤ n ∧ n < 10007) (d0 : 1 ≤ dp) (d1 : dp ≤ 25) (hc : c ≤ 20000) (hR : Rn p dp 1 [] fn.2 ⟨slotsFor ns, most, []⟩ o w1 c) :
    ∃ mf, Way ⟨p.code, p.kinds, dp⟩ (mc0 most ns) (c + o.tick 2) mf ∧ mf.last = some (if o = .on then .ret 0 else o) ∧ mf.told = w1.told := by
  obtain ⟨mf, g, l, t, _⟩ := Rn.run hp f0 hR
  have tk := tick_le o 2
  refine ⟨mf, ⟨g, by rw [l]; rfl, ⟨0, 0, Inv.start d0 (by
    have := (List.getElem?_eq_some_iff.mp f0).1
    show 0 < p.code.length
    simp only [Pg.code, List.length_map]; exact this) few inr, by omega, ?_⟩, by show dp ≤ 1000; omega, wk, hp.mcodeOk⟩, l, t⟩
  show 0 + (c + o.tick 2) * (dp + 1) ≤ 900000
  have : (c + o.tick 2) * (dp + 1) ≤ 30000 * 26 := Nat.mul_le_mul (by omega) (by omega)
  omega
/-- the whole of it at one go -/
theorem go_whole {e : ME} {mf m1 : Mc} {c k : Nat} (h : c ≤ k) (w : Way e m1 (c - min k c) mf) : m1 = mf := by
  have e0 : c - min k c = 0 := by omega
  rw [e0] at w
  have g := w.go
  cases g
  rfl
end Lp

/-! LmL: what a law over a machine needs again and again. -/
namespace Lp
open PySem PySem.Spec PyProof.Rows L2
/-- two takes in a list, one of them by a truth -/
theorem two_pick {K : PySem.W.Frag} {σ : L2.St} {H : Hp} {b : Addr} {l : List Int} {n1 n2 : Int} {t : Bool} {Q : VK} (h1 : σ[1]? = some (some (.ref b))) (h2 : σ[2]? = some (some (.bl t))) (hb : H b = some (.lst (l.map V.int))) (p1 : 0 < n1 ∧ n1 ≤ 1000) (p2 : 0 < n2 ∧ n2 ≤ 1000)
    (q : ∀ (x : Int) (l' : List Int) H', 0 ≤ x → (x < n1 ∨ x < n2) → H' b = some (.lst (l'.map V.int)) → Q (.int x) H') :
    tOp (rIxL K) (tLst (tCons (tCall spTake [] E0 (tCons (tVar 1) (tCons (tC (.int n1)) tNil))) (tCons (tCall spTake [] E0 (tCons (tVar 1) (tCons (tC (.int n2)) tNil))) tNil))) (tCB rInt1 (tCons (tVar 2) tNil)) σ H Q := by
  refine ⟨_, h1, b, l, n1, rfl, hb, p1.1, by omega, fun x l1 H1 x0 x1 hb1 kp1 => ?_⟩
  refine ⟨_, h1, b, l1, n2, rfl, hb1, p2.1, by omega, fun y l2 H2 y0 y1 hb2 kp2 => ?_⟩
  refine ⟨(by show 2 ≤ sizeLine; decide), fun p hp => ⟨_, h2, .inr ⟨_, rfl, ?_⟩⟩⟩
  have hb3 : L2.upd H2 p (.lst [.int x, .int y]) b = some (.lst (l2.map V.int)) := by rw [upd_ne (ne_of_none hb2 hp)]; exact hb2
  cases t with
  | false => exact ⟨p, _, 0, .int x, rfl, rfl, SqL.of upd_same, atI_nat (j := 0) rfl, q x l2 _ x0 (.inl x1) hb3⟩
  | true => exact ⟨p, _, 1, .int y, rfl, rfl, SqL.of upd_same, atI_nat (j := 1) rfl, q y l2 _ y0 (.inr y1) hb3⟩
/-- a first argument, of a making and of a call -/
theorem mk_use {K : PySem.W.Frag} {σ : L2.St} {H : Hp} {d : PyData} {C : Addr} {sp : Sp} {E : XK} {te : TE} {tr : TA} {g : TG} {tb : TS} {D : Ends} (a : ET K te σ H d) (q : ∀ v H', Tp K H' v d → Same H H' → tr σ H' fun vs H1 => ∀ x dx, H1 x = none → H1 dx = none → dx ≠ x →
    sp (.ref x :: (v :: vs ++ [])) (upd (upd H1 dx (.own x)) x (.ins C dx [])) (fun v H2 => v = .non ∧ g (.ref x) σ H2 (tb D)) E) :
    tSeq (tAsg (tMake C sp [] E (tCons te tr)) g) tb D σ H := a.use fun v H' t s => q v H' t s
theorem call_use {K : PySem.W.Frag} {σ : L2.St} {H : Hp} {d : PyData} {sp : Sp} {E : XK} {te : TE} {tr : TA} {Q : VK} (a : ET K te σ H d) (q : ∀ v H', Tp K H' v d → Same H H' → tr σ H' fun vs H1 => sp (v :: vs ++ []) H1 Q E) : tCall sp [] E (tCons te tr) σ H Q := a.use q
theorem cons_use {σ : L2.St} {H : Hp} {te : TE} {tr : TA} {Q : List V → Hp → Prop} (h : te σ H fun v H1 => tr σ H1 fun vs H2 => Q (v :: vs) H2) : tCons te tr σ H Q := h
end Lp

/-! LmM: more data that a law writes down. -/
namespace Lp
open PySem PySem.Spec PyProof.Rows L2
section
variable {K : PySem.W.Frag} {σ : L2.St} {H0 H : Hp} {i j : Int} {k : Nat} {x : Str} {v : V} {d e : PyData} {ds : List PyData} {ta tr : TA} {te tf : TE}
/-- a[e] of a list of data -/
theorem ET.ixL {p : Addr} {us : List V} {n : Nat} (hs : σ[k]? = some (some (.ref p))) (h : H0 p = some (.lst us)) (t : TpAll K H0 us ds) (a : ET K te σ H0 (.int j)) (ej : j = (n : Int)) (hd : ds[n]? = some d) : ET K (tOp (rIxL K) (tVar k) te) σ H0 d := fun H s Q q => ⟨_, hs, a H s _ fun v H1 tv s1 => by
  cases tv.intE
  subst ej
  obtain ⟨u, hu, tu⟩ := t.get' hd
  exact ⟨p, us, _, u, rfl, rfl, SqL.of (s1 _ _ (s _ _ h)), atI_nat hu, q _ _ (tu.mono (Tk.same (s.trans s1))) s1⟩⟩
/-- one of two, by a truth -/
theorem ET.pick {b : Bool} (ht : σ[k]? = some (some (.bl b))) (a : ET K te σ H0 d) (c : ET K tf σ H0 e) : ET K (tOp (rIxL K) (tLst (tCons te (tCons tf tNil))) (tCB rInt1 (tCons (tVar k) tNil))) σ H0 (if b = true then e else d) := fun H s Q q => by
  refine a H s _ fun v H1 tv s1 => c H1 (s.trans s1) _ fun w H2 tw s2 => ⟨(by show 2 ≤ sizeLine; decide), fun p hp => ⟨_, ht, .inr ⟨_, rfl, ?_⟩⟩⟩
  have s3 : Same H2 (L2.upd H2 p (.lst [v, w])) := Same.new hp
  cases b with
  | false => exact ⟨p, _, 0, v, rfl, rfl, SqL.of upd_same, atI_nat (j := 0) rfl, q _ _ (tv.mono (Tk.same (s2.trans s3))) (s1.trans (s2.trans s3))⟩
  | true => exact ⟨p, _, 1, w, rfl, rfl, SqL.of upd_same, atI_nat (j := 1) rfl, q _ _ (tw.mono (Tk.same s3)) (s1.trans (s2.trans s3))⟩
/-- tuple(list) of a list that is made there -/
theorem ET.tupLst {tl : TE} (h : ∀ H, Same H0 H → ∀ Q : VK, (∀ p us H', H' p = some (.lst us) → TpAll K H' us ds → Same H H' → Q (.ref p) H') → tl σ H Q) : ET K (tCB (rTupOf K) (tCons tl tNil)) σ H0 (.tuple ds) := fun H s Q q => by
  refine h H s _ fun p us H1 hp tus s1 => ⟨p, us, rfl, .inl ⟨SqL.of hp, fun l hl => ?_⟩⟩
  exact q _ _ (Tp.mk hl tus) (s1.trans (Same.new hl))
/-- a list of takes -/
theorem lc_takes {n : Nat} {m : Int} {σ : L2.St} {vsl : List Nat} {g : TG} {D b : Addr} {l : List Int} {Qd : Hp → Prop} {te : TE} (hn : n ≤ 100000) (hm : 0 < m) (hm2 : m ≤ 1000) (hD : H D = none) (hb : H b = some (.lst (l.map V.int)))
    (hs : ∀ i H' (P : L2.St → Hp → Prop), (∀ σ2, wipe σ2 vsl = wipe σ vsl → σ2[1]? = some (some (V.ref b)) → P σ2 H') → g (.int (0 + (i : Int))) (wipe σ vsl) H' P)
    (hd : ∀ H' (us lb : List Int), us.length = n → (∀ x ∈ us, 0 ≤ x ∧ x < m) → H' D = some (.lst (us.map V.int)) → H' b = some (.lst (lb.map V.int)) → Kp (fun x => x = b) H H' → Qd H') (ete : te = tCall spTake [] E0 (tCons (tVar 1) (tCons (tC (.int m)) tNil))) :
    ∃ W : Nat → Nat → Hp → Prop, (∃ m, W 0 m (upd H D (.lst []))) ∧ ∀ i m H, W i m H →
      ((Itr 0 n).stop i H ∧ Qd H) ∨ ((Itr 0 n).go i H ∧ ∃ Nx : Hp → Prop, (∀ H', Nx H' → ∃ m', m' < m ∧ W (i + 1) m' H') ∧ ∀ x H', (Itr 0 n).yld i H x H' → g x (wipe σ vsl) H' fun σ2 H2 => wipe σ2 vsl = wipe σ vsl ∧ tYes σ2 H2 fun b H3 =>
        if b = true then te σ2 H3 fun y H4 => ∃ acc, H4 D = some (.lst acc) ∧ acc.length < sizeLine ∧ Nx (upd H4 D (.lst (acc ++ [y]))) else Nx H3) := by
  subst ete
  have Db : D ≠ b := fun z => by rw [z, hb] at hD; cases hD
  refine lc_range (lo := 0) (n := n) (fun i H' => ∃ (us lb : List Int), us.length = i ∧ (∀ x ∈ us, 0 ≤ x ∧ x < m) ∧ H' D = some (.lst (us.map V.int)) ∧ H' b = some (.lst (lb.map V.int)) ∧ Kp (fun x => x = b) H H') ⟨[], l, rfl, (by simp), upd_same, (by rw [upd_ne (Ne.symm Db)]; exact hb), Kp.new hD⟩ ?_ fun H' ⟨us, lb, h1, h2, h3, h4, h5⟩ => hd H' us lb h1 h2 h3 h4 h5
  rintro i H' hi ⟨us, lb, h1, h2, h3, h4, h5⟩
  refine hs i H' _ fun σ2 ew hσ => ⟨ew, ?_⟩
  refine ⟨_, hσ, b, lb, m, rfl, h4, hm, by omega, fun x l3 H3 x0 x1 hb3 kp3 => ?_⟩
  have h3' := kp3 _ _ h3 Db
  refine ⟨_, h3', by rw [List.length_map]; exact sz_lt1 (by omega), us ++ [x], l3, by simp [h1], ?_, ?_, ?_, ?_⟩
  · intro y hy
    rcases List.mem_append.mp hy with hy | hy
    · exact h2 y hy
    · rw [List.mem_singleton.mp hy]; exact ⟨x0, x1⟩
  · rw [upd_same, List.map_append]; rfl
  · rw [upd_ne (Ne.symm Db)]; exact hb3
  · exact (h5.trans kp3).late hD
/-- a name is given something else, or not -/
theorem if_asg {tt : TT} {b : Bool} {v0 : V} {D : Ends} {tb : TS} (ht : PB tt σ H b) (h0 : Tp K H v0 e) (hk : σ[k]? = some (some v0)) (a : ET K te σ H d) (q : ∀ v H', Tp K H' v (if b = true then d else e) → Same H H' → tb D (σ.set k (some v)) H') : tSeq (tIfS tt (tAsg te (gName k)) tNext) tb D σ H := by
  cases b with
  | true => exact r_ifT ht (a.use fun v H' t s => q v H' t s)
  | false =>
    have es : σ.set k (some v0) = σ := by
      obtain ⟨hl, hv⟩ := List.getElem?_eq_some_iff.mp hk
      rw [← hv]
      exact List.set_getElem_self hl
    refine r_ifF ht ?_
    have := q v0 H h0 (Same.refl _)
    rw [es] at this
    exact this
/-- the first of a tuple -/
theorem ET.cutT {n : Nat} (hs : σ[k]? = some (some v)) (t : Tp K H0 v (.tuple ds)) (a : ET K te σ H0 (.int j)) (ej : j = (n : Int)) (hn : n ≤ ds.length) : ET K (tSl (rSlA K) (tVar k) tNoPart (tPart te)) σ H0 (.tuple (ds.take n)) := fun H s Q q => ⟨_, hs, a H s _ fun w H1 tw s1 => by
  cases tw.intE
  subst ej
  have t1 := t.mono (Tk.same (s.trans s1))
  obtain ⟨p, xs, rfl, hT, tA⟩ := t1.tupE
  have hl := tA.length
  refine ⟨_, rfl, p, xs, rfl, hT, fun z => ?_, fun z p2 hp2 => ?_⟩
  · have e1 : n = xs.length := by
      have := z.2
      rw [HT.sIx_nat] at this
      omega
    have e2 : ds.take n = ds := List.take_of_length_le (by omega)
    exact q _ _ (by rw [e2]; exact t1) s1
  · rw [cut_take (by omega), Int.toNat_natCast]
    exact q _ _ (Tp.mk hp2 tA.takeN) (s1.trans (Same.new hp2))⟩
theorem seq {s t : TS} {D : Ends} (h : s { D with nx := t D } σ H) : tSeq s t D σ H := h
/-- one more behind a list -/
theorem app1 {p : Addr} {us : List V} {D : Ends} (hs : σ[k]? = some (some (.ref p))) (h : H p = some (.lst us)) (t : TpAll K H us ds) (hl : us.length ≤ 1000) (a : ET K te σ H d) (q : ∀ us' H', H' p = some (.lst us') → TpAll K H' us' (ds ++ [d]) → us'.length = us.length + 1 → (∀ b o, b ≠ p → H b = some o → H' b = some o) → Tk H H' → D.nx σ H') : tDrop (tBM K "list" rAppend (tVar k) (tCons te tNil)) D σ H := by
  refine ⟨_, hs, .inl ⟨rfl, _, SqL.of h⟩, a.use fun v G tv s => ⟨p, us, v, rfl, rfl, s _ _ h, sz_lt1 (by omega), ?_⟩⟩
  exact q (us ++ [v]) _ upd_same (((t.mono (Tk.same s)).snoc tv).mono (Tk.lst (s _ _ h))) (by simp) (fun b o n e => by rw [upd_ne n]; exact s b o e) ((Tk.same s).trans (Tk.lst (s _ _ h)))
end
end Lp

/-! LmN: what comes behind a statement is shown once. -/
namespace Lp
open PySem PySem.Spec PyProof.Rows L2
theorem seq_inv {s t : TS} {D : Ends} {σ : L2.St} {H : Hp} (I : L2.St → Hp → Prop) (h : ∀ nx : L2.St → Hp → Prop, (∀ σ' H', I σ' H' → nx σ' H') → s { D with nx := nx } σ H) (k : ∀ σ' H', I σ' H' → t D σ' H') : tSeq s t D σ H := h (t D) k
section
variable {K : PySem.W.Frag} {σ : L2.St} {H0 H : Hp} {k : Nat} {d : PyData} {te : TE}
/-- a name is given something, last of all -/
theorem ET.asgL {D : Ends} (a : ET K te σ H d) (q : ∀ v H', Tp K H' v d → Same H H' → D.nx (σ.set k (some v)) H') : tAsg te (gName k) D σ H := a.use fun v H' t s => q v H' t s
/-- an item of a tuple at hand -/
theorem ET.ixT {i j : Nat} {p : Addr} {xs : List V} {v : V} (hs : σ[i]? = some (some (.ref p))) (h : SqT K H0 p xs) (e : xs[j]? = some v) (t : Tp K H0 v d) : ET K (tOp (rIxT K) (tVar i) (tC (.int (j : Int)))) σ H0 d := fun H s Q q => rd_ixT hs (s.sqT h) e (q _ _ (t.mono (Tk.same s)) (Same.refl _))
/-- a tuple handed back, its first part data -/
theorem tup_use {tr : TA} {D : Ends} (a : ET K te σ H d) (q : ∀ v H', Tp K H' v d → Same H H' → tr σ H' fun vs H1 => (v :: vs).length ≤ sizeLine ∧ ∀ p, H1 p = none → D.rt (.ref p) (upd H1 p (.tup (v :: vs)))) : tRet (tTup (tCons te tr)) D σ H := a.use fun v H' t s => q v H' t s
/-- a list of data, whoever holds it -/
def EL (K : PySem.W.Frag) (tl : TE) (σ : L2.St) (H0 : Hp) (ds : List PyData) : Prop := ∀ H, Same H0 H → ∀ Q : VK, (∀ p us H', H' p = some (.lst us) → TpAll K H' us ds → Same H H' → Q (.ref p) H') → tl σ H Q
variable {ds es : List PyData} {ta tb : TE} {tA : TA} {p : Addr} {us : List V}
theorem EL.var (hs : σ[k]? = some (some (.ref p))) (h : H0 p = some (.lst us)) (t : TpAll K H0 us ds) : EL K (tVar k) σ H0 ds := fun H s Q q => ⟨_, hs, q p us H (s _ _ h) (t.mono (Tk.same s)) (Same.refl _)⟩
theorem EL.lst (a : EA K tA σ H0 ds) (hl : Nat.ble ds.length 100 = true := by rfl) : EL K (tLst tA) σ H0 ds := fun H s Q q => a H s _ fun vs H1 tvs s1 => ⟨by rw [tvs.length]; exact sz_le1 (Nat.le_trans (Nat.le_of_ble_eq_true hl) (by omega)), fun p hp => q p vs _ upd_same (tvs.mono (Tk.new hp)) (s1.trans (Same.new hp))⟩
theorem EL.cat (a : EL K ta σ H0 ds) (b : EL K tb σ H0 es) (hl : ds.length + es.length ≤ 1000) : EL K (tOp rCat ta tb) σ H0 (ds ++ es) := fun H s Q q => a H s _ fun p us H1 hp tus s1 => b H1 (s.trans s1) _ fun r ws H2 hr tws s2 => by
  refine ⟨p, r, us, ws, rfl, rfl, s2 _ _ hp, hr, sz_le1 (by rw [tus.length, tws.length]; omega), fun z hz => ?_⟩
  exact q z (us ++ ws) _ upd_same (((tus.mono (Tk.same s2)).app tws).mono (Tk.new hz)) (s1.trans (s2.trans (Same.new hz)))
theorem EL.tup (a : EL K ta σ H0 ds) : ET K (tCB (rTupOf K) (tCons ta tNil)) σ H0 (.tuple ds) := ET.tupLst a
theorem EL.asg {D : Ends} {tn : TS} (a : EL K ta σ H ds) (q : ∀ p us H', H' p = some (.lst us) → TpAll K H' us ds → Same H H' → tn D (σ.set k (some (.ref p))) H') : tSeq (tAsg ta (gName k)) tn D σ H := a H (Same.refl _) _ fun p us H' hp t s => q p us H' hp t s
/-- [te for x in list] -/
theorem EL.comp {i : Nat} {te : TE} (hs : σ[i]? = some (some (.ref p))) (h : H0 p = some (.lst us)) (t : TpAll K H0 us ds) (hl : es.length = ds.length) (hz : ds.length < 1000000) (hw : ∀ x, wipe ((wipe σ [k]).set k x) [k] = wipe σ [k])
    (step : ∀ (j : Nat) (x : V) (d e : PyData) (H2 : Hp), ds[j]? = some d → es[j]? = some e → Same H0 H2 → Tp K H2 x d → ET K te ((wipe σ [k]).set k (some x)) H2 e) : EL K (tLc (iList K (tVar i)) (gName k) tYes te [k]) σ H0 es := fun H s Q q => by
  refine ⟨_, hs, p, rfl, ⟨_, SqL.of (s _ _ h)⟩, fun L hL => ?_⟩
  refine lc_same (K := K) (es := es) (SqL.of (s _ _ h)) (t.mono (Tk.same s)) hl hL hz hw (fun j x d e H2 hd he s2 tx Q' q' => ?_) fun vs H' hv tv s' => q L vs H' hv tv s'
  exact (step j x d e H2 hd he (s.trans s2) tx) H2 (Same.refl _) _ fun y H3 ty s3 => q' y H3 s3 ty
/-- [te for i in range(n)] -/
theorem EL.range {n : Nat} {te : TE} {f : Nat → PyData} {m : Int} (em : m = (n : Int)) (hn : n ≤ 100000) (hw : ∀ x, wipe ((wipe σ [k]).set k x) [k] = wipe σ [k])
    (step : ∀ (j : Nat) (H2 : Hp), j < n → Same H0 H2 → ET K te ((wipe σ [k]).set k (some (.int (0 + (j : Int))))) H2 (f j)) (ti : TE) (hi : ET K ti σ H0 (.int m)) : EL K (tLc (iRng1 (tCons ti tNil)) (gName k) tYes te [k]) σ H0 ((List.range n).map f) := fun H s Q q => by
  refine hi H s _ fun v H1 tv s1 => ?_
  cases tv.intE
  subst em
  refine ⟨_, rfl, by omega, by omega, fun D2 hD2 => lc_data (K := K) (n := ((n : Nat) : Int).toNat) (f := f) (by omega) hD2 (fun j H' hj s' => ⟨hw _, Same.refl _, step j H' (by omega) (s.trans (s1.trans s'))⟩) (fun HF us2 hDF tus sF => q _ _ _ hDF (by rw [Int.toNat_natCast] at tus; exact tus) (s1.trans sF)) (fun v σ H Q Q' h g => gName_mono v σ H Q Q' h g)⟩
theorem ET.len {i : Nat} (hs : σ[i]? = some (some (.ref p))) (h : H0 p = some (.lst us)) : ET K (tCB (rLenQ K) (tCons (tVar i) tNil)) σ H0 (.int (us.length : Int)) := fun H s Q q => ⟨_, hs, p, us, rfl, .inl (SqL.of (s _ _ h)), q _ _ (.int _) (Same.refl _)⟩
end
/-- a list of takes, of large numbers -/
theorem lc_takesB {K : PySem.W.Frag} {H : Hp} {n : Nat} {m : Int} {σ : L2.St} {vsl : List Nat} {g : TG} {D b : Addr} {l : List Int} {Qd : Hp → Prop} {te : TE} (hn : n ≤ 100000) (hm : 0 < m) (hm2 : m ≤ 2000000) (hD : H D = none) (hb : H b = some (.lst (l.map V.int)))
    (hs : ∀ i H' (P : L2.St → Hp → Prop), (∀ σ2, wipe σ2 vsl = wipe σ vsl → σ2[1]? = some (some (V.ref b)) → P σ2 H') → g (.int (0 + (i : Int))) (wipe σ vsl) H' P)
    (hd : ∀ H' (us lb : List Int), us.length = n → (∀ x ∈ us, 0 ≤ x ∧ x < m) → H' D = some (.lst (us.map V.int)) → H' b = some (.lst (lb.map V.int)) → Kp (fun x => x = b) H H' → Qd H') (ete : te = tCall spTake [] E0 (tCons (tVar 1) (tCons (tC (.int m)) tNil))) :
    ∃ W : Nat → Nat → Hp → Prop, (∃ m, W 0 m (upd H D (.lst []))) ∧ ∀ i m H, W i m H →
      ((Itr 0 n).stop i H ∧ Qd H) ∨ ((Itr 0 n).go i H ∧ ∃ Nx : Hp → Prop, (∀ H', Nx H' → ∃ m', m' < m ∧ W (i + 1) m' H') ∧ ∀ x H', (Itr 0 n).yld i H x H' → g x (wipe σ vsl) H' fun σ2 H2 => wipe σ2 vsl = wipe σ vsl ∧ tYes σ2 H2 fun b H3 =>
        if b = true then te σ2 H3 fun y H4 => ∃ acc, H4 D = some (.lst acc) ∧ acc.length < sizeLine ∧ Nx (upd H4 D (.lst (acc ++ [y]))) else Nx H3) := by
  subst ete
  have Db : D ≠ b := fun z => by rw [z, hb] at hD; cases hD
  refine lc_range (lo := 0) (n := n) (fun i H' => ∃ (us lb : List Int), us.length = i ∧ (∀ x ∈ us, 0 ≤ x ∧ x < m) ∧ H' D = some (.lst (us.map V.int)) ∧ H' b = some (.lst (lb.map V.int)) ∧ Kp (fun x => x = b) H H') ⟨[], l, rfl, (by simp), upd_same, (by rw [upd_ne (Ne.symm Db)]; exact hb), Kp.new hD⟩ ?_ fun H' ⟨us, lb, h1, h2, h3, h4, h5⟩ => hd H' us lb h1 h2 h3 h4 h5
  rintro i H' hi ⟨us, lb, h1, h2, h3, h4, h5⟩
  refine hs i H' _ fun σ2 ew hσ => ⟨ew, ?_⟩
  refine ⟨_, hσ, b, lb, m, rfl, h4, hm, by omega, fun x l3 H3 x0 x1 hb3 kp3 => ?_⟩
  have h3' := kp3 _ _ h3 Db
  refine ⟨_, h3', by rw [List.length_map]; exact sz_lt1 (by omega), us ++ [x], l3, by simp [h1], ?_, ?_, ?_, ?_⟩
  · intro y hy
    rcases List.mem_append.mp hy with hy | hy
    · exact h2 y hy
    · rw [List.mem_singleton.mp hy]; exact ⟨x0, x1⟩
  · rw [upd_same, List.map_append]; rfl
  · rw [upd_ne (Ne.symm Db)]; exact hb3
  · exact (h5.trans kp3).late hD
end Lp

/-! Lx20: the plain law of a while within cleanups that have whiles of their own. -/
namespace Lp
open PySem PySem.Spec PyProof.Rows L2
namespace K20
def stop (at_ : Int) : Sm := .ife (.bin .less (.var 1) (.num at_)) .brk (.row .nil)
def step : Sm := .set 1 (.bin .sub (.var 1) (.num 1))
def turn (at_ : Int) : Sm := .row (.cons (.say (.var 1)) (.cons step (.cons (stop at_) .nil)))
def wl (at_ : Int) : Sm := .whl (.var 1) (turn at_)
def leave (c : Bool) : Sm := if c = true then .row (.cons (.set 2 (.num 0)) (.cons .cnt .nil)) else .brk
def pair (n : Int) (c : Bool) : List Sm := [.set 2 (.num 1), .whl (.var 2) (.row (.cons (.say (.num (n + 50))) (.cons (leave c) .nil)))]
def own (n : Int) (cs : List Bool) : Sm := .row (Sms.ofL (.say (.num n) :: (cs.map (pair n)).flatten))
def ownDue (n : Int) (cs : List Bool) : List Ev := .say n :: cs.map fun _ => .say (n + 50)
def dn (at_ : Int) : Nat → List Ev
  | 0 => []
  | v + 1 => .say ((v + 1 : Nat) : Int) :: if (v : Int) < at_ then [] else dn at_ v
def sl (N v : Int) : List Int := [N, v, 0, 0, 0, 0, 0, 0]
section
variable {p : Pg}
theorem wl_run {at_ N : Int} : ∀ (v : Nat) (L : Int) (T : List Ev), v ≤ 9 → (v : Int) < L → ∃ v' L' c, Rn p 1 1 [] (wl at_) ⟨sl N v, L, T⟩ .on ⟨sl N v', L', T ++ dn at_ v⟩ c ∧ c ≤ 4 + 20 * v ∧ L - v ≤ L'
  | 0, L, T, _, _ => ⟨0, L, _, by
      rw [show T ++ dn at_ 0 = T from List.append_nil T]
      exact Rn.whl0 rfl, by simp [Ex.len], by omega⟩
  | v + 1, L, T, hv, hL => by
    have hc : Ex.val (sl N ((v + 1 : Nat) : Int)) (.var 1) ≠ 0 := by
      show ((v + 1 : Nat) : Int) ≠ 0
      omega
    have hs : Rn p 1 1 [] (.say (.var 1)) ⟨sl N ((v + 1 : Nat) : Int), L - 1, T⟩ .on ⟨sl N ((v + 1 : Nat) : Int), L - 1, T ++ [.say ((v + 1 : Nat) : Int)]⟩ 2 := Rn.say
    have hset : Rn p 1 1 [] step ⟨sl N ((v + 1 : Nat) : Int), L - 1, T ++ [.say ((v + 1 : Nat) : Int)]⟩ .on ⟨sl N (v : Int), L - 1, T ++ [.say ((v + 1 : Nat) : Int)]⟩ 4 := by
      have h := Rn.set (p := p) (dp := 1) (d := 1) (met := []) (k := 1) (e := .bin .sub (.var 1) (.num 1)) (w := ⟨sl N ((v + 1 : Nat) : Int), L - 1, T ++ [.say ((v + 1 : Nat) : Int)]⟩)
      have e : (sl N ((v + 1 : Nat) : Int)).set 1 ((((v + 1 : Nat) : Int) - 1) % 10007) = sl N (v : Int) := by
        have : (((v + 1 : Nat) : Int) - 1) % 10007 = (v : Int) := by omega
        rw [this]; rfl
      have h : Rn p 1 1 [] step _ .on ⟨(sl N ((v + 1 : Nat) : Int)).set 1 ((((v + 1 : Nat) : Int) - 1) % 10007), L - 1, T ++ [.say ((v + 1 : Nat) : Int)]⟩ 4 := h
      rw [e] at h
      exact h
    have hl : Ex.val (sl N (v : Int)) (.bin .less (.var 1) (.num at_)) = if (v : Int) < at_ then 1 else 0 := rfl
    by_cases z : (v : Int) < at_
    · have h3 : Rn p 1 1 [] (stop at_) ⟨sl N (v : Int), L - 1, T ++ [.say ((v + 1 : Nat) : Int)]⟩ .brk ⟨sl N (v : Int), L - 1, T ++ [.say ((v + 1 : Nat) : Int)]⟩ _ := Rn.ifT (by show Ex.val (sl N (v : Int)) _ ≠ 0; rw [hl, if_pos z]; decide) Rn.brk
      have hb := Rn.row (RnS.next hs (RnS.next hset (RnS.stop (r := .nil) h3 (by intro y; cases y))))
      have e : dn at_ (v + 1) = [.say ((v + 1 : Nat) : Int)] := by show _ :: (if _ then _ else _) = _; rw [if_pos z]
      refine ⟨v, L - 1, _, by rw [e]; exact Rn.whlB hc (by show 0 < L; omega) hb, by simp [Ex.len, Out.tick]; omega, by omega⟩
    · have h3 : Rn p 1 1 [] (stop at_) ⟨sl N (v : Int), L - 1, T ++ [.say ((v + 1 : Nat) : Int)]⟩ .on ⟨sl N (v : Int), L - 1, T ++ [.say ((v + 1 : Nat) : Int)]⟩ _ := Rn.ifF (by show Ex.val (sl N (v : Int)) _ = 0; rw [hl, if_neg z]) (Rn.row RnS.nil)
      have hb := Rn.row (RnS.next hs (RnS.next hset (RnS.next h3 RnS.nil)))
      obtain ⟨v', L', c, h, hc', hL'⟩ := wl_run (at_ := at_) (N := N) v (L - 1) (T ++ [.say ((v + 1 : Nat) : Int)]) (by omega) (by omega)
      have e : T ++ dn at_ (v + 1) = T ++ [.say ((v + 1 : Nat) : Int)] ++ dn at_ v := by
        rw [List.append_assoc]
        congr 1
        show _ :: (if _ then _ else _) = _
        rw [if_neg z]; rfl
      rw [← e] at h
      exact ⟨v', L', _, Rn.whlN hc (by show 0 < L; omega) hb (.inl rfl) h, by simp [Ex.len, Out.tick]; omega, by omega⟩
theorem set_get {σ : List Int} {k : Nat} {x : Int} (h : k < σ.length) : (σ.set k x).getD k 0 = x := by
  rw [List.getD_eq_getElem?_getD, List.getElem?_set_self h]; rfl
theorem pair_run {n : Int} {c : Bool} {r : Sms} {C : Nat} {F : WSt → Prop} {σ : List Int} {L : Int} {T : List Ev} (h8 : σ.length = 8) (hL : 0 < L)
    (go : ∀ σ' : List Int, σ'.length = 8 → ∃ w' k, RnS p 1 1 [] r ⟨σ', L - 1, T ++ [.say (n + 50)]⟩ .on w' k ∧ k ≤ C ∧ F w') :
    ∃ w' k, RnS p 1 1 [] (.cons (.set 2 (.num 1)) (.cons (.whl (.var 2) (.row (.cons (.say (.num (n + 50))) (.cons (leave c) .nil)))) r)) ⟨σ, L, T⟩ .on w' k ∧ k ≤ C + 30 ∧ F w' := by
  have hs : Rn p 1 1 [] (.set 2 (.num 1)) ⟨σ, L, T⟩ .on ⟨σ.set 2 1, L, T⟩ 2 := Rn.set
  have hc : Ex.val (σ.set 2 1) (.var 2) ≠ 0 := by
    show (σ.set 2 1).getD 2 0 ≠ 0
    rw [set_get (by omega)]; decide
  have hy : Rn p 1 1 [] (.say (.num (n + 50))) ⟨σ.set 2 1, L - 1, T⟩ .on ⟨σ.set 2 1, L - 1, T ++ [.say (n + 50)]⟩ 2 := Rn.say
  cases c with
  | false =>
    obtain ⟨w', k, h, hk, hF⟩ := go (σ.set 2 1) (by simpa using h8)
    have hb := Rn.row (RnS.next hy (RnS.stop (r := .nil) (Rn.brk (p := p) (dp := 1) (d := 1) (met := [])) (by intro y; cases y)))
    exact ⟨w', _, RnS.next hs (RnS.next (Rn.whlB hc hL hb) h), by simp [Ex.len]; omega, hF⟩
  | true =>
    obtain ⟨w', k, h, hk, hF⟩ := go ((σ.set 2 1).set 2 0) (by simpa using h8)
    have hz : Rn p 1 1 [] (.set 2 (.num 0)) ⟨σ.set 2 1, L - 1, T ++ [.say (n + 50)]⟩ .on ⟨(σ.set 2 1).set 2 0, L - 1, T ++ [.say (n + 50)]⟩ 2 := Rn.set
    have hb := Rn.row (RnS.next hy (RnS.stop (r := .nil) (Rn.row (RnS.next hz (RnS.stop (r := .nil) (Rn.cnt (p := p) (dp := 1) (d := 1) (met := [])) (by intro y; cases y)))) (by intro y; cases y)))
    have h0 : Ex.val ((σ.set 2 1).set 2 0) (.var 2) = 0 := by
      show ((σ.set 2 1).set 2 0).getD 2 0 = 0
      rw [set_get (by simp; omega)]
    exact ⟨w', _, RnS.next hs (RnS.next (Rn.whlN hc hL hb (.inr rfl) (Rn.whl0 h0)) h), by simp [Ex.len, Out.tick]; omega, hF⟩
theorem pairs_run {n : Int} : ∀ (cs : List Bool) (σ : List Int) (L : Int) (T : List Ev), σ.length = 8 → (cs.length : Int) < L → ∃ w' k, RnS p 1 1 [] (Sms.ofL (cs.map (pair n)).flatten) ⟨σ, L, T⟩ .on w' k ∧ k ≤ 30 * cs.length ∧ (w'.σ.length = 8 ∧ L - cs.length ≤ w'.left ∧ w'.told = T ++ cs.map fun _ => .say (n + 50))
  | [], σ, L, T, h8, hL => ⟨_, _, RnS.nil, by simp, h8, by simp, by simp⟩
  | c :: cs, σ, L, T, h8, hL => by
    have hl : ((c :: cs).length : Int) = cs.length + 1 := by simp
    obtain ⟨w', k, h, hk, h1, h2, h3⟩ := pair_run (p := p) (n := n) (c := c) (C := 30 * cs.length) (r := Sms.ofL (cs.map (pair n)).flatten) (F := fun (w' : WSt) => w'.σ.length = 8 ∧ L - 1 - cs.length ≤ w'.left ∧ w'.told = T ++ [.say (n + 50)] ++ cs.map fun _ => .say (n + 50)) h8 (by omega) fun σ' h8' => pairs_run cs σ' (L - 1) (T ++ [.say (n + 50)]) h8' (by omega)
    exact ⟨w', k, h, by rw [List.length_cons]; omega, h1, by omega, by rw [h3]; simp⟩
theorem own_run {n : Int} {cs : List Bool} {σ : List Int} {L : Int} {T : List Ev} (h8 : σ.length = 8) (hL : (cs.length : Int) < L) : ∃ σ' L' k, Rn p 1 1 [] (own n cs) ⟨σ, L, T⟩ .on ⟨σ', L', T ++ ownDue n cs⟩ k ∧ k ≤ 2 + 30 * cs.length ∧ σ'.length = 8 ∧ L - cs.length ≤ L' := by
  have hy : Rn p 1 1 [] (.say (.num n)) ⟨σ, L, T⟩ .on ⟨σ, L, T ++ [.say n]⟩ 2 := Rn.say
  obtain ⟨⟨σ', L', T'⟩, k, h, hk, h1, h2, h3⟩ := pairs_run (p := p) (n := n) cs σ L (T ++ [.say n]) h8 hL
  have h3 : T' = T ++ [.say n] ++ cs.map fun _ => .say (n + 50) := h3
  subst h3
  have e : T ++ ownDue n cs = T ++ [.say n] ++ cs.map fun _ => .say (n + 50) := by unfold ownDue; simp
  rw [e]
  exact ⟨σ', L', _, Rn.row (RnS.next hy h), by omega, h1, h2⟩
/-- a statement that tells just this and goes on, whatever it has -/
def Good (p : Pg) (N L0 : Int) (C : Nat) (b : Sm) (due : List Ev) : Prop := ∃ σ L c, Rn p 1 1 [] b ⟨sl N N, 90, []⟩ .on ⟨σ, L, due⟩ c ∧ c ≤ C ∧ σ.length = 8 ∧ L0 ≤ L
theorem good0 {at_ : Int} {N : Nat} (h : N ≤ 9) : Good p N 80 200 (wl at_) (dn at_ N) := by
  obtain ⟨v', L', c, hR, hc, hL⟩ := wl_run (p := p) (at_ := at_) (N := (N : Int)) N 90 [] h (by omega)
  exact ⟨_, _, _, hR, by omega, rfl, by omega⟩
theorem good7 {N L0 : Int} {C : Nat} {b : Sm} {due : List Ev} (h : Good p N L0 C b due) : Good p N L0 (C + 10) (.row (.cons b (.cons (.say (.num 700)) .nil))) (due ++ [.say 700]) := by
  obtain ⟨σ, L, c, hR, hc, h8, hL⟩ := h
  have hy : Rn p 1 1 [] (.say (.num 700)) ⟨σ, L, due⟩ .on ⟨σ, L, due ++ [.say 700]⟩ 2 := Rn.say
  exact ⟨_, _, _, Rn.row (RnS.next hR (RnS.next hy RnS.nil)), by omega, h8, hL⟩
theorem goodC {N L0 n : Int} {C : Nat} {b : Sm} {due : List Ev} {cs : List Bool} (hcs : cs.length ≤ 2) (h3 : 10 ≤ L0) (h : Good p N L0 C b due) : Good p N (L0 - 3) (C + 100) (.cln b (own n cs)) (due ++ ownDue n cs) := by
  obtain ⟨σ, L, c, hR, hc, h8, hL⟩ := h
  obtain ⟨σ', L', k, h, hk, h1, h2⟩ := own_run (p := p) (n := n) (cs := cs) (T := due) (L := L) h8 (by omega)
  have hr := Rn.cln hR rfl h
  rw [if_pos rfl] at hr
  exact ⟨_, _, _, hr, by simp [Out.tick]; omega, h1, by omega⟩
def body (b : Sm) : Sm := .row (.cons (.set 1 (.var 0)) (.cons b .nil))
theorem run {N L0 : Int} {C : Nat} {b : Sm} {due : List Ev} (h : Good p N L0 C b due) : ∃ w' c, Rn p 1 1 [] (body b) ⟨slotsFor [N], 90, []⟩ .on w' c ∧ c ≤ C + 10 ∧ w'.told = due := by
  obtain ⟨σ, L, c, hR, hc, h8, hL⟩ := h
  have hs : Rn p 1 1 [] (.set 1 (.var 0)) ⟨slotsFor [N], 90, []⟩ .on ⟨sl N N, 90, []⟩ 2 := Rn.set (k := 1) (e := .var 0)
  exact ⟨_, _, Rn.row (RnS.next hs (RnS.next hR RnS.nil)), by omega, rfl⟩
end
end K20
end Lp

namespace Lr
open PySem PySem.Spec PyProof.Rows L2 Lp
def topS (i : Nat) : Stmt := PySem.Challenge.pw_leaps_k20_whiles_within_cleanups.main.body.getD i (.Pass ⟨0, 0, 0, 0⟩)
def spLaw (K : PySem.W.Frag) : Sp := fun vs H Q _ => ∃ (a : Addr) (ns : List Int), vs = [.ref a] ∧ SqL K H a (ns.map V.int) ∧ ns.length ≤ 63 ∧ ∀ H', Q (.bl true) H'
def t_law_own (K : PySem.W.Frag) (sp_law_take : Sp) : TS :=
  tSeq (tAsg (tLst (tCons (tTup (tCons (tC (.str "say")) (tCons (tTup (tCons (tC (.str "num")) (tCons (tVar 1) (tNil)))) (tNil)))) (tNil))) (gName 2)) (tSeq (tAsg (tLst (tCons (tTup (tCons (tC (.str "say")) (tCons (tVar 1) (tNil)))) (tNil))) (gName 3)) (tSeq (tFor (iRng1 (tCons (tCall sp_law_take [] E0 (tCons (tVar 0) (tCons (tC (.int 3)) (tNil)))) (tNil))) (gName 4) (tSeq (tAsg (tTup (tCons (tC (.str "break")) (tNil))) (gName 5)) (tSeq (tIfS (tTest (tOp rEq (tCall sp_law_take [] E0 (tCons (tVar 0) (tCons (tC (.int 2)) (tNil)))) (tC (.int 1)))) (tAsg (tTup (tCons (tC (.str "row")) (tCons (tTup (tCons (tTup (tCons (tC (.str "set")) (tCons (tC (.int 2)) (tCons (tTup (tCons (tC (.str "num")) (tCons (tC (.int 0)) (tNil)))) (tNil))))) (tCons (tTup (tCons (tC (.str "continue")) (tNil))) (tNil)))) (tNil)))) (gName 5)) (tNext)) (tSeq (tDrop (tBM K "list" rAppend (tVar 2) (tCons (tTup (tCons (tC (.str "set")) (tCons (tC (.int 2)) (tCons (tTup (tCons (tC (.str "num")) (tCons (tC (.int 1)) (tNil)))) (tNil))))) (tNil)))) (tSeq (tDrop (tBM K "list" rAppend (tVar 2) (tCons (tTup (tCons (tC (.str "while")) (tCons (tTup (tCons (tC (.str "var")) (tCons (tC (.int 2)) (tNil)))) (tCons (tTup (tCons (tC (.str "row")) (tCons (tTup (tCons (tTup (tCons (tC (.str "say")) (tCons (tTup (tCons (tC (.str "num")) (tCons (tOp rAdI (tVar 1) (tC (.int 50))) (tNil)))) (tNil)))) (tCons (tVar 5) (tNil)))) (tNil)))) (tNil))))) (tNil)))) (tDrop (tBM K "list" rAppend (tVar 3) (tCons (tTup (tCons (tC (.str "say")) (tCons (tOp rAdI (tVar 1) (tC (.int 50))) (tNil)))) (tNil))))))))) (tRet (tTup (tCons (tTup (tCons (tC (.str "row")) (tCons (tCB (rTupOf K) (tCons (tVar 2) (tNil))) (tNil)))) (tCons (tVar 3) (tNil)))))))

def t_law (K : PySem.W.Frag) (sp_law_take : Sp) (sp_law_own : Sp) (C_Machine : Addr) (sp_Machine_init : Sp) (sp_coded : Sp) (sp_law_alike : Sp) (sp_Machine_go : Sp) (sp_Machine_events : Sp) : TS :=
  tSeq (tAsg (tCB (rLstOf K) (tCons (tVar 0) (tNil))) (gName 1)) (tSeq (tAsg (tOp rAdI (tC (.int 1)) (tCall sp_law_take [] E0 (tCons (tVar 1) (tCons (tC (.int 9)) (tNil))))) (gName 2)) (tSeq (tAsg (tCall sp_law_take [] E0 (tCons (tVar 1) (tCons (tC (.int 11)) (tNil)))) (gName 3)) (tSeq (tAsg (tTup (tCons (tC (.str "if")) (tCons (tTup (tCons (tC (.str "less")) (tCons (tTup (tCons (tC (.str "var")) (tCons (tC (.int 1)) (tNil)))) (tCons (tTup (tCons (tC (.str "num")) (tCons (tVar 3) (tNil)))) (tNil))))) (tCons (tTup (tCons (tC (.str "break")) (tNil))) (tCons (tTup (tCons (tC (.str "row")) (tCons (tTup (tNil)) (tNil)))) (tNil)))))) (gName 4)) (tSeq (tAsg (tTup (tCons (tC (.str "set")) (tCons (tC (.int 1)) (tCons (tTup (tCons (tC (.str "sub")) (tCons (tTup (tCons (tC (.str "var")) (tCons (tC (.int 1)) (tNil)))) (tCons (tTup (tCons (tC (.str "num")) (tCons (tC (.int 1)) (tNil)))) (tNil))))) (tNil))))) (gName 5)) (tSeq (tAsg (tTup (tCons (tC (.str "while")) (tCons (tTup (tCons (tC (.str "var")) (tCons (tC (.int 1)) (tNil)))) (tCons (tTup (tCons (tC (.str "row")) (tCons (tTup (tCons (tTup (tCons (tC (.str "say")) (tCons (tTup (tCons (tC (.str "var")) (tCons (tC (.int 1)) (tNil)))) (tNil)))) (tCons (tVar 5) (tCons (tVar 4) (tNil))))) (tNil)))) (tNil))))) (gName 6)) (tSeq (tAsg (tLst (tNil)) (gName 7)) (tSeq (tWhile (tAnd (tTest (tOp rGt (tVar 2) (tC (.int 0)))) (tOr (tTest (tOp (rEqE K) (tVar 7) (tLst (tNil)))) (tTest (tOp rGe (tVar 2) (tVar 3))))) (tSeq (tDrop (tBM K "list" rAppend (tVar 7) (tCons (tTup (tCons (tC (.str "say")) (tCons (tVar 2) (tNil)))) (tNil)))) (tAsg (tOp rSbI (tVar 2) (tC (.int 1))) (gName 2)))) (tSeq (tIfS (tTest (tOp rEq (tCall sp_law_take [] E0 (tCons (tVar 1) (tCons (tC (.int 2)) (tNil)))) (tC (.int 1)))) (tSeq (tAsg (tTup (tCons (tC (.str "row")) (tCons (tTup (tCons (tVar 6) (tCons (tTup (tCons (tC (.str "say")) (tCons (tTup (tCons (tC (.str "num")) (tCons (tC (.int 700)) (tNil)))) (tNil)))) (tNil)))) (tNil)))) (gName 6)) (tDrop (tBM K "list" rAppend (tVar 7) (tCons (tTup (tCons (tC (.str "say")) (tCons (tC (.int 700)) (tNil)))) (tNil))))) (tNext)) (tSeq (tFor (iRng1 (tCons (tOp rAdI (tC (.int 1)) (tCall sp_law_take [] E0 (tCons (tVar 1) (tCons (tC (.int 2)) (tNil))))) (tNil))) (gName 8) (tSeq (tAsg (tCall sp_law_own [] E0 (tCons (tVar 1) (tCons (tOp rMlI (tC (.int 100)) (tOp rAdI (tVar 8) (tC (.int 1)))) (tNil)))) (gName 9)) (tSeq (tAsg (tTup (tCons (tC (.str "clean")) (tCons (tVar 6) (tCons (tOp (rIxT K) (tVar 9) (tC (.int 0))) (tNil))))) (gName 6)) (tAsg (tOp rCat (tVar 7) (tOp (rIxT K) (tVar 9) (tC (.int 1)))) (gName 7))))) (tSeq (tAsg (tTup (tCons (tC (.str "row")) (tCons (tTup (tCons (tTup (tCons (tC (.str "set")) (tCons (tC (.int 1)) (tCons (tTup (tCons (tC (.str "var")) (tCons (tC (.int 0)) (tNil)))) (tNil))))) (tCons (tVar 6) (tNil)))) (tNil)))) (gName 10)) (tSeq (tAsg (tMake C_Machine sp_Machine_init [] E0 (tCons (tTup (tCons (tC .non) (tNil))) (tCons (tCall sp_coded [] E0 (tCons (tTup (tCons (tTup (tCons (tC .non) (tNil))) (tCons (tTup (tCons (tTup (tCons (tC (.int 1)) (tCons (tVar 10) (tNil)))) (tNil))) (tNil)))) (tNil))) (tCons (tLst (tCons (tOp (rIxT K) (tOp (rIxL K) (tVar 7) (tC (.int 0))) (tC (.int 1))) (tNil))) (tCons (tC (.int 90)) (tCons (tC (.int 1)) (tNil))))))) (gName 11)) (tRet (tAndV (tCall sp_law_alike [] E0 (tCons (tMeth C_Machine "go" sp_Machine_go [] E0 (tVar 11) (tCons (tC (.int 5000)) (tNil))) (tCons (tTup (tCons (tC (.str "return")) (tCons (tC (.int 0)) (tNil)))) (tNil)))) (tCall sp_law_alike [] E0 (tCons (tMeth C_Machine "events" sp_Machine_events [] E0 (tVar 11) tNil) (tCons (tVar 7) (tNil)))))))))))))))))

structure OwnP (K : PySem.W.Frag) (vs : List V) (H : Hp) (Q : VK) : Prop where
  ex : ∃ (b : Addr) (l : List Int) (n : Int), vs = [.ref b, .int n] ∧ H b = some (.lst (l.map V.int)) ∧
    ∀ (q el : Addr) (v : V) (us : List V) (cs : List Bool) (l' : List Int) (H' : Hp), cs.length ≤ 2 → SqT K H' q [v, .ref el] → Tp K H' v (K20.own n cs).d → H el = none → H' el = some (.lst us) → TpAll K H' us ((K20.ownDue n cs).map Ev.d) → H' b = some (.lst (l'.map V.int)) → Kp (fun x => x = b) H H' → Q (.ref q) H'
def spOwn (K : PySem.W.Frag) : Sp := fun vs H Q _ => OwnP K vs H Q
def parts (n : Int) (cs : List Bool) : List Sm := .say (.num n) :: (cs.map (K20.pair n)).flatten
theorem parts_snoc {n : Int} {cs : List Bool} {c : Bool} : parts n (cs ++ [c]) = parts n cs ++ K20.pair n c := by
  unfold parts
  simp
theorem parts_len {n : Int} : ∀ {cs : List Bool}, (parts n cs).length = 1 + 2 * cs.length := by
  intro cs
  unfold parts
  induction cs with
  | nil => rfl
  | cons c cs ih => simp [K20.pair] at ih ⊢; omega
theorem due_snoc {n : Int} {cs : List Bool} {c : Bool} : K20.ownDue n (cs ++ [c]) = K20.ownDue n cs ++ [.say (n + 50)] := by
  unfold K20.ownDue
  simp
theorem rd_own {K : PySem.W.Frag} (vs : List V) (H : Hp) (Q : VK) (E : XK) (hh : spOwn K vs H Q E) : t_law_own K spTake { nx := fun _ H' => Q .non H', rt := Q } (start ["_law_box", "_law_number", "_law_parts", "_law_due", "_law_k", "_law_leave"] vs) H := by
  obtain ⟨b, l, n, rfl, hb, q⟩ := hh.ex
  refine EA.asg (K := K) (ds := [(Sm.say (.num n)).d]) (EA.cons (ET.tup (EA.cons ET.str (EA.cons (ET.tup (EA.cons ET.str (EA.cons (ET.var rfl (.int _)) EA.nil))) EA.nil))) EA.nil) rfl fun p1 us1 H1 hp1 hp1' tu1 s1 => ?_
  simp only [L2.start, List.set_cons_succ, List.set_cons_zero, List.map_cons, List.map_nil, List.cons_append, List.nil_append, List.length_cons, List.length_nil, List.replicate, List.replicate_succ, List.drop]
  refine EA.asg (K := K) (ds := [(Ev.say n).d]) (EA.cons (ET.tup (EA.cons ET.str (EA.cons (ET.var rfl (.int _)) EA.nil))) EA.nil) rfl fun p2 us2 H2 hp2 hp2' tu2 s2 => ?_
  simp only [List.set_cons_succ, List.set_cons_zero]
  have p1b : p1 ≠ b := fun z => by rw [z, hb] at hp1; cases hp1
  have p2b : p2 ≠ b := fun z => by rw [z, s1 _ _ hb] at hp2; cases hp2
  have p12 : p1 ≠ p2 := fun z => by rw [← z, hp1'] at hp2; cases hp2
  have hp20 : H p2 = none := s1.free hp2
  refine seq_inv (fun σ' H' => ∃ (us1 us2 : List V) (cs : List Bool) (l2 : List Int) (v4 v5 : Option V), σ' = [some (.ref b), some (.int n), some (.ref p1), some (.ref p2), v4, v5] ∧ cs.length ≤ 2 ∧ H' p1 = some (.lst us1) ∧ TpAll K H' us1 ((parts n cs).map Sm.d) ∧ H' p2 = some (.lst us2) ∧ TpAll K H' us2 ((K20.ownDue n cs).map Ev.d) ∧ H' b = some (.lst (l2.map V.int)) ∧ Kp (fun x => x = b) H H') (fun nx hnx => ?_) ?_
  · refine ⟨_, rfl, b, l, 3, rfl, s2 _ _ (s1 _ _ hb), by decide, by decide, fun t l1 H3 t0 t1 hb3 kp3 => ⟨_, rfl, by omega, by omega, for_range (lo := 0) (n := t.toNat) (fun i σ' H' => ∃ (us1 us2 : List V) (cs : List Bool) (l2 : List Int) (v4 v5 : Option V), σ' = [some (.ref b), some (.int n), some (.ref p1), some (.ref p2), v4, v5] ∧ cs.length = i ∧ H' p1 = some (.lst us1) ∧ TpAll K H' us1 ((parts n cs).map Sm.d) ∧ H' p2 = some (.lst us2) ∧ TpAll K H' us2 ((K20.ownDue n cs).map Ev.d) ∧ H' b = some (.lst (l2.map V.int)) ∧ Kp (fun x => x = b) H H')
      ⟨us1, us2, [], l1, _, _, rfl, rfl, kp3 _ _ (s2 _ _ hp1') p1b, (tu1.mono (Tk.same s2)).mono (kp3.tk1 (s2 _ _ (s1 _ _ hb))), kp3 _ _ hp2' p2b, tu2.mono (kp3.tk1 (s2 _ _ (s1 _ _ hb))), hb3, (Kp.same (s1.trans s2)).trans kp3⟩ ?_ ?_⟩⟩
    · rintro i σ HB hi ⟨us1, us2, cs, l2, v4, v5, rfl, lcs, h1, t1', h2, t2', hbB, kpB⟩
      refine gn ?_
      simp only [List.set_cons_succ, List.set_cons_zero]
      refine ET.asg (K := K) (d := (K20.leave false).d) (ET.tup (EA.cons ET.str EA.nil)) fun v5 HC t5 sC => ?_
      simp only [List.set_cons_succ, List.set_cons_zero]
      refine seq_inv (fun σ' H' => ∃ (c : Bool) (v5 : V) (l3 : List Int), σ' = [some (.ref b), some (.int n), some (.ref p1), some (.ref p2), some (.int (0 + (i : Int))), some v5] ∧ Tp K H' v5 (K20.leave c).d ∧ H' b = some (.lst (l3.map V.int)) ∧ Kp (fun x => x = b) HC H') (fun nx2 hnx2 => ?_) ?_
      · refine ⟨_, rfl, b, l2, 2, rfl, sC _ _ hbB, by decide, by decide, fun t l3 HD t0 t1 hbD kpD => ⟨rfl, _, rfl, ifB (fun ht => ?_) fun ht => ?_⟩⟩
        · refine ET.use (K := K) (d := (K20.leave true).d) (ET.tup (EA.cons ET.str (EA.cons (ET.tup (EA.cons (ET.tup (EA.cons ET.str (EA.cons ET.int (EA.cons (ET.tup (EA.cons ET.str (EA.cons ET.int EA.nil))) EA.nil)))) (EA.cons (ET.tup (EA.cons ET.str EA.nil)) EA.nil))) EA.nil))) fun v HE tv sE => gn ?_
          simp only [List.set_cons_succ, List.set_cons_zero]
          exact hnx2 _ _ ⟨true, v, l3, rfl, tv, sE _ _ hbD, kpD.trans (Kp.same sE)⟩
        · exact hnx2 _ _ ⟨false, v5, l3, rfl, t5.mono (kpD.tk1 (sC _ _ hbB)), hbD, kpD⟩
      rintro _ HD ⟨c, v5, l3, rfl, t5, hbD, kpD⟩
      have tkD : Tk HB HD := (Tk.same sC).trans (kpD.tk1 (sC _ _ hbB))
      have h1D := kpD _ _ (sC _ _ h1) p1b
      have h2D := kpD _ _ (sC _ _ h2) p2b
      have l1u : us1.length ≤ 900 := by rw [t1'.length, List.length_map, parts_len]; omega
      have l2u : us2.length ≤ 900 := by rw [t2'.length, List.length_map]; simp [K20.ownDue]; omega
      refine seq (app1 (K := K) (d := (Sm.set 2 (.num 1)).d) rfl h1D (t1'.mono tkD) (by omega) (ET.tup (EA.cons ET.str (EA.cons ET.int (EA.cons (ET.tup (EA.cons ET.str (EA.cons ET.int EA.nil))) EA.nil)))) fun ua HE haE taE laE kE tkE => ?_)
      refine seq (app1 (K := K) (d := (Sm.whl (.var 2) (.row (.cons (.say (.num (n + 50))) (.cons (K20.leave c) .nil)))).d) rfl haE taE (by omega) (ET.tup (EA.cons ET.str (EA.cons (ET.tup (EA.cons ET.str (EA.cons ET.int EA.nil))) (EA.cons (ET.tup (EA.cons ET.str (EA.cons (ET.tup (EA.cons (ET.tup (EA.cons ET.str (EA.cons (ET.tup (EA.cons ET.str (EA.cons (ET.add (ET.var rfl (.int _)) ET.int) EA.nil))) EA.nil))) (EA.cons (ET.var rfl (t5.mono tkE)) EA.nil))) EA.nil))) EA.nil)))) fun uc HF hcF tcF lcF kF tkF => ?_)
      have h2F := kF _ _ (Ne.symm p12) (kE _ _ (Ne.symm p12) h2D)
      refine app1 (K := K) (d := (Ev.say (n + 50)).d) rfl h2F (((t2'.mono tkD).mono tkE).mono tkF) (by omega) (ET.tup (EA.cons ET.str (EA.cons (ET.add (ET.var rfl (.int _)) ET.int) EA.nil))) fun ud HG hdG tdG ldG kG tkG => ?_
      refine ⟨uc, ud, cs ++ [c], l3, _, _, rfl, by simp [lcs], kG _ _ p12 hcF, ?_, hdG, ?_, kG _ _ (Ne.symm p2b) (kF _ _ (Ne.symm p1b) (kE _ _ (Ne.symm p1b) hbD)), ?_⟩
      · rw [parts_snoc, List.map_append]
        rw [List.append_assoc] at tcF
        exact tcF.mono tkG
      · rw [due_snoc, List.map_append]
        exact tdG
      · intro x u e nb
        exact kG x u (ne_of_none e hp20) (kF x u (ne_of_none e hp1) (kE x u (ne_of_none e hp1) (kpD x u (sC _ _ (kpB x u e nb)) nb)))
    · rintro σ HB ⟨us1, us2, cs, l2, v4, v5, rfl, lcs, h1, t1', h2, t2', hbB, kpB⟩
      exact hnx _ _ ⟨us1, us2, cs, l2, v4, v5, rfl, by omega, h1, t1', h2, t2', hbB, kpB⟩
  rintro _ HA ⟨us1, us2, cs, l2, v4, v5, rfl, lcs, h1, t1', h2, t2', hbA, kpA⟩
  have eo : (K20.own n cs).d = .tuple [.str "row", .tuple ((parts n cs).map Sm.d)] := by
    show PyData.tuple [.str "row", .tuple (Sms.ofL (parts n cs)).ds] = _
    rw [Sms.ds_ofL]
  refine tup_use (K := K) (d := (K20.own n cs).d) (by
    rw [eo]
    exact ET.tup (EA.cons ET.str (EA.cons (ET.tupOf rfl h1 t1') EA.nil))) fun v HB tv sB => ⟨_, rfl, (by show 2 ≤ sizeLine; decide), fun w hw => ?_⟩
  have sw : Same HB (L2.upd HB w (.tup [v, .ref p2])) := Same.new hw
  exact q w p2 v us2 cs l2 _ lcs (SqT.of upd_same) (tv.mono (Tk.same sw)) hp20 (sw _ _ (sB _ _ h2)) ((t2'.mono (Tk.same sB)).mono (Tk.same sw)) (sw _ _ (sB _ _ hbA)) (kpA.trans ((Kp.same sB).trans (Kp.same sw)))
/-- what is known of the statement and of what is due -/
structure St (N L0 : Int) (C d : Nat) (one : Sm) (due : List Ev) : Prop where
  good : ∀ pg : Pg, K20.Good pg N L0 C one due
  dep : one.dep ≤ d
  len : one.len ≤ C
  wf : ∀ cs nk, one.Wf cs nk false false
  hd : due[0]? = some (.say N)
  dl : due.length ≤ C
  nm : ∀ f, Ev.met f ∉ due
theorem dn_len {at_ : Int} : ∀ v : Nat, (K20.dn at_ v).length ≤ v
  | 0 => Nat.le_refl 0
  | v + 1 => by
    have := dn_len (at_ := at_) v
    show (_ :: if (v : Int) < at_ then [] else K20.dn at_ v).length ≤ v + 1
    split <;> simp <;> omega
theorem dn_nm {at_ : Int} : ∀ (v : Nat) (f : Flt), Ev.met f ∉ K20.dn at_ v
  | 0, f => fun h => by cases h
  | v + 1, f => fun h => by
    rcases List.mem_cons.mp h with h | h
    · cases h
    · split at h
      · cases h
      · exact dn_nm v f h
theorem st0 {at_ : Int} {N : Nat} (h1 : 1 ≤ N) (h9 : N ≤ 9) (ha : 0 ≤ at_ ∧ at_ ≤ 10) : St N 80 200 4 (K20.wl at_) (K20.dn at_ N) := by
  obtain ⟨v, rfl⟩ : ∃ v, N = v + 1 := ⟨N - 1, by omega⟩
  refine ⟨fun pg => K20.good0 h9, ?_, ?_, fun cs nk => ?_, rfl, Nat.le_trans (dn_len _) (by omega), dn_nm _⟩
  · simp [K20.wl, K20.turn, K20.stop, K20.step, Sm.dep, Sms.dep]
  · simp [K20.wl, K20.turn, K20.stop, K20.step, Sm.len, Sms.len, Ex.len]
  · simp [K20.wl, K20.turn, K20.stop, K20.step, Sm.Wf, Sms.Wf, Ex.Wf, Ex.dep]; omega
theorem St.seven {N L0 : Int} {C d : Nat} {one : Sm} {due : List Ev} (h : St N L0 C d one due) (hd : 1 ≤ d) : St N L0 (C + 10) (d + 1) (.row (.cons one (.cons (.say (.num 700)) .nil))) (due ++ [.say 700]) := by
  refine ⟨fun pg => K20.good7 (h.good pg), ?_, ?_, fun cs nk => ⟨h.wf cs nk, ⟨by simp [Ex.Wf], by decide⟩, trivial⟩, ?_, ?_, fun f hf => ?_⟩
  · have := h.dep; simp [Sm.dep, Sms.dep]; omega
  · have := h.len; simp [Sm.len, Sms.len, Ex.len]; omega
  · rw [List.getElem?_append_left (by have := (List.getElem?_eq_some_iff.mp h.hd).1; exact this)]; exact h.hd
  · have := h.dl; simp; omega
  · rcases List.mem_append.mp hf with hf | hf
    · exact h.nm f hf
    · cases List.mem_singleton.mp hf
theorem own_ok {n : Int} (hn : 0 ≤ n ∧ n < 900) : ∀ (cs : List Bool), cs.length ≤ 2 → (K20.own n cs).dep ≤ 5 ∧ (K20.own n cs).len ≤ 60 ∧ ∀ c nk, (K20.own n cs).Wf c nk false false := by
  intro cs h
  have hl : ∀ c, (K20.leave c).dep ≤ 2 ∧ (K20.leave c).len ≤ 3 ∧ ∀ cs nk, (K20.leave c).Wf cs nk true false := fun c => by
    cases c
    · exact ⟨by decide, by decide, fun _ _ => rfl⟩
    · exact ⟨by decide, by decide, fun _ _ => ⟨⟨by decide, by simp [Ex.Wf], by decide⟩, rfl, trivial⟩⟩
  rcases cs with _ | ⟨c, _ | ⟨c2, _ | ⟨c3, cs⟩⟩⟩
  · refine ⟨by simp [K20.own, Sms.ofL, Sm.dep, Sms.dep], by simp [K20.own, Sms.ofL, Sm.len, Sms.len, Ex.len], fun c nk => ⟨⟨by simp [Ex.Wf]; omega, by simp [Ex.dep]⟩, trivial⟩⟩
  · have := hl c
    refine ⟨by simp [K20.own, K20.pair, Sms.ofL, Sm.dep, Sms.dep]; omega, by simp [K20.own, K20.pair, Sms.ofL, Sm.len, Sms.len, Ex.len]; omega, fun c nk => ⟨⟨by simp [Ex.Wf]; omega, by simp [Ex.dep]⟩, ⟨by decide, by simp [Ex.Wf], by decide⟩, ⟨⟨by simp [Ex.Wf], by simp [Ex.dep]⟩, ⟨by simp [Ex.Wf]; omega, by simp [Ex.dep]⟩, this.2.2 _ _, trivial⟩, trivial⟩⟩
  · have := hl c
    have h2 := hl c2
    refine ⟨by simp [K20.own, K20.pair, Sms.ofL, Sm.dep, Sms.dep]; omega, by simp [K20.own, K20.pair, Sms.ofL, Sm.len, Sms.len, Ex.len]; omega, fun c nk => ⟨⟨by simp [Ex.Wf]; omega, by simp [Ex.dep]⟩, ⟨by decide, by simp [Ex.Wf], by decide⟩, ⟨⟨by simp [Ex.Wf], by simp [Ex.dep]⟩, ⟨by simp [Ex.Wf]; omega, by simp [Ex.dep]⟩, this.2.2 _ _, trivial⟩, ⟨by decide, by simp [Ex.Wf], by decide⟩, ⟨⟨by simp [Ex.Wf], by simp [Ex.dep]⟩, ⟨by simp [Ex.Wf]; omega, by simp [Ex.dep]⟩, h2.2.2 _ _, trivial⟩, trivial⟩⟩
  · simp at h
theorem St.clean {N L0 n : Int} {C d : Nat} {one : Sm} {due : List Ev} {cs : List Bool} (h : St N L0 C d one due) (hd : 5 ≤ d) (hcs : cs.length ≤ 2) (h3 : 10 ≤ L0) (hn : 0 ≤ n ∧ n < 900) : St N (L0 - 3) (C + 100) (d + 1) (.cln one (K20.own n cs)) (due ++ K20.ownDue n cs) := by
  obtain ⟨o1, o2, o3⟩ := own_ok hn cs hcs
  refine ⟨fun pg => K20.goodC hcs h3 (h.good pg), ?_, ?_, fun c nk => ⟨h.wf c nk, o3 c nk⟩, ?_, ?_, fun f hf => ?_⟩
  · have := h.dep; show max one.dep (K20.own n cs).dep + 1 ≤ _; omega
  · have := h.len; show one.len + 2 + (K20.own n cs).len + 1 ≤ _; omega
  · rw [List.getElem?_append_left (by have := (List.getElem?_eq_some_iff.mp h.hd).1; exact this)]; exact h.hd
  · have := h.dl; simp [K20.ownDue]; omega
  · rcases List.mem_append.mp hf with hf | hf
    · exact h.nm f hf
    · rcases List.mem_cons.mp hf with hf | hf
      · cases hf
      · obtain ⟨_, _, e⟩ := List.mem_map.mp hf
        cases e
theorem St.mono {N L0 : Int} {C C2 d d2 : Nat} {one : Sm} {due : List Ev} (h : St N L0 C d one due) (hC : C ≤ C2) (hd : d ≤ d2) : St N L0 C2 d2 one due := ⟨fun pg => by
  obtain ⟨σ, L, c, h1, h2, h3⟩ := h.good pg
  exact ⟨σ, L, c, h1, by omega, h3⟩, Nat.le_trans h.dep hd, Nat.le_trans h.len hC, h.wf, h.hd, Nat.le_trans h.dl hC, h.nm⟩
theorem rd_law {K : PySem.W.Frag} {CM CF : Addr} (vs : List V) (H : Hp) (Q : VK) (E : XK) (h : spLaw K vs H Q E) : t_law K spTake (spOwn K) CM (spMIn K CM CF) (spCoded (K := K) 8) (spAlike K 5) (spGo K CM CF) (spEv K CM CF) { nx := fun _ H' => Q .non H', rt := Q } (start ["_law_script", "_law_box", "_law_number", "_law_at", "_law_stop", "_law_step", "_law_one", "_law_due", "_law_k", "_law_last", "_law_body", "_law_machine"] vs) H := by
  obtain ⟨a, ns0, rfl, hS, hlen, q⟩ := h
  refine ⟨_, rfl, a, _, rfl, .inl hS, fun b hb => ?_⟩
  refine ⟨_, rfl, b, ns0, 9, rfl, upd_same, by decide, by decide, fun mn l1 H1 m0 m1 hb1 kp1 => ⟨_, _, rfl, rfl, gn ?_⟩⟩
  obtain ⟨N, hN⟩ : ∃ k : Nat, 1 + mn = (k : Int) := ⟨(1 + mn).toNat, by omega⟩
  have hN9 : 1 ≤ N ∧ N ≤ 9 := by omega
  simp only [L2.start, List.set_cons_succ, List.set_cons_zero, List.map_cons, List.map_nil, List.cons_append, List.nil_append, List.length_cons, List.length_nil, List.replicate, List.replicate_succ, List.drop]
  rw [hN]
  refine ⟨_, rfl, b, l1, 11, rfl, hb1, by decide, by decide, fun at_ l2 H2 a0 a1 hb2 kp2 => gn ?_⟩
  simp only [List.set_cons_succ, List.set_cons_zero]
  refine ET.asg (K := K) (d := (K20.stop at_).d) (ET.tup (EA.cons ET.str (EA.cons (ET.tup (EA.cons ET.str (EA.cons (ET.tup (EA.cons ET.str (EA.cons ET.int EA.nil))) (EA.cons (ET.tup (EA.cons ET.str (EA.cons (ET.var rfl (.int _)) EA.nil))) EA.nil)))) (EA.cons (ET.tup (EA.cons ET.str EA.nil)) (EA.cons (ET.tup (EA.cons ET.str (EA.cons (ET.tup EA.nil) EA.nil))) EA.nil))))) fun v4 G1 t4 s1 => ?_
  simp only [List.set_cons_succ, List.set_cons_zero]
  refine ET.asg (K := K) (d := K20.step.d) (ET.tup (EA.cons ET.str (EA.cons ET.int (EA.cons (ET.tup (EA.cons ET.str (EA.cons (ET.tup (EA.cons ET.str (EA.cons ET.int EA.nil))) (EA.cons (ET.tup (EA.cons ET.str (EA.cons ET.int EA.nil))) EA.nil)))) EA.nil)))) fun v5 G2 t5 s2 => ?_
  simp only [List.set_cons_succ, List.set_cons_zero]
  refine ET.asg (K := K) (d := (K20.wl at_).d) (ET.tup (EA.cons ET.str (EA.cons (ET.tup (EA.cons ET.str (EA.cons ET.int EA.nil))) (EA.cons (ET.tup (EA.cons ET.str (EA.cons (ET.tup (EA.cons (ET.tup (EA.cons ET.str (EA.cons (ET.tup (EA.cons ET.str (EA.cons ET.int EA.nil))) EA.nil))) (EA.cons (ET.var rfl t5) (EA.cons (ET.var rfl (t4.mono (Tk.same s2))) EA.nil)))) EA.nil))) EA.nil)))) fun v6 G3 t6 s3 => ?_
  simp only [List.set_cons_succ, List.set_cons_zero]
  refine EA.asg (K := K) (ds := []) EA.nil rfl fun p us0 G4 hp hp4 tus0 s4 => ?_
  have e0 : us0 = [] := tus0.nilE
  subst e0
  simp only [List.set_cons_succ, List.set_cons_zero]
  have t6 := t6.mono (Tk.same s4)
  have hb4 := s4 _ _ (s3 _ _ (s2 _ _ (s1 _ _ hb2)))
  have pb : p ≠ b := fun z => by rw [z, s3 _ _ (s2 _ _ (s1 _ _ hb2))] at hp; cases hp
  -- down to the break
  refine seq_inv (fun σ' H' => ∃ (us : List V) (i2 : Int), σ' = [some (.ref a), some (.ref b), some (.int i2), some (.int at_), some v4, some v5, some v6, some (.ref p), none, none, none, none] ∧ H' p = some (.lst us) ∧ TpAll K H' us ((K20.dn at_ N).map Ev.d) ∧ H' b = some (.lst (l2.map V.int)) ∧ Tk G4 H') (fun nx hnx => ?_) ?_
  · refine ⟨fun mm σ H' => ∃ (v : Nat) (us : List V) (due : List Ev), mm = v ∧ σ = [some (.ref a), some (.ref b), some (.int (v : Int)), some (.int at_), some v4, some v5, some v6, some (.ref p), none, none, none, none] ∧ H' p = some (.lst us) ∧ TpAll K H' us (due.map Ev.d) ∧ H' b = some (.lst (l2.map V.int)) ∧ Tk G4 H' ∧ ((due = [] ∧ v = N) ∨ (due ≠ [] ∧ v < N ∧ K20.dn at_ N = due ++ if (v : Int) < at_ then [] else K20.dn at_ v)), ⟨N, N, [], [], rfl, rfl, hp4, .nil, hb4, Tk.refl _, .inl ⟨rfl, rfl⟩⟩, ?_⟩
    rintro mm σ H' ⟨v, us, due, rfl, rfl, hpB, tuB, hbB, tkB, hd⟩
    have out : ∀ HC, (∀ z o, H' z = some o → HC z = some o) → K20.dn at_ N = due → nx [some (.ref a), some (.ref b), some (.int (mm : Int)), some (.int at_), some v4, some v5, some v6, some (.ref p), none, none, none, none] HC := fun HC sC e => hnx _ _ ⟨us, _, rfl, sC _ _ hpB, by rw [e]; exact tuB.mono (Tk.same sC), sC _ _ hbB, tkB.trans (Tk.same sC)⟩
    refine ⟨_, rfl, _, _, rfl, rfl, _, rfl, ?_⟩
    cases mm with
    | zero =>
      refine ifF rfl (ifF rfl (out _ (fun _ _ e => e) ?_))
      rcases hd with ⟨_, h⟩ | ⟨_, _, h⟩
      · omega
      · rw [h]
        split
        · exact List.append_nil _
        · exact List.append_nil _
    | succ v =>
      rw [dT (show (0 : Int) < ((v + 1 : Nat) : Int) from by omega)]
      refine ifT rfl ⟨_, rfl, (by show 0 ≤ sizeLine; decide), fun p3 hp3 => ?_⟩
      have sC : Same H' (L2.upd H' p3 (.lst [])) := Same.new hp3
      refine ⟨p, p3, us, rfl, rfl, SqL.of (sC _ _ hpB), SqL.of upd_same, _, rfl, ?_⟩
      generalize L2.upd H' p3 (.lst []) = HC at sC ⊢
      have go : (∀ HD, Same HC HD → K20.dn at_ N = due ++ [.say ((v + 1 : Nat) : Int)] ++ (if (v : Int) < at_ then [] else K20.dn at_ v) → v < N → True) := fun _ _ _ _ => trivial
      have body : K20.dn at_ N = due ++ [.say ((v + 1 : Nat) : Int)] ++ (if (v : Int) < at_ then [] else K20.dn at_ v) → v + 1 ≤ N → us.length ≤ 900 →
          (tSeq (tDrop (tBM K "list" rAppend (tVar 7) (tCons (tTup (tCons (tC (.str "say")) (tCons (tVar 2) (tNil)))) (tNil)))) (tAsg (tOp rSbI (tVar 2) (tC (.int 1))) (gName 2))) { nx := fun σ' H' => ∃ m', m' < v + 1 ∧ ∃ (v : Nat) (us : List V) (due : List Ev), m' = v ∧ σ' = [some (.ref a), some (.ref b), some (.int (v : Int)), some (.int at_), some v4, some v5, some v6, some (.ref p), none, none, none, none] ∧ H' p = some (.lst us) ∧ TpAll K H' us (due.map Ev.d) ∧ H' b = some (.lst (l2.map V.int)) ∧ Tk G4 H' ∧ ((due = [] ∧ v = N) ∨ (due ≠ [] ∧ v < N ∧ K20.dn at_ N = due ++ if (v : Int) < at_ then [] else K20.dn at_ v)), rt := Q, ct := fun σ' H' => ∃ m', m' < v + 1 ∧ ∃ (v : Nat) (us : List V) (due : List Ev), m' = v ∧ σ' = [some (.ref a), some (.ref b), some (.int (v : Int)), some (.int at_), some v4, some v5, some v6, some (.ref p), none, none, none, none] ∧ H' p = some (.lst us) ∧ TpAll K H' us (due.map Ev.d) ∧ H' b = some (.lst (l2.map V.int)) ∧ Tk G4 H' ∧ ((due = [] ∧ v = N) ∨ (due ≠ [] ∧ v < N ∧ K20.dn at_ N = due ++ if (v : Int) < at_ then [] else K20.dn at_ v)), bk := nx } [some (.ref a), some (.ref b), some (.int ((v + 1 : Nat) : Int)), some (.int at_), some v4, some v5, some v6, some (.ref p), none, none, none, none] HC := by
        intro e hv lu
        refine seq (app1 (K := K) (d := (Ev.say ((v + 1 : Nat) : Int)).d) rfl (sC _ _ hpB) (tuB.mono (Tk.same sC)) (by omega) (ET.tup (EA.cons ET.str (EA.cons (ET.var rfl (.int _)) EA.nil))) fun us' HD hpD tuD lD kD tkD => ?_)
        refine ⟨_, rfl, _, _, rfl, rfl, gn ?_⟩
        simp only [List.set_cons_succ, List.set_cons_zero]
        refine ⟨v, by omega, v, us', due ++ [.say ((v + 1 : Nat) : Int)], rfl, by rw [show ((v + 1 : Nat) : Int) - 1 = (v : Int) from by omega], hpD, by rw [List.map_append]; exact tuD, kD _ _ (Ne.symm pb) (sC _ _ hbB), tkB.trans ((Tk.same sC).trans tkD), .inr ⟨by simp, by omega, e⟩⟩
      have edn : K20.dn at_ (v + 1) = [.say ((v + 1 : Nat) : Int)] ++ (if (v : Int) < at_ then [] else K20.dn at_ v) := rfl
      rcases hd with ⟨hd, hv⟩ | ⟨hd, hv, he⟩
      · subst hd
        have eu : us = [] := tuB.nilE
        subst eu
        refine ifT rfl (ifT rfl ⟨_, fun σ' H' h => h, ?_⟩)
        exact body (by rw [← hv, edn]; rfl) (by omega) (by simp)
      · have hu : us.isEmpty = false := by
          cases us with
          | nil =>
            have := tuB.length
            rw [List.length_map] at this
            exact absurd (List.length_eq_zero_iff.mp this.symm) hd
          | cons _ _ => rfl
        rw [hu]
        refine ifF rfl ⟨_, rfl, _, rfl, _, _, rfl, rfl, _, rfl, ?_⟩
        by_cases z : ((v + 1 : Nat) : Int) < at_
        · rw [if_pos z, List.append_nil] at he
          rw [dF (show ¬ at_ ≤ ((v + 1 : Nat) : Int) from by omega)]
          exact ifF rfl (out _ sC he)
        · rw [if_neg z, edn, ← List.append_assoc] at he
          rw [dT (show at_ ≤ ((v + 1 : Nat) : Int) from by omega)]
          refine ifT rfl ⟨_, fun σ' H' h => h, ?_⟩
          refine body he (by omega) ?_
          have h1 := tuB.length
          have h2 := dn_len (at_ := at_) N
          rw [List.length_map] at h1
          rw [he] at h2
          simp at h2
          omega
  rintro _ G5 ⟨us, i2, rfl, hp5, tu5, hb5, tk5⟩
  have s0 := st0 (at_ := at_) hN9.1 hN9.2 (by omega)
  -- behind the while
  refine seq_inv (fun σ' H' => ∃ (v6 : V) (us : List V) (l3 : List Int) (one : Sm) (due : List Ev), σ' = [some (.ref a), some (.ref b), some (.int i2), some (.int at_), some v4, some v5, some v6, some (.ref p), none, none, none, none] ∧ St N 80 210 5 one due ∧ Tp K H' v6 one.d ∧ H' p = some (.lst us) ∧ TpAll K H' us (due.map Ev.d) ∧ H' b = some (.lst (l3.map V.int))) (fun nx hnx => ?_) ?_
  · refine ⟨_, rfl, b, l2, 2, rfl, hb5, by decide, by decide, fun t l3 H6 t0 t1 hb6 kp6 => ⟨rfl, _, rfl, ifB (fun ht => ?_) fun ht => ?_⟩⟩
    · have tk6 := kp6.tk1 hb5
      refine ET.asg (K := K) (d := (Sm.row (.cons (K20.wl at_) (.cons (.say (.num 700)) .nil))).d) (ET.tup (EA.cons ET.str (EA.cons (ET.tup (EA.cons (ET.var rfl ((t6.mono tk5).mono tk6)) (EA.cons (ET.tup (EA.cons ET.str (EA.cons (ET.tup (EA.cons ET.str (EA.cons ET.int EA.nil))) EA.nil))) EA.nil))) EA.nil))) fun v6 G6 t6 s6 => ?_
      simp only [List.set_cons_succ, List.set_cons_zero]
      have h6 := s6 _ _ (kp6 _ _ hp5 pb)
      refine app1 (K := K) (d := (Ev.say 700).d) rfl h6 ((tu5.mono tk6).mono (Tk.same s6)) (by rw [tu5.length, List.length_map]; have := s0.dl; omega) (ET.tup (EA.cons ET.str (EA.cons ET.int EA.nil))) fun us' G7 hp7 tu7 l7 k7 tk7 => ?_
      exact hnx _ _ ⟨v6, us', l3, _, _, rfl, s0.seven (by decide), t6.mono tk7, hp7, by rw [List.map_append]; exact tu7, k7 _ _ (Ne.symm pb) (s6 _ _ hb6)⟩
    · exact hnx _ _ ⟨v6, us, l3, _, _, rfl, s0.mono (by decide) (by decide), (t6.mono tk5).mono (kp6.tk1 hb5), kp6 _ _ hp5 pb, tu5.mono (kp6.tk1 hb5), hb6⟩
  rintro _ G6 ⟨v6, us, l3, one, due, rfl, st, t6, hp6, tu6, hb6⟩
  refine seq_inv (fun σ' H' => ∃ (v6 : V) (p : Addr) (us : List V) (one : Sm) (due : List Ev) (v8 v9 : Option V), σ' = [some (.ref a), some (.ref b), some (.int i2), some (.int at_), some v4, some v5, some v6, some (.ref p), v8, v9, none, none] ∧ St N 70 500 7 one due ∧ Tp K H' v6 one.d ∧ H' p = some (.lst us) ∧ TpAll K H' us (due.map Ev.d)) (fun nx hnx => ?_) ?_
  · refine ⟨_, rfl, b, l3, 2, rfl, hb6, by decide, by decide, fun t l4 H7 t0 t1 hb7 kp7 => ⟨_, _, rfl, rfl, _, rfl, by omega, by omega, for_range (lo := 0) (n := (1 + t).toNat) (fun i σ' H' => ∃ (v6 : V) (p : Addr) (us : List V) (l : List Int) (one : Sm) (due : List Ev) (v8 v9 : Option V), σ' = [some (.ref a), some (.ref b), some (.int i2), some (.int at_), some v4, some v5, some v6, some (.ref p), v8, v9, none, none] ∧ St N (80 - 3 * (i : Int)) (210 + 100 * i) (5 + i) one due ∧ Tp K H' v6 one.d ∧ p ≠ b ∧ H' p = some (.lst us) ∧ TpAll K H' us (due.map Ev.d) ∧ H' b = some (.lst (l.map V.int)))
      ⟨v6, p, us, l4, one, due, _, _, rfl, st, t6.mono (kp7.tk1 hb6), pb, kp7 _ _ hp6 pb, tu6.mono (kp7.tk1 hb6), hb7⟩ ?_ ?_⟩⟩
    · rintro i σ HB hi ⟨v6, p, us, l, one, due, v8, v9, rfl, st, t6, pb, hpB, tuB, hbB⟩
      refine gn ?_
      simp only [List.set_cons_succ, List.set_cons_zero]
      refine ⟨_, rfl, _, rfl, _, _, rfl, rfl, _, _, rfl, rfl, cmul_small (by decide), ⟨⟨b, l, 100 * (0 + (i : Int) + 1), rfl, hbB, fun qa el v us2 cs l5 HC hcs hqa tv hel0 hel tu2 hbC kpC => gn ?_⟩⟩⟩
      simp only [List.set_cons_succ, List.set_cons_zero]
      have tkC := kpC.tk1 hbB
      have hpC := kpC _ _ hpB pb
      refine ET.asg (K := K) (d := (Sm.cln one (K20.own (100 * (0 + (i : Int) + 1)) cs)).d) (ET.tup (EA.cons ET.str (EA.cons (ET.var rfl (t6.mono tkC)) (EA.cons (ET.ixT (j := 0) rfl hqa rfl tv) EA.nil)))) fun v6 HD t6 sD => ?_
      simp only [List.set_cons_succ, List.set_cons_zero]
      have l1 : us.length ≤ 500 := by rw [tuB.length, List.length_map]; have := st.dl; omega
      have l2 : us2.length ≤ 10 := by rw [tu2.length, List.length_map]; simp [K20.ownDue]; omega
      refine ⟨_, rfl, rd_ixT (j := 1) rfl (sD.sqT hqa) rfl ⟨p, el, us, us2, rfl, rfl, sD _ _ hpC, sD _ _ hel, sz_le1 (by omega), fun D3 hD3 => gn ?_⟩⟩
      simp only [List.set_cons_succ, List.set_cons_zero]
      have sE : Same HD (L2.upd HD D3 (.lst (us ++ us2))) := Same.new hD3
      have st2 := st.clean (n := 100 * (0 + (i : Int) + 1)) (cs := cs) (by omega) hcs (by omega) (by omega)
      refine ⟨v6, D3, us ++ us2, l5, _, due ++ K20.ownDue (100 * (0 + (i : Int) + 1)) cs, _, _, rfl, ?_, t6.mono (Tk.same sE), (fun z => by rw [z, sD _ _ hbC] at hD3; cases hD3), upd_same, ?_, sE _ _ (sD _ _ hbC)⟩
      · have e1 : (80 : Int) - 3 * ((i + 1 : Nat) : Int) = 80 - 3 * (i : Int) - 3 := by omega
        rw [e1, show 210 + 100 * (i + 1) = 210 + 100 * i + 100 from by omega, show 5 + (i + 1) = 5 + i + 1 from by omega]
        exact st2
      · rw [List.map_append]
        exact (((tuB.mono tkC).app tu2).mono (Tk.same sD)).mono (Tk.same sE)
    · rintro σ HB ⟨v6, p, us, l, one, due, v8, v9, rfl, st, t6, pb, hpB, tuB, hbB⟩
      have hn : (1 + t).toNat ≤ 2 := by omega
      refine hnx _ _ ⟨v6, p, us, one, due, v8, v9, rfl, ?_, t6, hpB, tuB⟩
      have s2 := st.mono (C2 := 500) (d2 := 7) (by omega) (by omega)
      refine ⟨fun pg => ?_, s2.dep, s2.len, s2.wf, s2.hd, s2.dl, s2.nm⟩
      obtain ⟨σ, L, c, h1, h2, h3, h4⟩ := s2.good pg
      exact ⟨σ, L, c, h1, h2, h3, by omega⟩
  clear st t6 hp6 tu6 hb6 pb
  rintro _ GA ⟨v6, p, us, one, due, v8, v9, rfl, st, t6, hpA, tuA⟩
  refine ET.asg (K := K) (d := (K20.body one).d) (ET.tup (EA.cons ET.str (EA.cons (ET.tup (EA.cons (ET.tup (EA.cons ET.str (EA.cons ET.int (EA.cons (ET.tup (EA.cons ET.str (EA.cons ET.int EA.nil))) EA.nil)))) (EA.cons (ET.var rfl t6) EA.nil))) EA.nil))) fun v10 GB t10 sB => ?_
  simp only [List.set_cons_succ, List.set_cons_zero]
  have hpA := sB _ _ hpA
  have tuA := tuA.mono (Tk.same sB)
  obtain ⟨pg, hpg⟩ : ∃ pg : Pg, pg = ⟨[none], [(1, K20.body one)]⟩ := ⟨_, rfl⟩
  have bwf : ∀ cs nk, (K20.body one).Wf cs nk false false := fun cs nk => ⟨⟨by decide, by simp [Ex.Wf], by decide⟩, st.wf cs nk, trivial⟩
  have pr : PgR pg := ⟨fun f hf => by
    rw [hpg] at hf
    rcases List.mem_singleton.mp hf with rfl
    exact bwf _ _⟩
  have bdep : (K20.body one).dep ≤ 8 ∧ (K20.body one).len ≤ 510 := by
    have := st.dep; have := st.len
    refine ⟨?_, ?_⟩
    · show max 1 (max one.dep 0) + 1 ≤ 8; omega
    · show 1 + 1 + (one.len + 0) ≤ 510; omega
  refine mk_use (K := K) (d := .tuple [.none]) (ET.tup (EA.cons ET.non EA.nil)) fun kv HA tkv sA => cons_use ?_
  have tbA := t10.mono (Tk.same sA)
  have epg : pg.d = .tuple [.tuple [.none], .tuple [.tuple [.int 1, (K20.body one).d]]] := by rw [hpg]; rfl
  have pgk : PgK pg 8 := ⟨fun f hf => by
    rw [hpg] at hf
    rcases List.mem_singleton.mp hf with rfl
    refine ⟨⟨[], 0, bwf _ _⟩, bdep.1, ?_⟩
    show (K20.body one).len ≤ 90000; have := bdep.2; omega, by rw [hpg]; simp, by decide⟩
  refine call_use (K := K) (d := pg.d) (by
    rw [epg]
    exact ET.tup (EA.cons (ET.tup (EA.cons ET.non EA.nil)) (EA.cons (ET.tup (EA.cons (ET.tup (EA.cons ET.int (EA.cons (ET.var rfl tbA) EA.nil))) EA.nil)) EA.nil))) fun pv HF tp sF => ⟨_, pg, rfl, tp, pgk, fun cv HG tc sG => ?_⟩
  have sAG := sA.trans (sF.trans sG)
  obtain ⟨u0, hu0, tu0⟩ := (tuA.mono (Tk.same sAG)).get' (i := 0) (d := (Ev.say (N : Int)).d) (by rw [List.getElem?_map, st.hd]; rfl)
  obtain ⟨ua, x0, x1, rfl, hU, _, tx1⟩ := Tp.tup2 (show Tp K HG u0 (.tuple [.str "say", .int (N : Int)]) from tu0)
  cases tx1.intE
  refine ⟨_, rfl, p, us, _, _, rfl, rfl, SqL.of (sAG _ _ hpA), atI_nat (j := 0) hu0, ua, _, _, _, rfl, rfl, hU, atI_nat (j := 1) rfl, (by show 1 ≤ sizeLine; decide), fun nl hnl mc dx hmc hdx dxm => ?_⟩
  have sI : Same HG (L2.upd HG nl (.lst [.int (N : Int)])) := Same.new hnl
  have hI : L2.upd HG nl (.lst [.int (N : Int)]) nl = some (.lst ([(N : Int)].map V.int)) := upd_same
  generalize L2.upd HG nl (.lst [.int (N : Int)]) = HI at sI hI hmc hdx ⊢
  have sJ : Same HI (L2.upd (L2.upd HI dx (.own mc)) mc (.ins CM dx [])) := fun b o e => by rw [upd_ne (ne_of_none e hmc), upd_ne (ne_of_none e hdx)]; exact e
  have cJ : L2.upd (L2.upd HI dx (.own mc)) mc (.ins CM dx []) mc = some (.ins CM dx []) := upd_same
  generalize L2.upd (L2.upd HI dx (.own mc)) mc (.ins CM dx []) = HJ at sJ cJ ⊢
  have sBI : Same GB HI := sA.trans (sF.trans (sG.trans sI))
  have sBJ := sBI.trans sJ
  have ek : pg.kinds = [none] := by rw [hpg]
  refine ⟨⟨mc, dx, ⟨pg.code, pg.kinds, 1⟩, kv, cv, nl, [(N : Int)], 90, rfl, cJ, by rw [ek]; exact tkv.mono (Tk.same (sF.trans (sG.trans (sI.trans sJ)))), tc.mono (Tk.same (sI.trans sJ)), sJ _ _ hI, (by show 1 ≤ 3; decide), fun y xs HK ey stm fresh kpK => ⟨rfl, gn ?_⟩⟩⟩
  subst ey
  simp only [List.set_cons_succ, List.set_cons_zero]
  have keep : Keep y xs GB HK := ⟨fun b o e => kpK b o (sBJ b o e) (ne_of_none (sBI b o e) hmc), fun a ha => by
    rcases fresh a ha with z | z
    · rw [z]; exact sBI.free hmc
    · exact sBJ.free z⟩
  have f0 : pg.funs[0]? = some (1, K20.body one) := by rw [hpg]; rfl
  obtain ⟨wf, c, hR, hc, hdue⟩ := K20.run (p := pg) (st.good pg)
  have wk : WfK pg.kinds := by
    rw [ek]
    intro i j h
    cases i with
    | zero => cases h
    | succ i => cases h
  obtain ⟨mf, way, hlast, htold⟩ := way_fix (ns := [(N : Int)]) (most := 90) (dp := 1) (fn := (1, K20.body one)) pr wk f0 (by show 1 ≤ 8; decide) (by intro z hz; rw [List.mem_singleton.mp hz]; omega) (by decide) (by decide) (by omega) hR
  have htold : mf.told = due := htold.trans hdue
  have hlast : mf.last = some (.ret 0) := by rw [hlast, if_pos rfl]
  have eo := tick_le Out.on 2
  refine rMethW rfl stm.ins rfl ⟨⟨_, y, xs, _, _, _, mf, _, 5000, rfl, stm, way, by decide, fun m1' xs1 lv1 v1 HL g1 w1' st1 mv1 ret1 => ?_⟩⟩
  have em := go_whole (by omega) w1'
  subst em
  rw [hlast] at ret1
  have tv1 : Tp K HL v1 (Out.ret 0).d := ret1
  have keepL := keep.mv mv1
  have tkL := Tk.same keepL.s
  have evk : EvOk 4 due := fun f hf => absurd hf (st.nm f)
  obtain ⟨e1, e2⟩ := evs_small evk
  refine cons_use (ET.use (K := K) (d := (Out.ret 0).d) (ET.tup (EA.cons ET.str (EA.cons ET.int EA.nil))) fun ve HM tve sM => ?_)
  refine ⟨v1, ve, (Out.ret 0).d, rfl, (tv1.mono (Tk.same sM)).dp, tve.dp, by show 1 < 5; decide, by simp [Out.d, Out.r, wid, widAll], _, rfl, ifT rfl ?_⟩
  have st2 := st1.same sM
  refine rMethW rfl st2.ins rfl ⟨⟨_, y, xs1, _, _, _, rfl, st2, fun el ues HN hel hues tues tN => ?_⟩⟩
  rw [htold] at tues
  refine ⟨_, rfl, .ref el, .ref p, .list (due.map Ev.d), rfl, .lst (SqL.of hues) tues.dp, .lst (SqL.of (tN _ _ (sM _ _ (keepL.s _ _ hpA)))) (((tuA.mono tkL).mono (Tk.same sM)).mono (Tk.same tN)).dp, ?_, ?_, q _⟩
  · simp only [PyData.depth]; omega
  · simp only [wid, List.length_map]; have := st.dl; omega
section
variable {P : Program} {w : World} {K : PySem.W.Frag} {mg : Str → Option Value} {base : Heap} {k : Nat}
abbrev s_under : Stmt := topS 4
abbrev N_under : List Str := ["kinds", "kind", "other"]
theorem sc_under : FnScope N_under ["kinds", "kind", "other"] (defScope s_under) := ⟨rfl, rfl, rfl, by decide +kernel, rfl, by decide +kernel, by decide +kernel⟩
theorem ok_under  {f : Addr} {fd : FuncData} (D : FunD K "under" "under" (defArgs s_under) (defBody s_under) (defScope s_under) [] [] f fd)  {sp : Sp}
    (len : ∀ vs H Q E, sp vs H Q E → vs.length = 3)
    (rd : ∀ vs H Q E, sp vs H Q E → t_under K { nx := fun _ H' => Q .non H', rt := Q } (start N_under vs) H) : FnOk P w K mg base CX0 (k + 1) f fd ["kinds", "kind", "other"] sp := by
  refine D.ok sc_under len (fun cdv A outer s H vs Q E hr h => ⟨t_under K, PSs.nox ?_, rd vs H Q E h⟩)
  · unfold t_under
    exact pss_cons (ps_while PassesOwn.never (PW.pt (pw_and (pt_cmpR op_notN (pv 1) (pe_non) (nomark _)) (pw_and1 (pt_cmpR op_ne (pv 1) (pv 2) (nomark _))))) (pss_one (ps_set (i := 1) sc_under.nd rfl (by first | exact Or.inl rfl | exact Or.inr rfl) (pe_ix ix_tup (pv 0) (pv 1) (fun _ _ => rfl)))))
        (pss_one (ps_ret (pe_cmpR op_notN (pv 1) (pe_non) (nomark _))))

abbrev s_meets : Stmt := topS 5
abbrev N_meets : List Str := ["kinds", "wanted", "kind"]
theorem sc_meets : FnScope N_meets ["kinds", "wanted", "kind"] (defScope s_meets) := ⟨rfl, rfl, rfl, by decide +kernel, rfl, by decide +kernel, by decide +kernel⟩
theorem ok_meets {sp_under : Sp} {f : Addr} {fd : FuncData} (D : FunD K "meets" "meets" (defArgs s_meets) (defBody s_meets) (defScope s_meets) [] [] f fd) (c_under : Cal P w K mg base k "under" ["kinds", "kind", "other"] sp_under) {sp : Sp}
    (len : ∀ vs H Q E, sp vs H Q E → vs.length = 3)
    (rd : ∀ vs H Q E, sp vs H Q E → t_meets K sp_under { nx := fun _ H' => Q .non H', rt := Q } (start N_meets vs) H) : FnOk P w K mg base CX0 (k + 1) f fd ["kinds", "wanted", "kind"] sp := by
  refine D.ok sc_meets len (fun cdv A outer s H vs Q E hr h => ⟨t_meets K sp_under, PSs.nox ?_, rd vs H Q E h⟩)
  · unfold t_meets
    exact pss_one (ps_ret (pe_or (pe_cmpR op_isN (pv 1) (pe_non) (nomark _)) (pe_one (pc c_under hr (pa_cons (pv 0) (pa_cons (pv 2) (pa_cons (pv 1) (pa_nil))))))))

abbrev s_joined : Stmt := topS 6
abbrev N_joined : List Str := ["word", "one", "two"]
theorem sc_joined : FnScope N_joined ["word", "one", "two"] (defScope s_joined) := ⟨rfl, rfl, rfl, by decide +kernel, rfl, by decide +kernel, by decide +kernel⟩
theorem ok_joined  {f : Addr} {fd : FuncData} (D : FunD K "joined" "joined" (defArgs s_joined) (defBody s_joined) (defScope s_joined) [] [] f fd) (Gc_MODULE : ∃ t, mg "MODULE" = some (.int 10007 t)) (B_int : mg "int" = none) {sp : Sp}
    (len : ∀ vs H Q E, sp vs H Q E → vs.length = 3)
    (rd : ∀ vs H Q E, sp vs H Q E → t_joined K { nx := fun _ H' => Q .non H', rt := Q } (start N_joined vs) H) : FnOk P w K mg base CX0 (k + 1) f fd ["word", "one", "two"] sp := by
  refine D.ok sc_joined len (fun cdv A outer s H vs Q E hr h => ⟨t_joined K, PSs.nox ?_, rd vs H Q E h⟩)
  · unfold t_joined
    exact pss_cons (ps_if (pt_cmpR op_eq (pv 0) (pe_str) (nomark _)) (pss_one (ps_ret (pe_op op_mod (pe_op op_add (pv 1) (pv 2)) (pgi Gc_MODULE)))) (pss_nil))
        (pss_cons (ps_if (pt_cmpR op_eq (pv 0) (pe_str) (nomark _)) (pss_one (ps_ret (pe_op op_mod (pe_op op_sub (pv 1) (pv 2)) (pgi Gc_MODULE)))) (pss_nil))
        (pss_cons (ps_if (pt_cmpR op_eq (pv 0) (pe_str) (nomark _)) (pss_one (ps_ret (pe_op op_mod (pe_op op_mul (pv 1) (pv 2)) (pgi Gc_MODULE)))) (pss_nil))
        (pss_one (ps_ret (pe_callTy call_int1 (by rfl) B_int (by decide +kernel) (pa_cons (pe_cmpR op_lt (pv 1) (pv 2) (nomark _)) (pa_nil)))))))

abbrev s_slots_for : Stmt := topS 7
abbrev N_slots_for : List Str := ["numbers", "k"]
theorem sc_slots_for : FnScope N_slots_for ["numbers"] (defScope s_slots_for) := ⟨rfl, rfl, rfl, by decide +kernel, rfl, by decide +kernel, by decide +kernel⟩
theorem ok_slots_for  {f : Addr} {fd : FuncData} (D : FunD K "slots_for" "slots_for" (defArgs s_slots_for) (defBody s_slots_for) (defScope s_slots_for) [] [] f fd) (B_list : mg "list" = none) (B_range : mg "range" = none) (Gc_SLOTS : ∃ t, mg "SLOTS" = some (.int 8 t)) (B_len : mg "len" = none) {sp : Sp}
    (len : ∀ vs H Q E, sp vs H Q E → vs.length = 1)
    (rd : ∀ vs H Q E, sp vs H Q E → t_slots_for K { nx := fun _ H' => Q .non H', rt := Q } (start N_slots_for vs) H) : FnOk P w K mg base CX0 (k + 1) f fd ["numbers"] sp := by
  refine D.ok sc_slots_for len (fun cdv A outer s H vs Q E hr h => ⟨t_slots_for K, PSs.nox ?_, rd vs H Q E h⟩)
  · unfold t_slots_for
    exact pss_one (ps_ret (pe_op op_cat (pe_callTy call_list_of (by rfl) B_list (by decide +kernel) (pa_cons (pv 0) (pa_nil))) (pe_lc (own := [("k", 1)]) (g := gName 1) rfl sc_slots_for.nd (pi_range1 (by rfl) B_range (pa_cons (pe_op op_sub (pgi Gc_SLOTS) (pe_callB call_len_seq (by rfl) B_len PySem.boot_len (pa_cons (pv 0) (pa_nil)))) (pa_nil))) (blkOk_by (own := [("k", 1)]) (N := N_slots_for) (sc := defScope s_slots_for) (by decide +kernel)) (fun _ _ _ _ _ => pg_name (i := 1) sc_slots_for.nd rfl (Or.inl rfl)) (fun _ _ _ _ _ => pts_nil) (fun _ _ _ _ _ => pe_int))))

abbrev s_Frame_init : Stmt := inClass (topS 9) 0
abbrev N_Frame_init : List Str := ["self", "number", "slots"]
theorem sc_Frame_init : FnScope N_Frame_init ["self", "number", "slots"] (defScope s_Frame_init) := ⟨rfl, rfl, rfl, by decide +kernel, rfl, by decide +kernel, by decide +kernel⟩
theorem ok_Frame_init  {f : Addr} {fd : FuncData} (D : FunD K "__init__" "Frame.__init__" (defArgs s_Frame_init) (defBody s_Frame_init) (defScope s_Frame_init) [] [] f fd)  {sp : Sp}
    (len : ∀ vs H Q E, sp vs H Q E → vs.length = 3)
    (rd : ∀ vs H Q E, sp vs H Q E → t_Frame_init K { nx := fun _ H' => Q .non H', rt := Q } (start N_Frame_init vs) H) : FnOk P w K mg base CX0 (k + 1) f fd ["self", "number", "slots"] sp := by
  refine D.ok sc_Frame_init len (fun cdv A outer s H vs Q E hr h => ⟨t_Frame_init K, PSs.nox ?_, rd vs H Q E h⟩)
  · unfold t_Frame_init
    exact pss_cons (ps_fld (pv 0) (pv 1) (by rfl))
        (pss_cons (ps_fld (pv 0) (pv 2) (by rfl))
        (pss_cons (ps_fld (pv 0) (pe_int) (by rfl))
        (pss_cons (ps_fld (pv 0) (pe_lst (pa_nil)) (by rfl))
        (pss_one (ps_fld (pv 0) (pe_lst (pa_nil)) (by rfl))))))

abbrev s_Machine_init : Stmt := inClass (topS 10) 0
abbrev N_Machine_init : List Str := ["self", "kinds", "code", "numbers", "most", "deep"]
theorem sc_Machine_init : FnScope N_Machine_init ["self", "kinds", "code", "numbers", "most", "deep"] (defScope s_Machine_init) := ⟨rfl, rfl, rfl, by decide +kernel, rfl, by decide +kernel, by decide +kernel⟩
theorem ok_Machine_init {C_Frame : Addr} {sp_Frame_init : Sp} {sp_slots_for : Sp} {f : Addr} {fd : FuncData} (D : FunD K "__init__" "Machine.__init__" (defArgs s_Machine_init) (defBody s_Machine_init) (defScope s_Machine_init) [] [] f fd) (c_Frame_init : CalC P w K mg base k "Frame" C_Frame ["self", "number", "slots"] sp_Frame_init) (c_slots_for : Cal P w K mg base k "slots_for" ["numbers"] sp_slots_for) {sp : Sp}
    (len : ∀ vs H Q E, sp vs H Q E → vs.length = 6)
    (rd : ∀ vs H Q E, sp vs H Q E → t_Machine_init K C_Frame sp_Frame_init sp_slots_for { nx := fun _ H' => Q .non H', rt := Q } (start N_Machine_init vs) H) : FnOk P w K mg base CX0 (k + 2) f fd ["self", "kinds", "code", "numbers", "most", "deep"] sp := by
  refine D.ok sc_Machine_init len (fun cdv A outer s H vs Q E hr h => ⟨t_Machine_init K C_Frame sp_Frame_init sp_slots_for, PSs.nox ?_, rd vs H Q E h⟩)
  · have hrm := hr; have hr : Room k _ := hr.mono (by omega)
    unfold t_Machine_init
    exact pss_cons (ps_fld (pv 0) (pv 1) (by rfl))
        (pss_cons (ps_fld (pv 0) (pv 2) (by rfl))
        (pss_cons (ps_fld (pv 0) (pv 4) (by rfl))
        (pss_cons (ps_fld (pv 0) (pv 5) (by rfl))
        (pss_cons (ps_fld (pv 0) (pe_lst (pa_nil)) (by rfl))
        (pss_cons (ps_fld (pv 0) (pe_int) (by rfl))
        (pss_cons (ps_fld (pv 0) (pe_non) (by rfl))
        (pss_one (ps_fld (pv 0) (pe_lst (pa_cons (pk c_Frame_init hrm (pa_cons (pe_int) (pa_cons (pc c_slots_for hr (pa_cons (pv 3) (pa_nil))) (pa_nil)))) (pa_nil))) (by rfl)))))))))

abbrev s_Machine_events : Stmt := inClass (topS 10) 1
abbrev N_Machine_events : List Str := ["self"]
theorem sc_Machine_events : FnScope N_Machine_events ["self"] (defScope s_Machine_events) := ⟨rfl, rfl, rfl, by decide +kernel, rfl, by decide +kernel, by decide +kernel⟩
theorem ok_Machine_events  {f : Addr} {fd : FuncData} (D : FunD K "events" "Machine.events" (defArgs s_Machine_events) (defBody s_Machine_events) (defScope s_Machine_events) [] [] f fd) (B_list : mg "list" = none) {sp : Sp}
    (len : ∀ vs H Q E, sp vs H Q E → vs.length = 1)
    (rd : ∀ vs H Q E, sp vs H Q E → t_Machine_events K { nx := fun _ H' => Q .non H', rt := Q } (start N_Machine_events vs) H) : FnOk P w K mg base CX0 (k + 1) f fd ["self"] sp := by
  refine D.ok sc_Machine_events len (fun cdv A outer s H vs Q E hr h => ⟨t_Machine_events K, PSs.nox ?_, rd vs H Q E h⟩)
  · unfold t_Machine_events
    exact pss_one (ps_ret (pe_callTy call_list_of (by rfl) B_list (by decide +kernel) (pa_cons (pe_fld (pv 0) (by rfl)) (pa_nil))))

abbrev s_Machine_table : Stmt := inClass (topS 10) 4
abbrev N_Machine_table : List Str := ["self", "frame"]
theorem sc_Machine_table : FnScope N_Machine_table ["self", "frame"] (defScope s_Machine_table) := ⟨rfl, rfl, rfl, by decide +kernel, rfl, by decide +kernel, by decide +kernel⟩
theorem ok_Machine_table  {f : Addr} {fd : FuncData} (D : FunD K "table" "Machine.table" (defArgs s_Machine_table) (defBody s_Machine_table) (defScope s_Machine_table) [] [] f fd)  {sp : Sp}
    (len : ∀ vs H Q E, sp vs H Q E → vs.length = 2)
    (rd : ∀ vs H Q E, sp vs H Q E → t_Machine_table K { nx := fun _ H' => Q .non H', rt := Q } (start N_Machine_table vs) H) : FnOk P w K mg base CX0 (k + 1) f fd ["self", "frame"] sp := by
  refine D.ok sc_Machine_table len (fun cdv A outer s H vs Q E hr h => ⟨t_Machine_table K, PSs.nox ?_, rd vs H Q E h⟩)
  · unfold t_Machine_table
    exact pss_one (ps_ret (pe_ix ix_tup (pe_ix ix_tup (pe_fld (pv 0) (by rfl)) (pe_fld (pv 1) (by rfl)) (fun _ _ => rfl)) (pe_int) (fun _ _ => rfl)))

abbrev s_Machine_enter : Stmt := inClass (topS 10) 10
abbrev N_Machine_enter : List Str := ["self", "frame", "row", "pending"]
theorem sc_Machine_enter : FnScope N_Machine_enter ["self", "frame", "row", "pending"] (defScope s_Machine_enter) := ⟨rfl, rfl, rfl, by decide +kernel, rfl, by decide +kernel, by decide +kernel⟩
theorem ok_Machine_enter  {f : Addr} {fd : FuncData} (D : FunD K "enter" "Machine.enter" (defArgs s_Machine_enter) (defBody s_Machine_enter) (defScope s_Machine_enter) [] [] f fd)  {sp : Sp}
    (len : ∀ vs H Q E, sp vs H Q E → vs.length = 4)
    (rd : ∀ vs H Q E, sp vs H Q E → t_Machine_enter K { nx := fun _ H' => Q .non H', rt := Q } (start N_Machine_enter vs) H) : FnOk P w K mg base CX0 (k + 1) f fd ["self", "frame", "row", "pending"] sp := by
  refine D.ok sc_Machine_enter len (fun cdv A outer s H vs Q E hr h => ⟨t_Machine_enter K, PSs.nox ?_, rd vs H Q E h⟩)
  · unfold t_Machine_enter
    exact pss_cons (ps_fld (pv 1) (pe_slice sl_list (pe_fld (pv 1) (by rfl)) po_none (po_some (pe_ix ix_tup (pv 2) (pe_int) (fun _ _ => rfl)))) (by rfl))
        (pss_cons (ps_expr (pe_bm PySem.F.plainAttrs_list PySem.F.slot_list_append PySem.F.type_list_append mt_append (pe_fld (pv 1) (by rfl)) (pa_cons (pv 3) (pa_nil))))
        (pss_one (ps_fld (pv 1) (pe_ix ix_tup (pv 2) (pe_int) (fun _ _ => rfl)) (by rfl))))

abbrev s_Machine_cleanup_left : Stmt := inClass (topS 10) 11
abbrev N_Machine_cleanup_left : List Str := ["self", "frame", "goal", "row"]
theorem sc_Machine_cleanup_left : FnScope N_Machine_cleanup_left ["self", "frame", "goal"] (defScope s_Machine_cleanup_left) := ⟨rfl, rfl, rfl, by decide +kernel, rfl, by decide +kernel, by decide +kernel⟩
theorem ok_Machine_cleanup_left {C_Machine : Addr} {sp_Machine_table : Sp} {f : Addr} {fd : FuncData} (D : FunD K "cleanup_left" "Machine.cleanup_left" (defArgs s_Machine_cleanup_left) (defBody s_Machine_cleanup_left) (defScope s_Machine_cleanup_left) [] [] f fd) (c_Machine_table : CalM P w K mg base k C_Machine "table" ["self", "frame"] sp_Machine_table) {sp : Sp}
    (len : ∀ vs H Q E, sp vs H Q E → vs.length = 3)
    (rd : ∀ vs H Q E, sp vs H Q E → t_Machine_cleanup_left K C_Machine sp_Machine_table { nx := fun _ H' => Q .non H', rt := Q } (start N_Machine_cleanup_left vs) H) : FnOk P w K mg base CX0 (k + 1) f fd ["self", "frame", "goal"] sp := by
  refine D.ok sc_Machine_cleanup_left len (fun cdv A outer s H vs Q E hr h => ⟨t_Machine_cleanup_left K C_Machine sp_Machine_table, PSs.nox ?_, rd vs H Q E h⟩)
  · unfold t_Machine_cleanup_left
    exact pss_cons (ps_for PassesOwn.never rfl (pi_tup (pm c_Machine_table hr (pv 0) (pa_cons (pv 1) (pa_nil)))) (pg_name (i := 3) sc_Machine_cleanup_left.nd rfl (by first | exact Or.inl rfl | exact Or.inr rfl)) (pss_one (ps_if (PW.pt (pw_and (pt_cmpR op_eq (pe_ix ix_tup (pv 3) (pe_int) (fun _ _ => rfl)) (pe_str) (nomark _)) (pw_and1 (pt_chain op_le op_lt (pe_ix ix_tup (pv 3) (pe_int) (fun _ _ => rfl)) (pe_fld (pv 1) (by rfl)) (pe_ix ix_tup (pv 3) (pe_int) (fun _ _ => rfl)))))) (pss_one (ps_if (PW.pt (pw_or (pt_cmpR op_isN (pv 2) (pe_non) (nomark _)) (pw_or1 (pt_not (pt_chain op_le op_lt (pe_ix ix_tup (pv 3) (pe_int) (fun _ _ => rfl)) (pv 2) (pe_ix ix_tup (pv 3) (pe_int) (fun _ _ => rfl))))))) (pss_one (ps_ret (pv 3))) (pss_nil))) (pss_nil))))
        (pss_one (ps_ret (pe_non)))

abbrev s_Machine_leap : Stmt := inClass (topS 10) 12
abbrev N_Machine_leap : List Str := ["self", "frame", "goal", "depth", "row"]
theorem sc_Machine_leap : FnScope N_Machine_leap ["self", "frame", "goal", "depth"] (defScope s_Machine_leap) := ⟨rfl, rfl, rfl, by decide +kernel, rfl, by decide +kernel, by decide +kernel⟩
theorem ok_Machine_leap {C_Machine : Addr} {sp_Machine_cleanup_left : Sp} {sp_Machine_enter : Sp} {f : Addr} {fd : FuncData} (D : FunD K "leap" "Machine.leap" (defArgs s_Machine_leap) (defBody s_Machine_leap) (defScope s_Machine_leap) [] [] f fd) (c_Machine_cleanup_left : CalM P w K mg base k C_Machine "cleanup_left" ["self", "frame", "goal"] sp_Machine_cleanup_left) (c_Machine_enter : CalM P w K mg base k C_Machine "enter" ["self", "frame", "row", "pending"] sp_Machine_enter) {sp : Sp}
    (len : ∀ vs H Q E, sp vs H Q E → vs.length = 4)
    (rd : ∀ vs H Q E, sp vs H Q E → t_Machine_leap K C_Machine sp_Machine_cleanup_left sp_Machine_enter { nx := fun _ H' => Q .non H', rt := Q } (start N_Machine_leap vs) H) : FnOk P w K mg base CX0 (k + 1) f fd ["self", "frame", "goal", "depth"] sp := by
  refine D.ok sc_Machine_leap len (fun cdv A outer s H vs Q E hr h => ⟨t_Machine_leap K C_Machine sp_Machine_cleanup_left sp_Machine_enter, PSs.nox ?_, rd vs H Q E h⟩)
  · unfold t_Machine_leap
    exact pss_cons (ps_set (i := 4) sc_Machine_leap.nd rfl (by first | exact Or.inl rfl | exact Or.inr rfl) (pm c_Machine_cleanup_left hr (pv 0) (pa_cons (pv 1) (pa_cons (pv 2) (pa_nil)))))
        (pss_one (ps_if (pt_cmpR op_notN (pv 4) (pe_non) (nomark _)) (pss_one (ps_expr (pm c_Machine_enter hr (pv 0) (pa_cons (pv 1) (pa_cons (pv 4) (pa_cons (pe_tup (pa_cons (pe_str) (pa_cons (pv 2) (pa_cons (pv 3) (pa_nil))))) (pa_nil))))))) (pss_cons (ps_fld (pv 1) (pe_slice sl_list (pe_fld (pv 1) (by rfl)) po_none (po_some (pv 3))) (by rfl))
        (pss_one (ps_fld (pv 1) (pv 2) (by rfl))))))

abbrev s_Machine_give_back : Stmt := inClass (topS 10) 13
abbrev N_Machine_give_back : List Str := ["self", "frame", "value", "row"]
theorem sc_Machine_give_back : FnScope N_Machine_give_back ["self", "frame", "value"] (defScope s_Machine_give_back) := ⟨rfl, rfl, rfl, by decide +kernel, rfl, by decide +kernel, by decide +kernel⟩
theorem ok_Machine_give_back {C_Machine : Addr} {sp_Machine_cleanup_left : Sp} {sp_Machine_enter : Sp} {f : Addr} {fd : FuncData} (D : FunD K "give_back" "Machine.give_back" (defArgs s_Machine_give_back) (defBody s_Machine_give_back) (defScope s_Machine_give_back) [] [] f fd) (c_Machine_cleanup_left : CalM P w K mg base k C_Machine "cleanup_left" ["self", "frame", "goal"] sp_Machine_cleanup_left) (c_Machine_enter : CalM P w K mg base k C_Machine "enter" ["self", "frame", "row", "pending"] sp_Machine_enter) {sp : Sp}
    (len : ∀ vs H Q E, sp vs H Q E → vs.length = 3)
    (rd : ∀ vs H Q E, sp vs H Q E → t_Machine_give_back K C_Machine sp_Machine_cleanup_left sp_Machine_enter { nx := fun _ H' => Q .non H', rt := Q } (start N_Machine_give_back vs) H) : FnOk P w K mg base CX0 (k + 1) f fd ["self", "frame", "value"] sp := by
  refine D.ok sc_Machine_give_back len (fun cdv A outer s H vs Q E hr h => ⟨t_Machine_give_back K C_Machine sp_Machine_cleanup_left sp_Machine_enter, PSs.nox ?_, rd vs H Q E h⟩)
  · unfold t_Machine_give_back
    exact pss_cons (ps_set (i := 3) sc_Machine_give_back.nd rfl (by first | exact Or.inl rfl | exact Or.inr rfl) (pm c_Machine_cleanup_left hr (pv 0) (pa_cons (pv 1) (pa_cons (pe_non) (pa_nil)))))
        (pss_cons (ps_if (pt_cmpR op_notN (pv 3) (pe_non) (nomark _)) (pss_cons (ps_expr (pm c_Machine_enter hr (pv 0) (pa_cons (pv 1) (pa_cons (pv 3) (pa_cons (pe_tup (pa_cons (pe_str) (pa_cons (pv 2) (pa_nil)))) (pa_nil))))))
        (pss_one (ps_retN))) (pss_nil))
        (pss_cons (ps_expr (pe_bm0 PySem.F.plainAttrs_list PySem.F.slot_list_pop PySem.F.type_list_pop mt_pop (pe_fld (pv 0) (by rfl))))
        (pss_one (ps_if (pt_cmpR (op_eqE hr.units) (pe_fld (pv 0) (by rfl)) (pe_lst (pa_nil)) (nomark _)) (pss_one (ps_fld (pv 0) (pe_tup (pa_cons (pe_str) (pa_cons (pv 2) (pa_nil)))) (by rfl))) (pss_cons (ps_expr (pe_bm PySem.F.plainAttrs_list PySem.F.slot_list_append PySem.F.type_list_append mt_append (pe_fld (pe_ix ix_list (pe_fld (pv 0) (by rfl)) (pe_un un_neg (pe_int)) (fun _ _ => rfl)) (by rfl)) (pa_cons (pv 2) (pa_nil))))
        (pss_one (ps_fld (pe_ix ix_list (pe_fld (pv 0) (by rfl)) (pe_un un_neg (pe_int)) (fun _ _ => rfl)) (pe_op op_add (pe_fld (pe_ix ix_list (pe_fld (pv 0) (by rfl)) (pe_un un_neg (pe_int)) (fun _ _ => rfl)) (by rfl)) (pe_int)) (by rfl))))))))

abbrev s_Machine_fly : Stmt := inClass (topS 10) 14
abbrev N_Machine_fly : List Str := ["self", "fault", "frame", "row", "outer", "mark"]
theorem sc_Machine_fly : FnScope N_Machine_fly ["self", "fault"] (defScope s_Machine_fly) := ⟨rfl, rfl, rfl, by decide +kernel, rfl, by decide +kernel, by decide +kernel⟩
theorem ok_Machine_fly {C_Machine : Addr} {sp_Machine_table : Sp} {sp_Machine_enter : Sp} {sp_meets : Sp} {f : Addr} {fd : FuncData} (D : FunD K "fly" "Machine.fly" (defArgs s_Machine_fly) (defBody s_Machine_fly) (defScope s_Machine_fly) [] [] f fd) (c_Machine_table : CalM P w K mg base k C_Machine "table" ["self", "frame"] sp_Machine_table) (c_Machine_enter : CalM P w K mg base k C_Machine "enter" ["self", "frame", "row", "pending"] sp_Machine_enter) (c_meets : Cal P w K mg base k "meets" ["kinds", "wanted", "kind"] sp_meets) {sp : Sp}
    (len : ∀ vs H Q E, sp vs H Q E → vs.length = 2)
    (rd : ∀ vs H Q E, sp vs H Q E → t_Machine_fly K C_Machine sp_Machine_table sp_Machine_enter sp_meets { nx := fun _ H' => Q .non H', rt := Q } (start N_Machine_fly vs) H) : FnOk P w K mg base CX0 (k + 1) f fd ["self", "fault"] sp := by
  refine D.ok sc_Machine_fly len (fun cdv A outer s H vs Q E hr h => ⟨t_Machine_fly K C_Machine sp_Machine_table sp_Machine_enter sp_meets, PSs.nox ?_, rd vs H Q E h⟩)
  · unfold t_Machine_fly
    exact pss_cons (ps_while PassesOwn.never (pt_cmpR (op_neE hr.units) (pe_fld (pv 0) (by rfl)) (pe_lst (pa_nil)) (nomark _)) (pss_cons (ps_set (i := 2) sc_Machine_fly.nd rfl (by first | exact Or.inl rfl | exact Or.inr rfl) (pe_ix ix_list (pe_fld (pv 0) (by rfl)) (pe_un un_neg (pe_int)) (fun _ _ => rfl)))
        (pss_cons (ps_for PassesOwn.never rfl (pi_tup (pm c_Machine_table hr (pv 0) (pa_cons (pv 2) (pa_nil)))) (pg_name (i := 3) sc_Machine_fly.nd rfl (by first | exact Or.inl rfl | exact Or.inr rfl)) (pss_one (ps_if (pt_chain op_le op_lt (pe_ix ix_tup (pv 3) (pe_int) (fun _ _ => rfl)) (pe_fld (pv 2) (by rfl)) (pe_ix ix_tup (pv 3) (pe_int) (fun _ _ => rfl))) (pss_cons (ps_if (pt_cmpR op_eq (pe_ix ix_tup (pv 3) (pe_int) (fun _ _ => rfl)) (pe_str) (nomark _)) (pss_cons (ps_expr (pm c_Machine_enter hr (pv 0) (pa_cons (pv 2) (pa_cons (pv 3) (pa_cons (pv 1) (pa_nil))))))
        (pss_one (ps_retN))) (pss_nil))
        (pss_one (ps_if (pt_val (pc c_meets hr (pa_cons (pe_fld (pv 0) (by rfl)) (pa_cons (pe_ix ix_tup (pv 3) (pe_int) (fun _ _ => rfl)) (pa_cons (pe_ix ix_tup (pv 1) (pe_int) (fun _ _ => rfl)) (pa_nil)))))) (pss_cons (ps_expr (pm c_Machine_enter hr (pv 0) (pa_cons (pv 2) (pa_cons (pv 3) (pa_cons (pe_op op_catA (pe_tup (pa_cons (pe_str) (pa_nil))) (pe_slice sl_tupA (pv 1) (po_some (pe_int)) po_none)) (pa_nil))))))
        (pss_one (ps_retN))) (pss_nil)))) (pss_nil))))
        (pss_cons (ps_expr (pe_bm0 PySem.F.plainAttrs_list PySem.F.slot_list_pop PySem.F.type_list_pop mt_pop (pe_fld (pv 0) (by rfl))))
        (pss_one (ps_if (pt_cmpR (op_neE hr.units) (pe_fld (pv 0) (by rfl)) (pe_lst (pa_nil)) (nomark _)) (pss_cons (ps_set (i := 4) sc_Machine_fly.nd rfl (by first | exact Or.inl rfl | exact Or.inr rfl) (pe_ix ix_list (pe_fld (pv 0) (by rfl)) (pe_un un_neg (pe_int)) (fun _ _ => rfl)))
        (pss_cons (ps_set (i := 5) sc_Machine_fly.nd rfl (by first | exact Or.inl rfl | exact Or.inr rfl) (pe_ix ix_tup (pe_ix ix_tup (pe_ix ix_tup (pe_ix ix_tup (pe_fld (pv 0) (by rfl)) (pe_fld (pv 4) (by rfl)) (fun _ _ => rfl)) (pe_int) (fun _ _ => rfl)) (pe_fld (pv 4) (by rfl)) (fun _ _ => rfl)) (pe_int) (fun _ _ => rfl)))
        (pss_one (ps_set (i := 1) sc_Machine_fly.nd rfl (by first | exact Or.inl rfl | exact Or.inr rfl) (pe_tup (pa_cons (pe_str) (pa_cons (pe_ix ix_tup (pv 1) (pe_int) (fun _ _ => rfl)) (pa_cons (pe_ix ix_tup (pv 1) (pe_int) (fun _ _ => rfl)) (pa_cons (pe_op op_catA (pe_ix ix_tup (pv 1) (pe_int) (fun _ _ => rfl)) (pe_tup (pa_cons (pv 5) (pa_nil)))) (pa_nil)))))))))) (pss_nil)))))))
        (pss_one (ps_fld (pv 0) (pv 1) (by rfl)))

abbrev s_Machine_resume : Stmt := inClass (topS 10) 9
abbrev N_Machine_resume : List Str := ["self", "frame", "pending"]
theorem sc_Machine_resume : FnScope N_Machine_resume ["self", "frame", "pending"] (defScope s_Machine_resume) := ⟨rfl, rfl, rfl, by decide +kernel, rfl, by decide +kernel, by decide +kernel⟩
theorem ok_Machine_resume {C_Machine : Addr} {sp_Machine_leap : Sp} {sp_Machine_give_back : Sp} {sp_Machine_fly : Sp} {f : Addr} {fd : FuncData} (D : FunD K "resume" "Machine.resume" (defArgs s_Machine_resume) (defBody s_Machine_resume) (defScope s_Machine_resume) [] [] f fd) (c_Machine_leap : CalM P w K mg base k C_Machine "leap" ["self", "frame", "goal", "depth"] sp_Machine_leap) (c_Machine_give_back : CalM P w K mg base k C_Machine "give_back" ["self", "frame", "value"] sp_Machine_give_back) (c_Machine_fly : CalM P w K mg base k C_Machine "fly" ["self", "fault"] sp_Machine_fly) {sp : Sp}
    (len : ∀ vs H Q E, sp vs H Q E → vs.length = 3)
    (rd : ∀ vs H Q E, sp vs H Q E → t_Machine_resume K C_Machine sp_Machine_leap sp_Machine_give_back sp_Machine_fly { nx := fun _ H' => Q .non H', rt := Q } (start N_Machine_resume vs) H) : FnOk P w K mg base CX0 (k + 1) f fd ["self", "frame", "pending"] sp := by
  refine D.ok sc_Machine_resume len (fun cdv A outer s H vs Q E hr h => ⟨t_Machine_resume K C_Machine sp_Machine_leap sp_Machine_give_back sp_Machine_fly, PSs.nox ?_, rd vs H Q E h⟩)
  · unfold t_Machine_resume
    exact pss_one (ps_if (pt_cmpR op_eq (pe_ix ix_tup (pv 2) (pe_int) (fun _ _ => rfl)) (pe_str) (nomark _)) (pss_one (ps_fld (pv 1) (pe_op op_add (pe_fld (pv 1) (by rfl)) (pe_int)) (by rfl))) (pss_one (ps_if (pt_cmpR op_eq (pe_ix ix_tup (pv 2) (pe_int) (fun _ _ => rfl)) (pe_str) (nomark _)) (pss_one (ps_expr (pm c_Machine_leap hr (pv 0) (pa_cons (pv 1) (pa_cons (pe_ix ix_tup (pv 2) (pe_int) (fun _ _ => rfl)) (pa_cons (pe_ix ix_tup (pv 2) (pe_int) (fun _ _ => rfl)) (pa_nil))))))) (pss_one (ps_if (pt_cmpR op_eq (pe_ix ix_tup (pv 2) (pe_int) (fun _ _ => rfl)) (pe_str) (nomark _)) (pss_one (ps_expr (pm c_Machine_give_back hr (pv 0) (pa_cons (pv 1) (pa_cons (pe_ix ix_tup (pv 2) (pe_int) (fun _ _ => rfl)) (pa_nil)))))) (pss_one (ps_expr (pm c_Machine_fly hr (pv 0) (pa_cons (pv 2) (pa_nil))))))))))

abbrev s_Machine_call : Stmt := inClass (topS 10) 15
abbrev N_Machine_call : List Str := ["self", "frame", "row", "many", "numbers"]
theorem sc_Machine_call : FnScope N_Machine_call ["self", "frame", "row"] (defScope s_Machine_call) := ⟨rfl, rfl, rfl, by decide +kernel, rfl, by decide +kernel, by decide +kernel⟩
theorem ok_Machine_call {C_Frame : Addr} {sp_Frame_init : Sp} {sp_slots_for : Sp} {f : Addr} {fd : FuncData} (D : FunD K "call" "Machine.call" (defArgs s_Machine_call) (defBody s_Machine_call) (defScope s_Machine_call) [] [] f fd) (B_len : mg "len" = none) (c_Frame_init : CalC P w K mg base k "Frame" C_Frame ["self", "number", "slots"] sp_Frame_init) (c_slots_for : Cal P w K mg base k "slots_for" ["numbers"] sp_slots_for) {sp : Sp}
    (len : ∀ vs H Q E, sp vs H Q E → vs.length = 3)
    (rd : ∀ vs H Q E, sp vs H Q E → t_Machine_call K C_Frame sp_Frame_init sp_slots_for { nx := fun _ H' => Q .non H', rt := Q } (start N_Machine_call vs) H) : FnOk P w K mg base CX0 (k + 2) f fd ["self", "frame", "row"] sp := by
  refine D.ok sc_Machine_call len (fun cdv A outer s H vs Q E hr h => ⟨t_Machine_call K C_Frame sp_Frame_init sp_slots_for, PSs.nox ?_, rd vs H Q E h⟩)
  · have hrm := hr; have hr : Room k _ := hr.mono (by omega)
    unfold t_Machine_call
    exact pss_cons (ps_fld (pv 0) (pe_op op_sub (pe_fld (pv 0) (by rfl)) (pe_int)) (by rfl))
        (pss_one (ps_if (pt_cmpR op_lt (pe_fld (pv 0) (by rfl)) (pe_int) (nomark _)) (pss_one (ps_fld (pv 0) (pe_tup (pa_cons (pe_str) (pa_nil))) (by rfl))) (pss_one (ps_if (pt_cmpR op_eq (pe_callB call_len_seq (by rfl) B_len PySem.boot_len (pa_cons (pe_fld (pv 0) (by rfl)) (pa_nil))) (pe_fld (pv 0) (by rfl)) (nomark _)) (pss_one (ps_fld (pv 0) (pe_tup (pa_cons (pe_str) (pa_nil))) (by rfl))) (pss_cons (ps_set (i := 3) sc_Machine_call.nd rfl (by first | exact Or.inl rfl | exact Or.inr rfl) (pe_ix ix_tup (pv 2) (pe_int) (fun _ _ => rfl)))
        (pss_cons (ps_set (i := 4) sc_Machine_call.nd rfl (by first | exact Or.inl rfl | exact Or.inr rfl) (pe_slice sl_list (pe_fld (pv 1) (by rfl)) (po_some (pe_op op_sub (pe_callB call_len_seq (by rfl) B_len PySem.boot_len (pa_cons (pe_fld (pv 1) (by rfl)) (pa_nil))) (pv 3))) po_none))
        (pss_cons (ps_fld (pv 1) (pe_slice sl_list (pe_fld (pv 1) (by rfl)) po_none (po_some (pe_op op_sub (pe_callB call_len_seq (by rfl) B_len PySem.boot_len (pa_cons (pe_fld (pv 1) (by rfl)) (pa_nil))) (pv 3)))) (by rfl))
        (pss_one (ps_expr (pe_bm PySem.F.plainAttrs_list PySem.F.slot_list_append PySem.F.type_list_append mt_append (pe_fld (pv 0) (by rfl)) (pa_cons (pk c_Frame_init hrm (pa_cons (pe_ix ix_tup (pv 2) (pe_int) (fun _ _ => rfl)) (pa_cons (pc c_slots_for hr (pa_cons (pv 4) (pa_nil))) (pa_nil)))) (pa_nil))))))))))))

abbrev s_Machine_leave : Stmt := inClass (topS 10) 8
abbrev N_Machine_leave : List Str := ["self", "frame", "row", "word", "met", "one"]
theorem sc_Machine_leave : FnScope N_Machine_leave ["self", "frame", "row"] (defScope s_Machine_leave) := ⟨rfl, rfl, rfl, by decide +kernel, rfl, by decide +kernel, by decide +kernel⟩
theorem ok_Machine_leave {C_Machine : Addr} {sp_Machine_leap : Sp} {sp_Machine_give_back : Sp} {sp_Machine_fly : Sp} {sp_Machine_call : Sp} {sp_Machine_resume : Sp} {f : Addr} {fd : FuncData} (D : FunD K "leave" "Machine.leave" (defArgs s_Machine_leave) (defBody s_Machine_leave) (defScope s_Machine_leave) [] [] f fd) (c_Machine_leap : CalM P w K mg base k C_Machine "leap" ["self", "frame", "goal", "depth"] sp_Machine_leap) (c_Machine_give_back : CalM P w K mg base k C_Machine "give_back" ["self", "frame", "value"] sp_Machine_give_back) (c_Machine_fly : CalM P w K mg base k C_Machine "fly" ["self", "fault"] sp_Machine_fly) (c_Machine_call : CalM P w K mg base k C_Machine "call" ["self", "frame", "row"] sp_Machine_call) (c_Machine_resume : CalM P w K mg base k C_Machine "resume" ["self", "frame", "pending"] sp_Machine_resume) {sp : Sp}
    (len : ∀ vs H Q E, sp vs H Q E → vs.length = 3)
    (rd : ∀ vs H Q E, sp vs H Q E → t_Machine_leave K C_Machine sp_Machine_leap sp_Machine_give_back sp_Machine_fly sp_Machine_call sp_Machine_resume { nx := fun _ H' => Q .non H', rt := Q } (start N_Machine_leave vs) H) : FnOk P w K mg base CX0 (k + 1) f fd ["self", "frame", "row"] sp := by
  refine D.ok sc_Machine_leave len (fun cdv A outer s H vs Q E hr h => ⟨t_Machine_leave K C_Machine sp_Machine_leap sp_Machine_give_back sp_Machine_fly sp_Machine_call sp_Machine_resume, PSs.nox ?_, rd vs H Q E h⟩)
  · unfold t_Machine_leave
    exact pss_cons (ps_set (i := 3) sc_Machine_leave.nd rfl (by first | exact Or.inl rfl | exact Or.inr rfl) (pe_ix ix_tup (pv 2) (pe_int) (fun _ _ => rfl)))
        (pss_one (ps_if (pt_cmpR op_eq (pv 3) (pe_str) (nomark _)) (pss_one (ps_expr (pm c_Machine_leap hr (pv 0) (pa_cons (pv 1) (pa_cons (pe_ix ix_tup (pv 2) (pe_int) (fun _ _ => rfl)) (pa_cons (pe_ix ix_tup (pv 2) (pe_int) (fun _ _ => rfl)) (pa_nil))))))) (pss_one (ps_if (pt_cmpR op_eq (pv 3) (pe_str) (nomark _)) (pss_one (ps_expr (pm c_Machine_give_back hr (pv 0) (pa_cons (pv 1) (pa_cons (pe_bm0 PySem.F.plainAttrs_list PySem.F.slot_list_pop PySem.F.type_list_pop mt_pop (pe_fld (pv 1) (by rfl))) (pa_nil)))))) (pss_one (ps_if (pt_cmpR op_eq (pv 3) (pe_str) (nomark _)) (pss_one (ps_expr (pm c_Machine_fly hr (pv 0) (pa_cons (pe_tup (pa_cons (pe_str) (pa_cons (pe_ix ix_tup (pv 2) (pe_int) (fun _ _ => rfl)) (pa_cons (pe_bm0 PySem.F.plainAttrs_list PySem.F.slot_list_pop PySem.F.type_list_pop mt_pop (pe_fld (pv 1) (by rfl))) (pa_cons (pe_tup (pa_cons (pe_ix ix_tup (pv 2) (pe_int) (fun _ _ => rfl)) (pa_nil))) (pa_nil)))))) (pa_nil))))) (pss_one (ps_if (pt_cmpR op_eq (pv 3) (pe_str) (nomark _)) (pss_cons (by first | exact ps_setLc (i := 4) (own := [("one", 5)]) (g := gName 5) rfl sc_Machine_leave.nd rfl rfl (sw_true rfl rfl rfl (by decide +kernel)) (pi_list (pe_fld (pv 1) (by rfl))) (blkOk_by (own := [("one", 5)]) (N := N_Machine_leave) (sc := defScope s_Machine_leave) (by decide +kernel)) (fun _ _ _ _ _ => pg_name (i := 5) sc_Machine_leave.nd rfl (Or.inl rfl)) (fun _ _ _ _ _ => pts_one (pt_cmpR op_eq (pe_ix ix_tup (pv 5) (pe_int) (fun _ _ => rfl)) (pe_str) (nomark _))) (fun _ _ _ _ _ => pv 5) | exact ps_set (i := 4) sc_Machine_leave.nd rfl (Or.inr rfl) (pe_lc (own := [("one", 5)]) (g := gName 5) rfl sc_Machine_leave.nd (pi_list (pe_fld (pv 1) (by rfl))) (blkOk_by (own := [("one", 5)]) (N := N_Machine_leave) (sc := defScope s_Machine_leave) (by decide +kernel)) (fun _ _ _ _ _ => pg_name (i := 5) sc_Machine_leave.nd rfl (Or.inl rfl)) (fun _ _ _ _ _ => pts_one (pt_cmpR op_eq (pe_ix ix_tup (pv 5) (pe_int) (fun _ _ => rfl)) (pe_str) (nomark _))) (fun _ _ _ _ _ => pv 5)))
        (pss_one (ps_expr (pm c_Machine_fly hr (pv 0) (pa_cons (pe_op op_catA (pe_tup (pa_cons (pe_str) (pa_nil))) (pe_slice sl_tupA (pe_ix ix_list (pv 4) (pe_un un_neg (pe_int)) (fun _ _ => rfl)) (po_some (pe_int)) po_none)) (pa_nil)))))) (pss_one (ps_if (pt_cmpR op_eq (pv 3) (pe_str) (nomark _)) (pss_one (ps_expr (pm c_Machine_call hr (pv 0) (pa_cons (pv 1) (pa_cons (pv 2) (pa_nil)))))) (pss_one (ps_expr (pm c_Machine_resume hr (pv 0) (pa_cons (pv 1) (pa_cons (pe_bm0 PySem.F.plainAttrs_list PySem.F.slot_list_pop PySem.F.type_list_pop mt_pop (pe_fld (pv 1) (by rfl))) (pa_nil))))))))))))))))

abbrev s_Machine_turn : Stmt := inClass (topS 10) 7
abbrev N_Machine_turn : List Str := ["self", "frame", "row"]
theorem sc_Machine_turn : FnScope N_Machine_turn ["self", "frame", "row"] (defScope s_Machine_turn) := ⟨rfl, rfl, rfl, by decide +kernel, rfl, by decide +kernel, by decide +kernel⟩
theorem ok_Machine_turn  {f : Addr} {fd : FuncData} (D : FunD K "turn" "Machine.turn" (defArgs s_Machine_turn) (defBody s_Machine_turn) (defScope s_Machine_turn) [] [] f fd)  {sp : Sp}
    (len : ∀ vs H Q E, sp vs H Q E → vs.length = 3)
    (rd : ∀ vs H Q E, sp vs H Q E → t_Machine_turn K { nx := fun _ H' => Q .non H', rt := Q } (start N_Machine_turn vs) H) : FnOk P w K mg base CX0 (k + 1) f fd ["self", "frame", "row"] sp := by
  refine D.ok sc_Machine_turn len (fun cdv A outer s H vs Q E hr h => ⟨t_Machine_turn K, PSs.nox ?_, rd vs H Q E h⟩)
  · unfold t_Machine_turn
    exact pss_one (ps_if (pt_cmpR op_eq (pe_ix ix_tup (pv 2) (pe_int) (fun _ _ => rfl)) (pe_str) (nomark _)) (pss_cons (ps_fld (pv 0) (pe_op op_sub (pe_fld (pv 0) (by rfl)) (pe_int)) (by rfl))
        (pss_cons (ps_if (pt_cmpR op_lt (pe_fld (pv 0) (by rfl)) (pe_int) (nomark _)) (pss_one (ps_fld (pv 0) (pe_tup (pa_cons (pe_str) (pa_nil))) (by rfl))) (pss_nil))
        (pss_one (ps_fld (pv 1) (pe_op op_add (pe_fld (pv 1) (by rfl)) (pe_int)) (by rfl))))) (pss_one (ps_if (PW.pt (pw_or (pt_cmpR op_eq (pe_ix ix_tup (pv 2) (pe_int) (fun _ _ => rfl)) (pe_str) (nomark _)) (pw_or1 (pt_cmpR op_eq (pe_bm0 PySem.F.plainAttrs_list PySem.F.slot_list_pop PySem.F.type_list_pop mt_pop (pe_fld (pv 1) (by rfl))) (pe_int) (nomark _))))) (pss_one (ps_fld (pv 1) (pe_ix ix_tup (pv 2) (pe_int) (fun _ _ => rfl)) (by rfl))) (pss_one (ps_fld (pv 1) (pe_op op_add (pe_fld (pv 1) (by rfl)) (pe_int)) (by rfl))))))

abbrev s_Machine_plain : Stmt := inClass (topS 10) 6
abbrev N_Machine_plain : List Str := ["self", "frame", "row", "word", "fault", "two", "one"]
theorem sc_Machine_plain : FnScope N_Machine_plain ["self", "frame", "row"] (defScope s_Machine_plain) := ⟨rfl, rfl, rfl, by decide +kernel, rfl, by decide +kernel, by decide +kernel⟩
theorem ok_Machine_plain {sp_joined : Sp} {f : Addr} {fd : FuncData} (D : FunD K "plain" "Machine.plain" (defArgs s_Machine_plain) (defBody s_Machine_plain) (defScope s_Machine_plain) [] [] f fd) (c_joined : Cal P w K mg base k "joined" ["word", "one", "two"] sp_joined) {sp : Sp}
    (len : ∀ vs H Q E, sp vs H Q E → vs.length = 3)
    (rd : ∀ vs H Q E, sp vs H Q E → t_Machine_plain K sp_joined { nx := fun _ H' => Q .non H', rt := Q } (start N_Machine_plain vs) H) : FnOk P w K mg base CX0 (k + 1) f fd ["self", "frame", "row"] sp := by
  refine D.ok sc_Machine_plain len (fun cdv A outer s H vs Q E hr h => ⟨t_Machine_plain K sp_joined, PSs.nox ?_, rd vs H Q E h⟩)
  · unfold t_Machine_plain
    exact pss_cons (ps_set (i := 3) sc_Machine_plain.nd rfl (by first | exact Or.inl rfl | exact Or.inr rfl) (pe_ix ix_tup (pv 2) (pe_int) (fun _ _ => rfl)))
        (pss_one (ps_if (pt_cmpR op_eq (pv 3) (pe_str) (nomark _)) (pss_one (ps_expr (pe_bm PySem.F.plainAttrs_list PySem.F.slot_list_append PySem.F.type_list_append mt_append (pe_fld (pv 1) (by rfl)) (pa_cons (pe_ix ix_tup (pv 2) (pe_int) (fun _ _ => rfl)) (pa_nil))))) (pss_one (ps_if (pt_cmpR op_eq (pv 3) (pe_str) (nomark _)) (pss_one (ps_expr (pe_bm PySem.F.plainAttrs_list PySem.F.slot_list_append PySem.F.type_list_append mt_append (pe_fld (pv 1) (by rfl)) (pa_cons (pe_ix ix_list (pe_fld (pv 1) (by rfl)) (pe_ix ix_tup (pv 2) (pe_int) (fun _ _ => rfl)) (fun _ _ => rfl)) (pa_nil))))) (pss_one (ps_if (pt_cmpR op_eq (pv 3) (pe_str) (nomark _)) (pss_one (ps_expr (pe_bm PySem.F.plainAttrs_list PySem.F.slot_list_append PySem.F.type_list_append mt_append (pe_fld (pv 0) (by rfl)) (pa_cons (pe_tup (pa_cons (pe_str) (pa_cons (pe_bm0 PySem.F.plainAttrs_list PySem.F.slot_list_pop PySem.F.type_list_pop mt_pop (pe_fld (pv 1) (by rfl))) (pa_nil)))) (pa_nil))))) (pss_one (ps_if (pt_cmpR op_eq (pv 3) (pe_str) (nomark _)) (pss_one (ps_asg (pe_bm0 PySem.F.plainAttrs_list PySem.F.slot_list_pop PySem.F.type_list_pop mt_pop (pe_fld (pv 1) (by rfl))) (pg_sub (pe_fld (pv 1) (by rfl)) (pe_ix ix_tup (pv 2) (pe_int) (fun _ _ => rfl)) set_list))) (pss_one (ps_if (pt_cmpR op_eq (pv 3) (pe_str) (nomark _)) (pss_cons (ps_set (i := 4) sc_Machine_plain.nd rfl (by first | exact Or.inl rfl | exact Or.inr rfl) (pe_ix ix_list (pe_fld (pv 1) (by rfl)) (pe_un un_neg (pe_int)) (fun _ _ => rfl)))
        (pss_cons (ps_expr (pe_bm PySem.F.plainAttrs_list PySem.F.slot_list_append PySem.F.type_list_append mt_append (pe_fld (pv 0) (by rfl)) (pa_cons (pe_tup (pa_cons (pe_str) (pa_cons (pe_ix ix_tup (pv 4) (pe_int) (fun _ _ => rfl)) (pa_cons (pe_ix ix_tup (pv 4) (pe_int) (fun _ _ => rfl)) (pa_cons (pe_ix ix_tup (pv 4) (pe_int) (fun _ _ => rfl)) (pa_nil)))))) (pa_nil))))
        (pss_one (ps_expr (pe_bm PySem.F.plainAttrs_list PySem.F.slot_list_append PySem.F.type_list_append mt_append (pe_fld (pv 1) (by rfl)) (pa_cons (pe_ix ix_tup (pv 4) (pe_int) (fun _ _ => rfl)) (pa_nil))))))) (pss_one (ps_if (pt_cmpR op_eq (pv 3) (pe_str) (nomark _)) (pss_one (ps_expr (pe_bm0 PySem.F.plainAttrs_list PySem.F.slot_list_pop PySem.F.type_list_pop mt_pop (pe_fld (pv 1) (by rfl))))) (pss_one (ps_if (pt_cmpR op_eq (pv 3) (pe_str) (nomark _)) (pss_one (ps_expr (pe_bm PySem.F.plainAttrs_list PySem.F.slot_list_append PySem.F.type_list_append mt_append (pe_fld (pv 1) (by rfl)) (pa_cons (pe_tup (pa_cons (pe_str) (pa_nil))) (pa_nil))))) (pss_one (ps_if (pt_cmpR op_ne (pv 3) (pe_str) (nomark _)) (pss_cons (ps_set (i := 5) sc_Machine_plain.nd rfl (by first | exact Or.inl rfl | exact Or.inr rfl) (pe_bm0 PySem.F.plainAttrs_list PySem.F.slot_list_pop PySem.F.type_list_pop mt_pop (pe_fld (pv 1) (by rfl))))
        (pss_cons (ps_set (i := 6) sc_Machine_plain.nd rfl (by first | exact Or.inl rfl | exact Or.inr rfl) (pe_bm0 PySem.F.plainAttrs_list PySem.F.slot_list_pop PySem.F.type_list_pop mt_pop (pe_fld (pv 1) (by rfl))))
        (pss_one (ps_expr (pe_bm PySem.F.plainAttrs_list PySem.F.slot_list_append PySem.F.type_list_append mt_append (pe_fld (pv 1) (by rfl)) (pa_cons (pc c_joined hr (pa_cons (pv 3) (pa_cons (pv 6) (pa_cons (pv 5) (pa_nil))))) (pa_nil))))))) (pss_nil)))))))))))))))))

abbrev s_Machine_move : Stmt := inClass (topS 10) 5
abbrev N_Machine_move : List Str := ["self", "frame", "row", "word"]
theorem sc_Machine_move : FnScope N_Machine_move ["self"] (defScope s_Machine_move) := ⟨rfl, rfl, rfl, by decide +kernel, rfl, by decide +kernel, by decide +kernel⟩
theorem ok_Machine_move {C_Machine : Addr} {sp_Machine_leave : Sp} {sp_Machine_turn : Sp} {sp_Machine_plain : Sp} {f : Addr} {fd : FuncData} (D : FunD K "move" "Machine.move" (defArgs s_Machine_move) (defBody s_Machine_move) (defScope s_Machine_move) [] [] f fd) (c_Machine_leave : CalM P w K mg base k C_Machine "leave" ["self", "frame", "row"] sp_Machine_leave) (c_Machine_turn : CalM P w K mg base k C_Machine "turn" ["self", "frame", "row"] sp_Machine_turn) (c_Machine_plain : CalM P w K mg base k C_Machine "plain" ["self", "frame", "row"] sp_Machine_plain) {sp : Sp}
    (len : ∀ vs H Q E, sp vs H Q E → vs.length = 1)
    (rd : ∀ vs H Q E, sp vs H Q E → t_Machine_move K C_Machine sp_Machine_leave sp_Machine_turn sp_Machine_plain { nx := fun _ H' => Q .non H', rt := Q } (start N_Machine_move vs) H) : FnOk P w K mg base CX0 (k + 1) f fd ["self"] sp := by
  refine D.ok sc_Machine_move len (fun cdv A outer s H vs Q E hr h => ⟨t_Machine_move K C_Machine sp_Machine_leave sp_Machine_turn sp_Machine_plain, PSs.nox ?_, rd vs H Q E h⟩)
  · unfold t_Machine_move
    exact pss_cons (ps_set (i := 1) sc_Machine_move.nd rfl (by first | exact Or.inl rfl | exact Or.inr rfl) (pe_ix ix_list (pe_fld (pv 0) (by rfl)) (pe_un un_neg (pe_int)) (fun _ _ => rfl)))
        (pss_cons (ps_set (i := 2) sc_Machine_move.nd rfl (by first | exact Or.inl rfl | exact Or.inr rfl) (pe_ix ix_tup (pe_ix ix_tup (pe_ix ix_tup (pe_fld (pv 0) (by rfl)) (pe_fld (pv 1) (by rfl)) (fun _ _ => rfl)) (pe_int) (fun _ _ => rfl)) (pe_fld (pv 1) (by rfl)) (fun _ _ => rfl)))
        (pss_cons (ps_set (i := 3) sc_Machine_move.nd rfl (by first | exact Or.inl rfl | exact Or.inr rfl) (pe_ix ix_tup (pv 2) (pe_int) (fun _ _ => rfl)))
        (pss_one (ps_if (pt_cmpR op_in_seq (pv 3) (pe_tup (pa_cons (pe_str) (pa_cons (pe_str) (pa_cons (pe_str) (pa_cons (pe_str) (pa_cons (pe_str) (pa_cons (pe_str) (pa_nil)))))))) (by rfl)) (pss_one (ps_expr (pm c_Machine_leave hr (pv 0) (pa_cons (pv 1) (pa_cons (pv 2) (pa_nil)))))) (pss_one (ps_if (pt_cmpR op_in_seq (pv 3) (pe_tup (pa_cons (pe_str) (pa_cons (pe_str) (pa_cons (pe_str) (pa_nil))))) (by rfl)) (pss_one (ps_expr (pm c_Machine_turn hr (pv 0) (pa_cons (pv 1) (pa_cons (pv 2) (pa_nil)))))) (pss_cons (ps_expr (pm c_Machine_plain hr (pv 0) (pa_cons (pv 1) (pa_cons (pv 2) (pa_nil)))))
        (pss_one (ps_fld (pv 1) (pe_op op_add (pe_fld (pv 1) (by rfl)) (pe_int)) (by rfl))))))))))

abbrev s_Machine_go : Stmt := inClass (topS 10) 3
abbrev N_Machine_go : List Str := ["self", "rows", "k"]
theorem sc_Machine_go : FnScope N_Machine_go ["self", "rows"] (defScope s_Machine_go) := ⟨rfl, rfl, rfl, by decide +kernel, rfl, by decide +kernel, by decide +kernel⟩
theorem ok_Machine_go {C_Machine : Addr} {sp_Machine_move : Sp} {f : Addr} {fd : FuncData} (D : FunD K "go" "Machine.go" (defArgs s_Machine_go) (defBody s_Machine_go) (defScope s_Machine_go) [] [] f fd) (B_range : mg "range" = none) (c_Machine_move : CalM P w K mg base k C_Machine "move" ["self"] sp_Machine_move) {sp : Sp}
    (len : ∀ vs H Q E, sp vs H Q E → vs.length = 2)
    (rd : ∀ vs H Q E, sp vs H Q E → t_Machine_go K C_Machine sp_Machine_move { nx := fun _ H' => Q .non H', rt := Q } (start N_Machine_go vs) H) : FnOk P w K mg base CX0 (k + 1) f fd ["self", "rows"] sp := by
  refine D.ok sc_Machine_go len (fun cdv A outer s H vs Q E hr h => ⟨t_Machine_go K C_Machine sp_Machine_move, PSs.nox ?_, rd vs H Q E h⟩)
  · unfold t_Machine_go
    exact pss_cons (ps_for PassesOwn.never rfl (pi_range1 (by rfl) B_range (pa_cons (pv 1) (pa_nil))) (pg_name (i := 2) sc_Machine_go.nd rfl (by first | exact Or.inl rfl | exact Or.inr rfl)) (pss_one (ps_if (pt_cmpR op_isN (pe_fld (pv 0) (by rfl)) (pe_non) (nomark _)) (pss_cons (ps_fld (pv 0) (pe_op op_add (pe_fld (pv 0) (by rfl)) (pe_int)) (by rfl))
        (pss_one (ps_expr (pm0 c_Machine_move hr (pv 0))))) (pss_nil))))
        (pss_cons (ps_if (pt_cmpR op_isN (pe_fld (pv 0) (by rfl)) (pe_non) (nomark _)) (pss_one (ps_ret (pe_tup (pa_cons (pe_str) (pa_nil))))) (pss_nil))
        (pss_one (ps_ret (pe_fld (pv 0) (by rfl)))))

abbrev s_table_of : Stmt := topS 12
abbrev N_table_of : List Str := ["rows", "found", "place", "row"]
theorem sc_table_of : FnScope N_table_of ["rows"] (defScope s_table_of) := ⟨rfl, rfl, rfl, by decide +kernel, rfl, by decide +kernel, by decide +kernel⟩
theorem ok_table_of  {f : Addr} {fd : FuncData} (D : FunD K "table_of" "table_of" (defArgs s_table_of) (defBody s_table_of) (defScope s_table_of) [] [] f fd) (B_enumerate : mg "enumerate" = none) (B_tuple : mg "tuple" = none) {sp : Sp}
    (len : ∀ vs H Q E, sp vs H Q E → vs.length = 1)
    (rd : ∀ vs H Q E, sp vs H Q E → t_table_of K { nx := fun _ H' => Q .non H', rt := Q } (start N_table_of vs) H) : FnOk P w K mg base CX0 (k + 1) f fd ["rows"] sp := by
  refine D.ok sc_table_of len (fun cdv A outer s H vs Q E hr h => ⟨t_table_of K, PSs.nox ?_, rd vs H Q E h⟩)
  · unfold t_table_of
    exact pss_cons (ps_set (i := 1) sc_table_of.nd rfl (by first | exact Or.inl rfl | exact Or.inr rfl) (pe_lst (pa_nil)))
        (pss_cons (ps_for PassesOwn.never rfl (pi_enT (by rfl) B_enumerate (pa_cons (pv 0) (pa_nil))) (pg_tup rfl (pgs_cons (pg_name (i := 2) sc_table_of.nd rfl (by first | exact Or.inl rfl | exact Or.inr rfl)) (pgs_cons (pg_name (i := 3) sc_table_of.nd rfl (by first | exact Or.inl rfl | exact Or.inr rfl)) pgs_nil))) (pss_cons (ps_if (pt_cmpR op_eq (pe_ix ix_tup (pv 3) (pe_int) (fun _ _ => rfl)) (pe_str) (nomark _)) (pss_one (ps_expr (pe_bm PySem.F.plainAttrs_list PySem.F.slot_list_append PySem.F.type_list_append mt_append (pv 1) (pa_cons (pe_tup (pa_cons (pe_ix ix_tup (pv 3) (pe_int) (fun _ _ => rfl)) (pa_cons (pe_ix ix_tup (pv 3) (pe_int) (fun _ _ => rfl)) (pa_cons (pe_str) (pa_cons (pe_ix ix_tup (pv 3) (pe_int) (fun _ _ => rfl)) (pa_cons (pv 2) (pa_cons (pe_ix ix_tup (pv 3) (pe_int) (fun _ _ => rfl)) (pa_nil)))))))) (pa_nil))))) (pss_nil))
        (pss_one (ps_if (pt_cmpR op_eq (pe_ix ix_tup (pv 3) (pe_int) (fun _ _ => rfl)) (pe_str) (nomark _)) (pss_one (ps_expr (pe_bm PySem.F.plainAttrs_list PySem.F.slot_list_append PySem.F.type_list_append mt_append (pv 1) (pa_cons (pe_tup (pa_cons (pe_ix ix_tup (pv 3) (pe_int) (fun _ _ => rfl)) (pa_cons (pe_ix ix_tup (pv 3) (pe_int) (fun _ _ => rfl)) (pa_cons (pe_str) (pa_cons (pe_non) (pa_cons (pv 2) (pa_cons (pe_ix ix_tup (pv 3) (pe_int) (fun _ _ => rfl)) (pa_nil)))))))) (pa_nil))))) (pss_nil)))))
        (pss_one (ps_ret (pe_callTy call_tuple_of (by rfl) B_tuple (by decide +kernel) (pa_cons (pv 1) (pa_nil))))))

abbrev s_Coder_init : Stmt := inClass (topS 14) 0
abbrev N_Coder_init : List Str := ["self"]
theorem sc_Coder_init : FnScope N_Coder_init ["self"] (defScope s_Coder_init) := ⟨rfl, rfl, rfl, by decide +kernel, rfl, by decide +kernel, by decide +kernel⟩
theorem ok_Coder_init  {f : Addr} {fd : FuncData} (D : FunD K "__init__" "Coder.__init__" (defArgs s_Coder_init) (defBody s_Coder_init) (defScope s_Coder_init) [] [] f fd)  {sp : Sp}
    (len : ∀ vs H Q E, sp vs H Q E → vs.length = 1)
    (rd : ∀ vs H Q E, sp vs H Q E → t_Coder_init K { nx := fun _ H' => Q .non H', rt := Q } (start N_Coder_init vs) H) : FnOk P w K mg base CX0 (k + 1) f fd ["self"] sp := by
  refine D.ok sc_Coder_init len (fun cdv A outer s H vs Q E hr h => ⟨t_Coder_init K, PSs.nox ?_, rd vs H Q E h⟩)
  · unfold t_Coder_init
    exact pss_cons (ps_fld (pv 0) (pe_lst (pa_nil)) (by rfl))
        (pss_one (ps_fld (pv 0) (pe_lst (pa_nil)) (by rfl)))

abbrev s_Coder_put : Stmt := inClass (topS 14) 1
abbrev N_Coder_put : List Str := ["self", "row"]
theorem sc_Coder_put : FnScope N_Coder_put ["self", "row"] (defScope s_Coder_put) := ⟨rfl, rfl, rfl, by decide +kernel, rfl, by decide +kernel, by decide +kernel⟩
theorem ok_Coder_put  {f : Addr} {fd : FuncData} (D : FunD K "put" "Coder.put" (defArgs s_Coder_put) (defBody s_Coder_put) (defScope s_Coder_put) [] [] f fd) (B_len : mg "len" = none) {sp : Sp}
    (len : ∀ vs H Q E, sp vs H Q E → vs.length = 2)
    (rd : ∀ vs H Q E, sp vs H Q E → t_Coder_put K { nx := fun _ H' => Q .non H', rt := Q } (start N_Coder_put vs) H) : FnOk P w K mg base CX0 (k + 1) f fd ["self", "row"] sp := by
  refine D.ok sc_Coder_put len (fun cdv A outer s H vs Q E hr h => ⟨t_Coder_put K, PSs.nox ?_, rd vs H Q E h⟩)
  · unfold t_Coder_put
    exact pss_cons (ps_expr (pe_bm PySem.F.plainAttrs_list PySem.F.slot_list_append PySem.F.type_list_append mt_append (pe_fld (pv 0) (by rfl)) (pa_cons (pv 1) (pa_nil))))
        (pss_one (ps_ret (pe_op op_sub (pe_callB call_len_seq (by rfl) B_len PySem.boot_len (pa_cons (pe_fld (pv 0) (by rfl)) (pa_nil))) (pe_int))))

abbrev s_Coder_part : Stmt := inClass (topS 14) 2
abbrev N_Coder_part : List Str := ["self", "part"]
theorem sc_Coder_part : FnScope N_Coder_part ["self", "part"] (defScope s_Coder_part) := ⟨rfl, rfl, rfl, by decide +kernel, rfl, by decide +kernel, by decide +kernel⟩
theorem ok_Coder_part {C_Coder : Addr} {sp_Coder_put : Sp} {sp_Coder_part : Sp} {f : Addr} {fd : FuncData} (D : FunD K "part" "Coder.part" (defArgs s_Coder_part) (defBody s_Coder_part) (defScope s_Coder_part) [] [] f fd) (c_Coder_put : CalM P w K mg base k C_Coder "put" ["self", "row"] sp_Coder_put) (c_Coder_part : CalM P w K mg base k C_Coder "part" ["self", "part"] sp_Coder_part) {sp : Sp}
    (len : ∀ vs H Q E, sp vs H Q E → vs.length = 2)
    (rd : ∀ vs H Q E, sp vs H Q E → t_Coder_part K C_Coder sp_Coder_put sp_Coder_part { nx := fun _ H' => Q .non H', rt := Q } (start N_Coder_part vs) H) : FnOk P w K mg base CX0 (k + 1) f fd ["self", "part"] sp := by
  refine D.ok sc_Coder_part len (fun cdv A outer s H vs Q E hr h => ⟨t_Coder_part K C_Coder sp_Coder_put sp_Coder_part, PSs.nox ?_, rd vs H Q E h⟩)
  · unfold t_Coder_part
    exact pss_one (ps_if (pt_cmpR op_in_seq (pe_ix ix_tup (pv 1) (pe_int) (fun _ _ => rfl)) (pe_tup (pa_cons (pe_str) (pa_cons (pe_str) (pa_nil)))) (by rfl)) (pss_one (ps_expr (pm c_Coder_put hr (pv 0) (pa_cons (pv 1) (pa_nil))))) (pss_cons (ps_expr (pm c_Coder_part hr (pv 0) (pa_cons (pe_ix ix_tup (pv 1) (pe_int) (fun _ _ => rfl)) (pa_nil))))
        (pss_cons (ps_expr (pm c_Coder_part hr (pv 0) (pa_cons (pe_ix ix_tup (pv 1) (pe_int) (fun _ _ => rfl)) (pa_nil))))
        (pss_one (ps_expr (pm c_Coder_put hr (pv 0) (pa_cons (pe_tup (pa_cons (pe_ix ix_tup (pv 1) (pe_int) (fun _ _ => rfl)) (pa_nil))) (pa_nil))))))))

abbrev s_Coder_plain : Stmt := inClass (topS 14) 4
abbrev N_Coder_plain : List Str := ["self", "one", "word", "part"]
theorem sc_Coder_plain : FnScope N_Coder_plain ["self", "one"] (defScope s_Coder_plain) := ⟨rfl, rfl, rfl, by decide +kernel, rfl, by decide +kernel, by decide +kernel⟩
theorem ok_Coder_plain {C_Coder : Addr} {sp_Coder_part : Sp} {sp_Coder_put : Sp} {f : Addr} {fd : FuncData} (D : FunD K "plain" "Coder.plain" (defArgs s_Coder_plain) (defBody s_Coder_plain) (defScope s_Coder_plain) [] [] f fd) (c_Coder_part : CalM P w K mg base k C_Coder "part" ["self", "part"] sp_Coder_part) (c_Coder_put : CalM P w K mg base k C_Coder "put" ["self", "row"] sp_Coder_put) (B_len : mg "len" = none) {sp : Sp}
    (len : ∀ vs H Q E, sp vs H Q E → vs.length = 2)
    (rd : ∀ vs H Q E, sp vs H Q E → t_Coder_plain K C_Coder sp_Coder_part sp_Coder_put { nx := fun _ H' => Q .non H', rt := Q } (start N_Coder_plain vs) H) : FnOk P w K mg base CX0 (k + 1) f fd ["self", "one"] sp := by
  refine D.ok sc_Coder_plain len (fun cdv A outer s H vs Q E hr h => ⟨t_Coder_plain K C_Coder sp_Coder_part sp_Coder_put, PSs.nox ?_, rd vs H Q E h⟩)
  · unfold t_Coder_plain
    exact pss_cons (ps_set (i := 2) sc_Coder_plain.nd rfl (by first | exact Or.inl rfl | exact Or.inr rfl) (pe_ix ix_tup (pv 1) (pe_int) (fun _ _ => rfl)))
        (pss_one (ps_if (pt_cmpR op_eq (pv 2) (pe_str) (nomark _)) (pss_cons (ps_for PassesOwn.never rfl (pi_tup (pe_ix ix_tup (pv 1) (pe_int) (fun _ _ => rfl))) (pg_name (i := 3) sc_Coder_plain.nd rfl (by first | exact Or.inl rfl | exact Or.inr rfl)) (pss_one (ps_expr (pm c_Coder_part hr (pv 0) (pa_cons (pv 3) (pa_nil))))))
        (pss_cons (ps_expr (pm c_Coder_put hr (pv 0) (pa_cons (pe_tup (pa_cons (pe_str) (pa_cons (pe_ix ix_tup (pv 1) (pe_int) (fun _ _ => rfl)) (pa_cons (pe_callB call_len_seq (by rfl) B_len PySem.boot_len (pa_cons (pe_ix ix_tup (pv 1) (pe_int) (fun _ _ => rfl)) (pa_nil))) (pa_cons (pe_ix ix_tup (pv 1) (pe_int) (fun _ _ => rfl)) (pa_nil)))))) (pa_nil))))
        (pss_one (ps_expr (pm c_Coder_put hr (pv 0) (pa_cons (pe_tup (pa_cons (pe_str) (pa_cons (pe_ix ix_tup (pv 1) (pe_int) (fun _ _ => rfl)) (pa_nil)))) (pa_nil))))))) (pss_one (ps_if (pt_cmpR op_eq (pv 2) (pe_str) (nomark _)) (pss_one (ps_expr (pm c_Coder_put hr (pv 0) (pa_cons (pv 1) (pa_nil))))) (pss_one (ps_if (pt_cmpR op_eq (pv 2) (pe_str) (nomark _)) (pss_cons (ps_expr (pm c_Coder_part hr (pv 0) (pa_cons (pe_ix ix_tup (pv 1) (pe_int) (fun _ _ => rfl)) (pa_nil))))
        (pss_one (ps_expr (pm c_Coder_put hr (pv 0) (pa_cons (pe_tup (pa_cons (pe_str) (pa_cons (pe_ix ix_tup (pv 1) (pe_int) (fun _ _ => rfl)) (pa_cons (pe_ix ix_tup (pv 1) (pe_int) (fun _ _ => rfl)) (pa_nil))))) (pa_nil)))))) (pss_one (ps_if (pt_cmpR op_eq (pv 2) (pe_str) (nomark _)) (pss_cons (ps_expr (pm c_Coder_part hr (pv 0) (pa_cons (pe_ix ix_tup (pv 1) (pe_int) (fun _ _ => rfl)) (pa_nil))))
        (pss_one (ps_expr (pm c_Coder_put hr (pv 0) (pa_cons (pe_tup (pa_cons (pe_str) (pa_cons (pe_ix ix_tup (pv 1) (pe_int) (fun _ _ => rfl)) (pa_nil)))) (pa_nil)))))) (pss_cons (ps_expr (pm c_Coder_part hr (pv 0) (pa_cons (pe_ix ix_tup (pv 1) (pe_int) (fun _ _ => rfl)) (pa_nil))))
        (pss_one (ps_expr (pm c_Coder_put hr (pv 0) (pa_cons (pe_tup (pa_cons (pv 2) (pa_nil))) (pa_nil))))))))))))))

abbrev s_Coder_choice : Stmt := inClass (topS 14) 5
abbrev N_Coder_choice : List Str := ["self", "one", "depth", "here", "leave"]
theorem sc_Coder_choice : FnScope N_Coder_choice ["self", "one", "depth"] (defScope s_Coder_choice) := ⟨rfl, rfl, rfl, by decide +kernel, rfl, by decide +kernel, by decide +kernel⟩
theorem ok_Coder_choice {C_Coder : Addr} {sp_Coder_part : Sp} {sp_Coder_put : Sp} {sp_Coder_lay : Sp} {f : Addr} {fd : FuncData} (D : FunD K "choice" "Coder.choice" (defArgs s_Coder_choice) (defBody s_Coder_choice) (defScope s_Coder_choice) [] [] f fd) (c_Coder_part : CalM P w K mg base k C_Coder "part" ["self", "part"] sp_Coder_part) (c_Coder_put : CalM P w K mg base k C_Coder "put" ["self", "row"] sp_Coder_put) (c_Coder_lay : CalM P w K mg base k C_Coder "lay" ["self", "one", "depth"] sp_Coder_lay) (B_len : mg "len" = none) {sp : Sp}
    (len : ∀ vs H Q E, sp vs H Q E → vs.length = 3)
    (rd : ∀ vs H Q E, sp vs H Q E → t_Coder_choice K C_Coder sp_Coder_part sp_Coder_put sp_Coder_lay { nx := fun _ H' => Q .non H', rt := Q } (start N_Coder_choice vs) H) : FnOk P w K mg base CX0 (k + 1) f fd ["self", "one", "depth"] sp := by
  refine D.ok sc_Coder_choice len (fun cdv A outer s H vs Q E hr h => ⟨t_Coder_choice K C_Coder sp_Coder_part sp_Coder_put sp_Coder_lay, PSs.nox ?_, rd vs H Q E h⟩)
  · unfold t_Coder_choice
    exact pss_cons (ps_expr (pm c_Coder_part hr (pv 0) (pa_cons (pe_ix ix_tup (pv 1) (pe_int) (fun _ _ => rfl)) (pa_nil))))
        (pss_cons (ps_set (i := 3) sc_Coder_choice.nd rfl (by first | exact Or.inl rfl | exact Or.inr rfl) (pm c_Coder_put hr (pv 0) (pa_cons (pe_tup (pa_cons (pe_str) (pa_cons (pe_int) (pa_nil)))) (pa_nil))))
        (pss_cons (ps_expr (pm c_Coder_lay hr (pv 0) (pa_cons (pe_ix ix_tup (pv 1) (pe_int) (fun _ _ => rfl)) (pa_cons (pv 2) (pa_nil)))))
        (pss_cons (ps_set (i := 4) sc_Coder_choice.nd rfl (by first | exact Or.inl rfl | exact Or.inr rfl) (pm c_Coder_put hr (pv 0) (pa_cons (pe_tup (pa_cons (pe_str) (pa_cons (pe_int) (pa_nil)))) (pa_nil))))
        (pss_cons (ps_asg (pe_tup (pa_cons (pe_str) (pa_cons (pe_callB call_len_seq (by rfl) B_len PySem.boot_len (pa_cons (pe_fld (pv 0) (by rfl)) (pa_nil))) (pa_nil)))) (pg_sub (pe_fld (pv 0) (by rfl)) (pv 3) set_list))
        (pss_cons (ps_expr (pm c_Coder_lay hr (pv 0) (pa_cons (pe_ix ix_tup (pv 1) (pe_int) (fun _ _ => rfl)) (pa_cons (pv 2) (pa_nil)))))
        (pss_one (ps_asg (pe_tup (pa_cons (pe_str) (pa_cons (pe_callB call_len_seq (by rfl) B_len PySem.boot_len (pa_cons (pe_fld (pv 0) (by rfl)) (pa_nil))) (pa_nil)))) (pg_sub (pe_fld (pv 0) (by rfl)) (pv 4) set_list))))))))

abbrev s_Coder_loop : Stmt := inClass (topS 14) 6
abbrev N_Coder_loop : List Str := ["self", "one", "depth", "top", "here", "place"]
theorem sc_Coder_loop : FnScope N_Coder_loop ["self", "one", "depth"] (defScope s_Coder_loop) := ⟨rfl, rfl, rfl, by decide +kernel, rfl, by decide +kernel, by decide +kernel⟩
theorem ok_Coder_loop {C_Coder : Addr} {sp_Coder_part : Sp} {sp_Coder_put : Sp} {sp_Coder_lay : Sp} {f : Addr} {fd : FuncData} (D : FunD K "loop" "Coder.loop" (defArgs s_Coder_loop) (defBody s_Coder_loop) (defScope s_Coder_loop) [] [] f fd) (B_len : mg "len" = none) (c_Coder_part : CalM P w K mg base k C_Coder "part" ["self", "part"] sp_Coder_part) (c_Coder_put : CalM P w K mg base k C_Coder "put" ["self", "row"] sp_Coder_put) (c_Coder_lay : CalM P w K mg base k C_Coder "lay" ["self", "one", "depth"] sp_Coder_lay) {sp : Sp}
    (len : ∀ vs H Q E, sp vs H Q E → vs.length = 3)
    (rd : ∀ vs H Q E, sp vs H Q E → t_Coder_loop K C_Coder sp_Coder_part sp_Coder_put sp_Coder_lay { nx := fun _ H' => Q .non H', rt := Q } (start N_Coder_loop vs) H) : FnOk P w K mg base CX0 (k + 1) f fd ["self", "one", "depth"] sp := by
  refine D.ok sc_Coder_loop len (fun cdv A outer s H vs Q E hr h => ⟨t_Coder_loop K C_Coder sp_Coder_part sp_Coder_put sp_Coder_lay, PSs.nox ?_, rd vs H Q E h⟩)
  · unfold t_Coder_loop
    exact pss_cons (ps_set (i := 3) sc_Coder_loop.nd rfl (by first | exact Or.inl rfl | exact Or.inr rfl) (pe_callB call_len_seq (by rfl) B_len PySem.boot_len (pa_cons (pe_fld (pv 0) (by rfl)) (pa_nil))))
        (pss_cons (ps_expr (pm c_Coder_part hr (pv 0) (pa_cons (pe_ix ix_tup (pv 1) (pe_int) (fun _ _ => rfl)) (pa_nil))))
        (pss_cons (ps_set (i := 4) sc_Coder_loop.nd rfl (by first | exact Or.inl rfl | exact Or.inr rfl) (pm c_Coder_put hr (pv 0) (pa_cons (pe_tup (pa_cons (pe_str) (pa_cons (pe_int) (pa_nil)))) (pa_nil))))
        (pss_cons (ps_expr (pm c_Coder_put hr (pv 0) (pa_cons (pe_tup (pa_cons (pe_str) (pa_nil))) (pa_nil))))
        (pss_cons (ps_expr (pe_bm PySem.F.plainAttrs_list PySem.F.slot_list_append PySem.F.type_list_append mt_append (pe_fld (pv 0) (by rfl)) (pa_cons (pe_lst (pa_cons (pv 3) (pa_cons (pv 2) (pa_cons (pe_lst (pa_nil)) (pa_nil))))) (pa_nil))))
        (pss_cons (ps_expr (pm c_Coder_lay hr (pv 0) (pa_cons (pe_ix ix_tup (pv 1) (pe_int) (fun _ _ => rfl)) (pa_cons (pv 2) (pa_nil)))))
        (pss_cons (ps_expr (pm c_Coder_put hr (pv 0) (pa_cons (pe_tup (pa_cons (pe_str) (pa_cons (pv 3) (pa_nil)))) (pa_nil))))
        (pss_cons (ps_asg (pe_tup (pa_cons (pe_str) (pa_cons (pe_callB call_len_seq (by rfl) B_len PySem.boot_len (pa_cons (pe_fld (pv 0) (by rfl)) (pa_nil))) (pa_nil)))) (pg_sub (pe_fld (pv 0) (by rfl)) (pv 4) set_list))
        (pss_one (ps_for PassesOwn.never rfl (pi_list (pe_ix ix_list (pe_bm0 PySem.F.plainAttrs_list PySem.F.slot_list_pop PySem.F.type_list_pop mt_pop (pe_fld (pv 0) (by rfl))) (pe_int) (fun _ _ => rfl))) (pg_name (i := 5) sc_Coder_loop.nd rfl (by first | exact Or.inl rfl | exact Or.inr rfl)) (pss_one (ps_asg (pe_tup (pa_cons (pe_str) (pa_cons (pe_callB call_len_seq (by rfl) B_len PySem.boot_len (pa_cons (pe_fld (pv 0) (by rfl)) (pa_nil))) (pa_cons (pv 2) (pa_nil))))) (pg_sub (pe_fld (pv 0) (by rfl)) (pv 5) set_list))))))))))))

abbrev s_Coder_tried : Stmt := inClass (topS 14) 7
abbrev N_Coder_tried : List Str := ["self", "one", "depth", "begin", "end", "leaves", "handler", "place"]
theorem sc_Coder_tried : FnScope N_Coder_tried ["self", "one", "depth"] (defScope s_Coder_tried) := ⟨rfl, rfl, rfl, by decide +kernel, rfl, by decide +kernel, by decide +kernel⟩
theorem ok_Coder_tried {C_Coder : Addr} {sp_Coder_lay : Sp} {sp_Coder_put : Sp} {f : Addr} {fd : FuncData} (D : FunD K "tried" "Coder.tried" (defArgs s_Coder_tried) (defBody s_Coder_tried) (defScope s_Coder_tried) [] [] f fd) (B_len : mg "len" = none) (c_Coder_lay : CalM P w K mg base k C_Coder "lay" ["self", "one", "depth"] sp_Coder_lay) (c_Coder_put : CalM P w K mg base k C_Coder "put" ["self", "row"] sp_Coder_put) {sp : Sp}
    (len : ∀ vs H Q E, sp vs H Q E → vs.length = 3)
    (rd : ∀ vs H Q E, sp vs H Q E → t_Coder_tried K C_Coder sp_Coder_lay sp_Coder_put { nx := fun _ H' => Q .non H', rt := Q } (start N_Coder_tried vs) H) : FnOk P w K mg base CX0 (k + 1) f fd ["self", "one", "depth"] sp := by
  refine D.ok sc_Coder_tried len (fun cdv A outer s H vs Q E hr h => ⟨t_Coder_tried K C_Coder sp_Coder_lay sp_Coder_put, PSs.nox ?_, rd vs H Q E h⟩)
  · unfold t_Coder_tried
    exact pss_cons (ps_set (i := 3) sc_Coder_tried.nd rfl (by first | exact Or.inl rfl | exact Or.inr rfl) (pe_callB call_len_seq (by rfl) B_len PySem.boot_len (pa_cons (pe_fld (pv 0) (by rfl)) (pa_nil))))
        (pss_cons (ps_expr (pm c_Coder_lay hr (pv 0) (pa_cons (pe_ix ix_tup (pv 1) (pe_int) (fun _ _ => rfl)) (pa_cons (pv 2) (pa_nil)))))
        (pss_cons (ps_set (i := 4) sc_Coder_tried.nd rfl (by first | exact Or.inl rfl | exact Or.inr rfl) (pe_callB call_len_seq (by rfl) B_len PySem.boot_len (pa_cons (pe_fld (pv 0) (by rfl)) (pa_nil))))
        (pss_cons (ps_set (i := 5) sc_Coder_tried.nd rfl (by first | exact Or.inl rfl | exact Or.inr rfl) (pe_lst (pa_cons (pm c_Coder_put hr (pv 0) (pa_cons (pe_tup (pa_cons (pe_str) (pa_cons (pe_int) (pa_nil)))) (pa_nil))) (pa_nil))))
        (pss_cons (ps_for PassesOwn.never rfl (pi_tup (pe_ix ix_tup (pv 1) (pe_int) (fun _ _ => rfl))) (pg_name (i := 6) sc_Coder_tried.nd rfl (by first | exact Or.inl rfl | exact Or.inr rfl)) (pss_cons (ps_expr (pm c_Coder_put hr (pv 0) (pa_cons (pe_tup (pa_cons (pe_str) (pa_cons (pv 3) (pa_cons (pv 4) (pa_cons (pe_ix ix_tup (pv 6) (pe_int) (fun _ _ => rfl)) (pa_cons (pv 2) (pa_nil))))))) (pa_nil))))
        (pss_cons (ps_expr (pm c_Coder_put hr (pv 0) (pa_cons (pe_tup (pa_cons (pe_str) (pa_cons (pe_ix ix_tup (pv 6) (pe_int) (fun _ _ => rfl)) (pa_nil)))) (pa_nil))))
        (pss_cons (ps_expr (pm c_Coder_lay hr (pv 0) (pa_cons (pe_ix ix_tup (pv 6) (pe_int) (fun _ _ => rfl)) (pa_cons (pe_op op_add (pv 2) (pe_int)) (pa_nil)))))
        (pss_cons (ps_expr (pm c_Coder_put hr (pv 0) (pa_cons (pe_tup (pa_cons (pe_str) (pa_nil))) (pa_nil))))
        (pss_one (ps_expr (pe_bm PySem.F.plainAttrs_list PySem.F.slot_list_append PySem.F.type_list_append mt_append (pv 5) (pa_cons (pm c_Coder_put hr (pv 0) (pa_cons (pe_tup (pa_cons (pe_str) (pa_cons (pe_int) (pa_nil)))) (pa_nil))) (pa_nil))))))))))
        (pss_one (ps_for PassesOwn.never rfl (pi_list (pv 5)) (pg_name (i := 7) sc_Coder_tried.nd rfl (by first | exact Or.inl rfl | exact Or.inr rfl)) (pss_one (ps_asg (pe_tup (pa_cons (pe_str) (pa_cons (pe_callB call_len_seq (by rfl) B_len PySem.boot_len (pa_cons (pe_fld (pv 0) (by rfl)) (pa_nil))) (pa_nil)))) (pg_sub (pe_fld (pv 0) (by rfl)) (pv 7) set_list)))))))))

abbrev s_Coder_cleaned : Stmt := inClass (topS 14) 8
abbrev N_Coder_cleaned : List Str := ["self", "one", "depth", "begin", "end"]
theorem sc_Coder_cleaned : FnScope N_Coder_cleaned ["self", "one", "depth"] (defScope s_Coder_cleaned) := ⟨rfl, rfl, rfl, by decide +kernel, rfl, by decide +kernel, by decide +kernel⟩
theorem ok_Coder_cleaned {C_Coder : Addr} {sp_Coder_lay : Sp} {sp_Coder_put : Sp} {f : Addr} {fd : FuncData} (D : FunD K "cleaned" "Coder.cleaned" (defArgs s_Coder_cleaned) (defBody s_Coder_cleaned) (defScope s_Coder_cleaned) [] [] f fd) (B_len : mg "len" = none) (c_Coder_lay : CalM P w K mg base k C_Coder "lay" ["self", "one", "depth"] sp_Coder_lay) (c_Coder_put : CalM P w K mg base k C_Coder "put" ["self", "row"] sp_Coder_put) {sp : Sp}
    (len : ∀ vs H Q E, sp vs H Q E → vs.length = 3)
    (rd : ∀ vs H Q E, sp vs H Q E → t_Coder_cleaned K C_Coder sp_Coder_lay sp_Coder_put { nx := fun _ H' => Q .non H', rt := Q } (start N_Coder_cleaned vs) H) : FnOk P w K mg base CX0 (k + 1) f fd ["self", "one", "depth"] sp := by
  refine D.ok sc_Coder_cleaned len (fun cdv A outer s H vs Q E hr h => ⟨t_Coder_cleaned K C_Coder sp_Coder_lay sp_Coder_put, PSs.nox ?_, rd vs H Q E h⟩)
  · unfold t_Coder_cleaned
    exact pss_cons (ps_set (i := 3) sc_Coder_cleaned.nd rfl (by first | exact Or.inl rfl | exact Or.inr rfl) (pe_callB call_len_seq (by rfl) B_len PySem.boot_len (pa_cons (pe_fld (pv 0) (by rfl)) (pa_nil))))
        (pss_cons (ps_expr (pm c_Coder_lay hr (pv 0) (pa_cons (pe_ix ix_tup (pv 1) (pe_int) (fun _ _ => rfl)) (pa_cons (pv 2) (pa_nil)))))
        (pss_cons (ps_expr (pm c_Coder_put hr (pv 0) (pa_cons (pe_tup (pa_cons (pe_str) (pa_nil))) (pa_nil))))
        (pss_cons (ps_set (i := 4) sc_Coder_cleaned.nd rfl (by first | exact Or.inl rfl | exact Or.inr rfl) (pe_callB call_len_seq (by rfl) B_len PySem.boot_len (pa_cons (pe_fld (pv 0) (by rfl)) (pa_nil))))
        (pss_cons (ps_expr (pm c_Coder_put hr (pv 0) (pa_cons (pe_tup (pa_cons (pe_str) (pa_cons (pv 3) (pa_cons (pv 4) (pa_cons (pv 2) (pa_nil)))))) (pa_nil))))
        (pss_cons (ps_expr (pm c_Coder_lay hr (pv 0) (pa_cons (pe_ix ix_tup (pv 1) (pe_int) (fun _ _ => rfl)) (pa_cons (pe_op op_add (pv 2) (pe_int)) (pa_nil)))))
        (pss_one (ps_expr (pm c_Coder_put hr (pv 0) (pa_cons (pe_tup (pa_cons (pe_str) (pa_nil))) (pa_nil))))))))))

abbrev s_Coder_lay : Stmt := inClass (topS 14) 3
abbrev N_Coder_lay : List Str := ["self", "one", "depth", "word", "part"]
theorem sc_Coder_lay : FnScope N_Coder_lay ["self", "one", "depth"] (defScope s_Coder_lay) := ⟨rfl, rfl, rfl, by decide +kernel, rfl, by decide +kernel, by decide +kernel⟩
theorem ok_Coder_lay {C_Coder : Addr} {sp_Coder_lay : Sp} {sp_Coder_choice : Sp} {sp_Coder_loop : Sp} {sp_Coder_tried : Sp} {sp_Coder_cleaned : Sp} {sp_Coder_put : Sp} {sp_Coder_plain : Sp} {f : Addr} {fd : FuncData} (D : FunD K "lay" "Coder.lay" (defArgs s_Coder_lay) (defBody s_Coder_lay) (defScope s_Coder_lay) [] [] f fd) (c_Coder_lay : CalM P w K mg base k C_Coder "lay" ["self", "one", "depth"] sp_Coder_lay) (c_Coder_choice : CalM P w K mg base k C_Coder "choice" ["self", "one", "depth"] sp_Coder_choice) (c_Coder_loop : CalM P w K mg base k C_Coder "loop" ["self", "one", "depth"] sp_Coder_loop) (c_Coder_tried : CalM P w K mg base k C_Coder "tried" ["self", "one", "depth"] sp_Coder_tried) (c_Coder_cleaned : CalM P w K mg base k C_Coder "cleaned" ["self", "one", "depth"] sp_Coder_cleaned) (c_Coder_put : CalM P w K mg base k C_Coder "put" ["self", "row"] sp_Coder_put) (c_Coder_plain : CalM P w K mg base k C_Coder "plain" ["self", "one"] sp_Coder_plain) {sp : Sp}
    (len : ∀ vs H Q E, sp vs H Q E → vs.length = 3)
    (rd : ∀ vs H Q E, sp vs H Q E → t_Coder_lay K C_Coder sp_Coder_lay sp_Coder_choice sp_Coder_loop sp_Coder_tried sp_Coder_cleaned sp_Coder_put sp_Coder_plain { nx := fun _ H' => Q .non H', rt := Q } (start N_Coder_lay vs) H) : FnOk P w K mg base CX0 (k + 1) f fd ["self", "one", "depth"] sp := by
  refine D.ok sc_Coder_lay len (fun cdv A outer s H vs Q E hr h => ⟨t_Coder_lay K C_Coder sp_Coder_lay sp_Coder_choice sp_Coder_loop sp_Coder_tried sp_Coder_cleaned sp_Coder_put sp_Coder_plain, PSs.nox ?_, rd vs H Q E h⟩)
  · unfold t_Coder_lay
    exact pss_cons (ps_set (i := 3) sc_Coder_lay.nd rfl (by first | exact Or.inl rfl | exact Or.inr rfl) (pe_ix ix_tup (pv 1) (pe_int) (fun _ _ => rfl)))
        (pss_one (ps_if (pt_cmpR op_eq (pv 3) (pe_str) (nomark _)) (pss_one (ps_for PassesOwn.never rfl (pi_tup (pe_ix ix_tup (pv 1) (pe_int) (fun _ _ => rfl))) (pg_name (i := 4) sc_Coder_lay.nd rfl (by first | exact Or.inl rfl | exact Or.inr rfl)) (pss_one (ps_expr (pm c_Coder_lay hr (pv 0) (pa_cons (pv 4) (pa_cons (pv 2) (pa_nil)))))))) (pss_one (ps_if (pt_cmpR op_eq (pv 3) (pe_str) (nomark _)) (pss_one (ps_expr (pm c_Coder_choice hr (pv 0) (pa_cons (pv 1) (pa_cons (pv 2) (pa_nil)))))) (pss_one (ps_if (pt_cmpR op_eq (pv 3) (pe_str) (nomark _)) (pss_one (ps_expr (pm c_Coder_loop hr (pv 0) (pa_cons (pv 1) (pa_cons (pv 2) (pa_nil)))))) (pss_one (ps_if (pt_cmpR op_eq (pv 3) (pe_str) (nomark _)) (pss_one (ps_expr (pm c_Coder_tried hr (pv 0) (pa_cons (pv 1) (pa_cons (pv 2) (pa_nil)))))) (pss_one (ps_if (pt_cmpR op_eq (pv 3) (pe_str) (nomark _)) (pss_one (ps_expr (pm c_Coder_cleaned hr (pv 0) (pa_cons (pv 1) (pa_cons (pv 2) (pa_nil)))))) (pss_one (ps_if (pt_cmpR op_eq (pv 3) (pe_str) (nomark _)) (pss_one (ps_expr (pe_bm PySem.F.plainAttrs_list PySem.F.slot_list_append PySem.F.type_list_append mt_append (pe_ix ix_list (pe_ix ix_list (pe_fld (pv 0) (by rfl)) (pe_un un_neg (pe_int)) (fun _ _ => rfl)) (pe_int) (fun _ _ => rfl)) (pa_cons (pm c_Coder_put hr (pv 0) (pa_cons (pe_tup (pa_cons (pe_str) (pa_cons (pe_int) (pa_cons (pe_ix ix_list (pe_ix ix_list (pe_fld (pv 0) (by rfl)) (pe_un un_neg (pe_int)) (fun _ _ => rfl)) (pe_int) (fun _ _ => rfl)) (pa_nil))))) (pa_nil))) (pa_nil))))) (pss_one (ps_if (pt_cmpR op_eq (pv 3) (pe_str) (nomark _)) (pss_one (ps_expr (pm c_Coder_put hr (pv 0) (pa_cons (pe_tup (pa_cons (pe_str) (pa_cons (pe_ix ix_list (pe_ix ix_list (pe_fld (pv 0) (by rfl)) (pe_un un_neg (pe_int)) (fun _ _ => rfl)) (pe_int) (fun _ _ => rfl)) (pa_cons (pe_ix ix_list (pe_ix ix_list (pe_fld (pv 0) (by rfl)) (pe_un un_neg (pe_int)) (fun _ _ => rfl)) (pe_int) (fun _ _ => rfl)) (pa_nil))))) (pa_nil))))) (pss_one (ps_expr (pm c_Coder_plain hr (pv 0) (pa_cons (pv 1) (pa_nil)))))))))))))))))))

abbrev s_coded : Stmt := topS 15
abbrev N_coded : List Str := ["program", "found", "function", "coder", "rows"]
theorem sc_coded : FnScope N_coded ["program"] (defScope s_coded) := ⟨rfl, rfl, rfl, by decide +kernel, rfl, by decide +kernel, by decide +kernel⟩
theorem ok_coded {C_Coder : Addr} {sp_Coder_init : Sp} {sp_Coder_lay : Sp} {sp_Coder_put : Sp} {sp_table_of : Sp} {f : Addr} {fd : FuncData} (D : FunD K "coded" "coded" (defArgs s_coded) (defBody s_coded) (defScope s_coded) [] [] f fd) (c_Coder_init : CalC P w K mg base k "Coder" C_Coder ["self"] sp_Coder_init) (c_Coder_lay : CalM P w K mg base k C_Coder "lay" ["self", "one", "depth"] sp_Coder_lay) (c_Coder_put : CalM P w K mg base k C_Coder "put" ["self", "row"] sp_Coder_put) (B_tuple : mg "tuple" = none) (c_table_of : Cal P w K mg base k "table_of" ["rows"] sp_table_of) {sp : Sp}
    (len : ∀ vs H Q E, sp vs H Q E → vs.length = 1)
    (rd : ∀ vs H Q E, sp vs H Q E → t_coded K C_Coder sp_Coder_init sp_Coder_lay sp_Coder_put sp_table_of { nx := fun _ H' => Q .non H', rt := Q } (start N_coded vs) H) : FnOk P w K mg base CX0 (k + 2) f fd ["program"] sp := by
  refine D.ok sc_coded len (fun cdv A outer s H vs Q E hr h => ⟨t_coded K C_Coder sp_Coder_init sp_Coder_lay sp_Coder_put sp_table_of, PSs.nox ?_, rd vs H Q E h⟩)
  · have hrm := hr; have hr : Room k _ := hr.mono (by omega)
    unfold t_coded
    exact pss_cons (ps_set (i := 1) sc_coded.nd rfl (by first | exact Or.inl rfl | exact Or.inr rfl) (pe_lst (pa_nil)))
        (pss_cons (ps_for PassesOwn.never rfl (pi_tup (pe_ix ix_tup (pv 0) (pe_int) (fun _ _ => rfl))) (pg_name (i := 2) sc_coded.nd rfl (by first | exact Or.inl rfl | exact Or.inr rfl)) (pss_cons (ps_set (i := 3) sc_coded.nd rfl (by first | exact Or.inl rfl | exact Or.inr rfl) (pk0 c_Coder_init hrm))
        (pss_cons (ps_expr (pm c_Coder_lay hr (pv 3) (pa_cons (pe_ix ix_tup (pv 2) (pe_int) (fun _ _ => rfl)) (pa_cons (pe_int) (pa_nil)))))
        (pss_cons (ps_expr (pm c_Coder_put hr (pv 3) (pa_cons (pe_tup (pa_cons (pe_str) (pa_cons (pe_int) (pa_nil)))) (pa_nil))))
        (pss_cons (ps_expr (pm c_Coder_put hr (pv 3) (pa_cons (pe_tup (pa_cons (pe_str) (pa_nil))) (pa_nil))))
        (pss_cons (ps_set (i := 4) sc_coded.nd rfl (by first | exact Or.inl rfl | exact Or.inr rfl) (pe_callTy call_tuple_of (by rfl) B_tuple (by decide +kernel) (pa_cons (pe_fld (pv 3) (by rfl)) (pa_nil))))
        (pss_one (ps_expr (pe_bm PySem.F.plainAttrs_list PySem.F.slot_list_append PySem.F.type_list_append mt_append (pv 1) (pa_cons (pe_tup (pa_cons (pe_ix ix_tup (pv 2) (pe_int) (fun _ _ => rfl)) (pa_cons (pv 4) (pa_cons (pc c_table_of hr (pa_cons (pv 4) (pa_nil))) (pa_nil))))) (pa_nil)))))))))))
        (pss_one (ps_ret (pe_callTy call_tuple_of (by rfl) B_tuple (by decide +kernel) (pa_cons (pv 1) (pa_nil))))))

abbrev s_law_take : Stmt := topS 17
abbrev N_law_take : List Str := ["_law_box", "_law_many", "_law_number"]
theorem sc_law_take : FnScope N_law_take ["_law_box", "_law_many"] (defScope s_law_take) := ⟨rfl, rfl, rfl, by decide +kernel, rfl, by decide +kernel, by decide +kernel⟩
theorem ok_law_take  {f : Addr} {fd : FuncData} (D : FunD K "_law_take" "_law_take" (defArgs s_law_take) (defBody s_law_take) (defScope s_law_take) [] [] f fd)  {sp : Sp}
    (len : ∀ vs H Q E, sp vs H Q E → vs.length = 2)
    (rd : ∀ vs H Q E, sp vs H Q E → t_law_take K { nx := fun _ H' => Q .non H', rt := Q } (start N_law_take vs) H) : FnOk P w K mg base CX0 (k + 1) f fd ["_law_box", "_law_many"] sp := by
  refine D.ok sc_law_take len (fun cdv A outer s H vs Q E hr h => ⟨t_law_take K, PSs.nox ?_, rd vs H Q E h⟩)
  · unfold t_law_take
    exact pss_cons (ps_if (pt_cmpR (op_eqD hr.units) (pv 0) (pe_lst (pa_nil)) (nomark _)) (pss_one (ps_ret (pe_int))) (pss_nil))
        (pss_cons (ps_set (i := 2) sc_law_take.nd rfl (by first | exact Or.inl rfl | exact Or.inr rfl) (pe_ix ix_list (pv 0) (pe_int) (fun _ _ => rfl)))
        (pss_cons (ps_asg (pe_op op_fdivW (pv 2) (pv 1)) (pg_sub (pv 0) (pe_int) set_list))
        (pss_cons (ps_if (PW.pt (pw_or (pt_cmpR op_eq (pe_ix ix_list (pv 0) (pe_int) (fun _ _ => rfl)) (pe_int) (nomark _)) (pw_or1 (pt_cmpR op_eq (pe_ix ix_list (pv 0) (pe_int) (fun _ _ => rfl)) (pe_un un_neg (pe_int)) (nomark _))))) (pss_one (ps_expr (pe_bm PySem.F.plainAttrs_list PySem.F.slot_list_pop PySem.F.type_list_pop mt_popAt (pv 0) (pa_cons (pe_int) (pa_nil))))) (pss_nil))
        (pss_one (ps_ret (pe_op op_mod (pv 2) (pv 1)))))))

abbrev s_law_alike : Stmt := topS 18
abbrev N_law_alike : List Str := ["_law_found", "_law_due", "_law_k"]
theorem sc_law_alike : FnScope N_law_alike ["_law_found", "_law_due"] (defScope s_law_alike) := ⟨rfl, rfl, rfl, by decide +kernel, rfl, by decide +kernel, by decide +kernel⟩
theorem ok_law_alike {sp_law_alike : Sp} {f : Addr} {fd : FuncData} (D : FunD K "_law_alike" "_law_alike" (defArgs s_law_alike) (defBody s_law_alike) (defScope s_law_alike) [] [] f fd) (B_isinstance : mg "isinstance" = none) (B_bool : mg "bool" = none) (B_int : mg "int" = none) (B_str : mg "str" = none) (B_tuple : mg "tuple" = none) (B_list : mg "list" = none) (B_len : mg "len" = none) (B_range : mg "range" = none) (c_law_alike : Cal P w K mg base k "_law_alike" ["_law_found", "_law_due"] sp_law_alike) {sp : Sp}
    (len : ∀ vs H Q E, sp vs H Q E → vs.length = 2)
    (rd : ∀ vs H Q E, sp vs H Q E → t_law_alike K sp_law_alike { nx := fun _ H' => Q .non H', rt := Q } (start N_law_alike vs) H) : FnOk P w K mg base CX0 (k + 1) f fd ["_law_found", "_law_due"] sp := by
  refine D.ok sc_law_alike len (fun cdv A outer s H vs Q E hr h => ⟨t_law_alike K sp_law_alike, PSs.nox ?_, rd vs H Q E h⟩)
  · unfold t_law_alike
    exact pss_cons (ps_if (pt_cmpR op_isN (pv 1) (pe_non) (nomark _)) (pss_one (ps_ret (pe_cmpR op_isN (pv 0) (pe_non) (nomark _)))) (pss_nil))
        (pss_cons (ps_if (pt_val (pe_callB call_isi (by rfl) B_isinstance (by decide +kernel) (pa_cons (pv 1) (pa_cons (pe_bltn (by rfl) B_bool (by decide +kernel) rfl) (pa_nil))))) (pss_one (ps_ret (pe_and (pe_callB call_isi (by rfl) B_isinstance (by decide +kernel) (pa_cons (pv 0) (pa_cons (pe_bltn (by rfl) B_bool (by decide +kernel) rfl) (pa_nil)))) (pe_one (pe_cmpR op_eq (pv 0) (pv 1) (nomark _)))))) (pss_nil))
        (pss_cons (ps_if (pt_val (pe_callB call_isi (by rfl) B_isinstance (by decide +kernel) (pa_cons (pv 1) (pa_cons (pe_bltn (by rfl) B_int (by decide +kernel) rfl) (pa_nil))))) (pss_one (ps_ret (pe_and (pe_callB call_isi (by rfl) B_isinstance (by decide +kernel) (pa_cons (pv 0) (pa_cons (pe_bltn (by rfl) B_int (by decide +kernel) rfl) (pa_nil)))) (pe_and (pe_not (pe_callB call_isi (by rfl) B_isinstance (by decide +kernel) (pa_cons (pv 0) (pa_cons (pe_bltn (by rfl) B_bool (by decide +kernel) rfl) (pa_nil))))) (pe_one (pe_cmpR op_eq (pv 0) (pv 1) (nomark _))))))) (pss_nil))
        (pss_cons (ps_if (pt_val (pe_callB call_isi (by rfl) B_isinstance (by decide +kernel) (pa_cons (pv 1) (pa_cons (pe_bltn (by rfl) B_str (by decide +kernel) rfl) (pa_nil))))) (pss_one (ps_ret (pe_and (pe_callB call_isi (by rfl) B_isinstance (by decide +kernel) (pa_cons (pv 0) (pa_cons (pe_bltn (by rfl) B_str (by decide +kernel) rfl) (pa_nil)))) (pe_one (pe_cmpR op_eq (pv 0) (pv 1) (nomark _)))))) (pss_nil))
        (pss_cons (ps_if (PW.pt (pw_or (pt_cmpR op_ne (pe_callB call_isi (by rfl) B_isinstance (by decide +kernel) (pa_cons (pv 1) (pa_cons (pe_bltn (by rfl) B_tuple (by decide +kernel) rfl) (pa_nil)))) (pe_callB call_isi (by rfl) B_isinstance (by decide +kernel) (pa_cons (pv 0) (pa_cons (pe_bltn (by rfl) B_tuple (by decide +kernel) rfl) (pa_nil)))) (nomark _)) (pw_or1 (pt_cmpR op_ne (pe_callB call_isi (by rfl) B_isinstance (by decide +kernel) (pa_cons (pv 1) (pa_cons (pe_bltn (by rfl) B_list (by decide +kernel) rfl) (pa_nil)))) (pe_callB call_isi (by rfl) B_isinstance (by decide +kernel) (pa_cons (pv 0) (pa_cons (pe_bltn (by rfl) B_list (by decide +kernel) rfl) (pa_nil)))) (nomark _))))) (pss_one (ps_ret (pe_bl))) (pss_nil))
        (pss_cons (ps_if (pt_cmpR op_ne (pe_callB call_len_seq (by rfl) B_len PySem.boot_len (pa_cons (pv 0) (pa_nil))) (pe_callB call_len_seq (by rfl) B_len PySem.boot_len (pa_cons (pv 1) (pa_nil))) (nomark _)) (pss_one (ps_ret (pe_bl))) (pss_nil))
        (pss_cons (ps_for PassesOwn.never rfl (pi_range1 (by rfl) B_range (pa_cons (pe_callB call_len_seq (by rfl) B_len PySem.boot_len (pa_cons (pv 1) (pa_nil))) (pa_nil))) (pg_name (i := 2) sc_law_alike.nd rfl (by first | exact Or.inl rfl | exact Or.inr rfl)) (pss_one (ps_if (pt_not (pt_val (pc c_law_alike hr (pa_cons (pe_ix ix_seq (pv 0) (pv 2) (fun _ _ => rfl)) (pa_cons (pe_ix ix_seq (pv 1) (pv 2) (fun _ _ => rfl)) (pa_nil)))))) (pss_one (ps_ret (pe_bl))) (pss_nil))))
        (pss_one (ps_ret (pe_bl)))))))))

abbrev s_law_own : Stmt := topS 19
abbrev N_law_own : List Str := ["_law_box", "_law_number", "_law_parts", "_law_due", "_law_k", "_law_leave"]
theorem sc_law_own : FnScope N_law_own ["_law_box", "_law_number"] (defScope s_law_own) := ⟨rfl, rfl, rfl, by decide +kernel, rfl, by decide +kernel, by decide +kernel⟩
theorem ok_law_own {sp_law_take : Sp} {f : Addr} {fd : FuncData} (D : FunD K "_law_own" "_law_own" (defArgs s_law_own) (defBody s_law_own) (defScope s_law_own) [] [] f fd) (B_range : mg "range" = none) (c_law_take : Cal P w K mg base k "_law_take" ["_law_box", "_law_many"] sp_law_take) (B_tuple : mg "tuple" = none) {sp : Sp}
    (len : ∀ vs H Q E, sp vs H Q E → vs.length = 2)
    (rd : ∀ vs H Q E, sp vs H Q E → t_law_own K sp_law_take { nx := fun _ H' => Q .non H', rt := Q } (start N_law_own vs) H) : FnOk P w K mg base CX0 (k + 1) f fd ["_law_box", "_law_number"] sp := by
  refine D.ok sc_law_own len (fun cdv A outer s H vs Q E hr h => ⟨t_law_own K sp_law_take, PSs.nox ?_, rd vs H Q E h⟩)
  · unfold t_law_own
    exact pss_cons (ps_set (i := 2) sc_law_own.nd rfl (by first | exact Or.inl rfl | exact Or.inr rfl) (pe_lst (pa_cons (pe_tup (pa_cons (pe_str) (pa_cons (pe_tup (pa_cons (pe_str) (pa_cons (pv 1) (pa_nil)))) (pa_nil)))) (pa_nil))))
        (pss_cons (ps_set (i := 3) sc_law_own.nd rfl (by first | exact Or.inl rfl | exact Or.inr rfl) (pe_lst (pa_cons (pe_tup (pa_cons (pe_str) (pa_cons (pv 1) (pa_nil)))) (pa_nil))))
        (pss_cons (ps_for PassesOwn.never rfl (pi_range1 (by rfl) B_range (pa_cons (pc c_law_take hr (pa_cons (pv 0) (pa_cons (pe_int) (pa_nil)))) (pa_nil))) (pg_name (i := 4) sc_law_own.nd rfl (by first | exact Or.inl rfl | exact Or.inr rfl)) (pss_cons (ps_set (i := 5) sc_law_own.nd rfl (by first | exact Or.inl rfl | exact Or.inr rfl) (pe_tup (pa_cons (pe_str) (pa_nil))))
        (pss_cons (ps_if (pt_cmpR op_eq (pc c_law_take hr (pa_cons (pv 0) (pa_cons (pe_int) (pa_nil)))) (pe_int) (nomark _)) (pss_one (ps_set (i := 5) sc_law_own.nd rfl (by first | exact Or.inl rfl | exact Or.inr rfl) (pe_tup (pa_cons (pe_str) (pa_cons (pe_tup (pa_cons (pe_tup (pa_cons (pe_str) (pa_cons (pe_int) (pa_cons (pe_tup (pa_cons (pe_str) (pa_cons (pe_int) (pa_nil)))) (pa_nil))))) (pa_cons (pe_tup (pa_cons (pe_str) (pa_nil))) (pa_nil)))) (pa_nil)))))) (pss_nil))
        (pss_cons (ps_expr (pe_bm PySem.F.plainAttrs_list PySem.F.slot_list_append PySem.F.type_list_append mt_append (pv 2) (pa_cons (pe_tup (pa_cons (pe_str) (pa_cons (pe_int) (pa_cons (pe_tup (pa_cons (pe_str) (pa_cons (pe_int) (pa_nil)))) (pa_nil))))) (pa_nil))))
        (pss_cons (ps_expr (pe_bm PySem.F.plainAttrs_list PySem.F.slot_list_append PySem.F.type_list_append mt_append (pv 2) (pa_cons (pe_tup (pa_cons (pe_str) (pa_cons (pe_tup (pa_cons (pe_str) (pa_cons (pe_int) (pa_nil)))) (pa_cons (pe_tup (pa_cons (pe_str) (pa_cons (pe_tup (pa_cons (pe_tup (pa_cons (pe_str) (pa_cons (pe_tup (pa_cons (pe_str) (pa_cons (pe_op op_add (pv 1) (pe_int)) (pa_nil)))) (pa_nil)))) (pa_cons (pv 5) (pa_nil)))) (pa_nil)))) (pa_nil))))) (pa_nil))))
        (pss_one (ps_expr (pe_bm PySem.F.plainAttrs_list PySem.F.slot_list_append PySem.F.type_list_append mt_append (pv 3) (pa_cons (pe_tup (pa_cons (pe_str) (pa_cons (pe_op op_add (pv 1) (pe_int)) (pa_nil)))) (pa_nil))))))))))
        (pss_one (ps_ret (pe_tup (pa_cons (pe_tup (pa_cons (pe_str) (pa_cons (pe_callTy call_tuple_of (by rfl) B_tuple (by decide +kernel) (pa_cons (pv 2) (pa_nil))) (pa_nil)))) (pa_cons (pv 3) (pa_nil))))))))

abbrev s_law : Stmt := topS 20
abbrev N_law : List Str := ["_law_script", "_law_box", "_law_number", "_law_at", "_law_stop", "_law_step", "_law_one", "_law_due", "_law_k", "_law_last", "_law_body", "_law_machine"]
theorem sc_law : FnScope N_law ["_law_script"] (defScope s_law) := ⟨rfl, rfl, rfl, by decide +kernel, rfl, by decide +kernel, by decide +kernel⟩
theorem ok_law {sp_law_take : Sp} {sp_law_own : Sp} {C_Machine : Addr} {sp_Machine_init : Sp} {sp_coded : Sp} {sp_law_alike : Sp} {sp_Machine_go : Sp} {sp_Machine_events : Sp} {f : Addr} {fd : FuncData} (D : FunD K "law" "law" (defArgs s_law) (defBody s_law) (defScope s_law) [] [] f fd) (B_list : mg "list" = none) (c_law_take : Cal P w K mg base k "_law_take" ["_law_box", "_law_many"] sp_law_take) (B_range : mg "range" = none) (c_law_own : Cal P w K mg base k "_law_own" ["_law_box", "_law_number"] sp_law_own) (c_Machine_init : CalC P w K mg base k "Machine" C_Machine ["self", "kinds", "code", "numbers", "most", "deep"] sp_Machine_init) (c_coded : Cal P w K mg base k "coded" ["program"] sp_coded) (c_law_alike : Cal P w K mg base k "_law_alike" ["_law_found", "_law_due"] sp_law_alike) (c_Machine_go : CalM P w K mg base k C_Machine "go" ["self", "rows"] sp_Machine_go) (c_Machine_events : CalM P w K mg base k C_Machine "events" ["self"] sp_Machine_events) {sp : Sp}
    (len : ∀ vs H Q E, sp vs H Q E → vs.length = 1)
    (rd : ∀ vs H Q E, sp vs H Q E → t_law K sp_law_take sp_law_own C_Machine sp_Machine_init sp_coded sp_law_alike sp_Machine_go sp_Machine_events { nx := fun _ H' => Q .non H', rt := Q } (start N_law vs) H) : FnOk P w K mg base CX0 (k + 2) f fd ["_law_script"] sp := by
  refine D.ok sc_law len (fun cdv A outer s H vs Q E hr h => ⟨t_law K sp_law_take sp_law_own C_Machine sp_Machine_init sp_coded sp_law_alike sp_Machine_go sp_Machine_events, PSs.nox ?_, rd vs H Q E h⟩)
  · have hrm := hr; have hr : Room k _ := hr.mono (by omega)
    unfold t_law
    exact pss_cons (ps_set (i := 1) sc_law.nd rfl (by first | exact Or.inl rfl | exact Or.inr rfl) (pe_callTy call_list_of (by rfl) B_list (by decide +kernel) (pa_cons (pv 0) (pa_nil))))
        (pss_cons (ps_set (i := 2) sc_law.nd rfl (by first | exact Or.inl rfl | exact Or.inr rfl) (pe_op op_add (pe_int) (pc c_law_take hr (pa_cons (pv 1) (pa_cons (pe_int) (pa_nil))))))
        (pss_cons (ps_set (i := 3) sc_law.nd rfl (by first | exact Or.inl rfl | exact Or.inr rfl) (pc c_law_take hr (pa_cons (pv 1) (pa_cons (pe_int) (pa_nil)))))
        (pss_cons (ps_set (i := 4) sc_law.nd rfl (by first | exact Or.inl rfl | exact Or.inr rfl) (pe_tup (pa_cons (pe_str) (pa_cons (pe_tup (pa_cons (pe_str) (pa_cons (pe_tup (pa_cons (pe_str) (pa_cons (pe_int) (pa_nil)))) (pa_cons (pe_tup (pa_cons (pe_str) (pa_cons (pv 3) (pa_nil)))) (pa_nil))))) (pa_cons (pe_tup (pa_cons (pe_str) (pa_nil))) (pa_cons (pe_tup (pa_cons (pe_str) (pa_cons (pe_tup (pa_nil)) (pa_nil)))) (pa_nil)))))))
        (pss_cons (ps_set (i := 5) sc_law.nd rfl (by first | exact Or.inl rfl | exact Or.inr rfl) (pe_tup (pa_cons (pe_str) (pa_cons (pe_int) (pa_cons (pe_tup (pa_cons (pe_str) (pa_cons (pe_tup (pa_cons (pe_str) (pa_cons (pe_int) (pa_nil)))) (pa_cons (pe_tup (pa_cons (pe_str) (pa_cons (pe_int) (pa_nil)))) (pa_nil))))) (pa_nil))))))
        (pss_cons (ps_set (i := 6) sc_law.nd rfl (by first | exact Or.inl rfl | exact Or.inr rfl) (pe_tup (pa_cons (pe_str) (pa_cons (pe_tup (pa_cons (pe_str) (pa_cons (pe_int) (pa_nil)))) (pa_cons (pe_tup (pa_cons (pe_str) (pa_cons (pe_tup (pa_cons (pe_tup (pa_cons (pe_str) (pa_cons (pe_tup (pa_cons (pe_str) (pa_cons (pe_int) (pa_nil)))) (pa_nil)))) (pa_cons (pv 5) (pa_cons (pv 4) (pa_nil))))) (pa_nil)))) (pa_nil))))))
        (pss_cons (ps_set (i := 7) sc_law.nd rfl (by first | exact Or.inl rfl | exact Or.inr rfl) (pe_lst (pa_nil)))
        (pss_cons (ps_while PassesOwn.never (PW.pt (pw_and (pt_cmpR op_gt (pv 2) (pe_int) (nomark _)) (pw_and1 (PW.pt (pw_or (pt_cmpR (op_eqE hr.units) (pv 7) (pe_lst (pa_nil)) (nomark _)) (pw_or1 (pt_cmpR op_ge (pv 2) (pv 3) (nomark _)))))))) (pss_cons (ps_expr (pe_bm PySem.F.plainAttrs_list PySem.F.slot_list_append PySem.F.type_list_append mt_append (pv 7) (pa_cons (pe_tup (pa_cons (pe_str) (pa_cons (pv 2) (pa_nil)))) (pa_nil))))
        (pss_one (ps_set (i := 2) sc_law.nd rfl (by first | exact Or.inl rfl | exact Or.inr rfl) (pe_op op_sub (pv 2) (pe_int))))))
        (pss_cons (ps_if (pt_cmpR op_eq (pc c_law_take hr (pa_cons (pv 1) (pa_cons (pe_int) (pa_nil)))) (pe_int) (nomark _)) (pss_cons (ps_set (i := 6) sc_law.nd rfl (by first | exact Or.inl rfl | exact Or.inr rfl) (pe_tup (pa_cons (pe_str) (pa_cons (pe_tup (pa_cons (pv 6) (pa_cons (pe_tup (pa_cons (pe_str) (pa_cons (pe_tup (pa_cons (pe_str) (pa_cons (pe_int) (pa_nil)))) (pa_nil)))) (pa_nil)))) (pa_nil)))))
        (pss_one (ps_expr (pe_bm PySem.F.plainAttrs_list PySem.F.slot_list_append PySem.F.type_list_append mt_append (pv 7) (pa_cons (pe_tup (pa_cons (pe_str) (pa_cons (pe_int) (pa_nil)))) (pa_nil)))))) (pss_nil))
        (pss_cons (ps_for PassesOwn.never rfl (pi_range1 (by rfl) B_range (pa_cons (pe_op op_add (pe_int) (pc c_law_take hr (pa_cons (pv 1) (pa_cons (pe_int) (pa_nil))))) (pa_nil))) (pg_name (i := 8) sc_law.nd rfl (by first | exact Or.inl rfl | exact Or.inr rfl)) (pss_cons (ps_set (i := 9) sc_law.nd rfl (by first | exact Or.inl rfl | exact Or.inr rfl) (pc c_law_own hr (pa_cons (pv 1) (pa_cons (pe_op op_mul (pe_int) (pe_op op_add (pv 8) (pe_int))) (pa_nil)))))
        (pss_cons (ps_set (i := 6) sc_law.nd rfl (by first | exact Or.inl rfl | exact Or.inr rfl) (pe_tup (pa_cons (pe_str) (pa_cons (pv 6) (pa_cons (pe_ix ix_tup (pv 9) (pe_int) (fun _ _ => rfl)) (pa_nil))))))
        (pss_one (ps_set (i := 7) sc_law.nd rfl (by first | exact Or.inl rfl | exact Or.inr rfl) (pe_op op_cat (pv 7) (pe_ix ix_tup (pv 9) (pe_int) (fun _ _ => rfl))))))))
        (pss_cons (ps_set (i := 10) sc_law.nd rfl (by first | exact Or.inl rfl | exact Or.inr rfl) (pe_tup (pa_cons (pe_str) (pa_cons (pe_tup (pa_cons (pe_tup (pa_cons (pe_str) (pa_cons (pe_int) (pa_cons (pe_tup (pa_cons (pe_str) (pa_cons (pe_int) (pa_nil)))) (pa_nil))))) (pa_cons (pv 6) (pa_nil)))) (pa_nil)))))
        (pss_cons (ps_set (i := 11) sc_law.nd rfl (by first | exact Or.inl rfl | exact Or.inr rfl) (pk c_Machine_init hrm (pa_cons (pe_tup (pa_cons (pe_non) (pa_nil))) (pa_cons (pc c_coded hr (pa_cons (pe_tup (pa_cons (pe_tup (pa_cons (pe_non) (pa_nil))) (pa_cons (pe_tup (pa_cons (pe_tup (pa_cons (pe_int) (pa_cons (pv 10) (pa_nil)))) (pa_nil))) (pa_nil)))) (pa_nil))) (pa_cons (pe_lst (pa_cons (pe_ix ix_tup (pe_ix ix_list (pv 7) (pe_int) (fun _ _ => rfl)) (pe_int) (fun _ _ => rfl)) (pa_nil))) (pa_cons (pe_int) (pa_cons (pe_int) (pa_nil))))))))
        (pss_one (ps_ret (pe_and (pc c_law_alike hr (pa_cons (pm c_Machine_go hr (pv 11) (pa_cons (pe_int) (pa_nil))) (pa_cons (pe_tup (pa_cons (pe_str) (pa_cons (pe_int) (pa_nil)))) (pa_nil)))) (pe_one (pc c_law_alike hr (pa_cons (pm0 c_Machine_events hr (pv 11)) (pa_cons (pv 7) (pa_nil)))))))))))))))))))

end
def d_under : He.DefD := ⟨("under", none), "under", "under", defArgs s_under, defBody s_under, defScope s_under, [], []⟩
def d_meets : He.DefD := ⟨("meets", none), "meets", "meets", defArgs s_meets, defBody s_meets, defScope s_meets, [], []⟩
def d_joined : He.DefD := ⟨("joined", none), "joined", "joined", defArgs s_joined, defBody s_joined, defScope s_joined, [], []⟩
def d_slots_for : He.DefD := ⟨("slots_for", none), "slots_for", "slots_for", defArgs s_slots_for, defBody s_slots_for, defScope s_slots_for, [], []⟩
def d_Frame_init : He.DefD := ⟨("Frame", some "__init__"), "__init__", "Frame.__init__", defArgs s_Frame_init, defBody s_Frame_init, defScope s_Frame_init, [], []⟩
def d_Machine_init : He.DefD := ⟨("Machine", some "__init__"), "__init__", "Machine.__init__", defArgs s_Machine_init, defBody s_Machine_init, defScope s_Machine_init, [], []⟩
def d_Machine_events : He.DefD := ⟨("Machine", some "events"), "events", "Machine.events", defArgs s_Machine_events, defBody s_Machine_events, defScope s_Machine_events, [], []⟩
def d_Machine_table : He.DefD := ⟨("Machine", some "table"), "table", "Machine.table", defArgs s_Machine_table, defBody s_Machine_table, defScope s_Machine_table, [], []⟩
def d_Machine_enter : He.DefD := ⟨("Machine", some "enter"), "enter", "Machine.enter", defArgs s_Machine_enter, defBody s_Machine_enter, defScope s_Machine_enter, [], []⟩
def d_Machine_cleanup_left : He.DefD := ⟨("Machine", some "cleanup_left"), "cleanup_left", "Machine.cleanup_left", defArgs s_Machine_cleanup_left, defBody s_Machine_cleanup_left, defScope s_Machine_cleanup_left, [], []⟩
def d_Machine_leap : He.DefD := ⟨("Machine", some "leap"), "leap", "Machine.leap", defArgs s_Machine_leap, defBody s_Machine_leap, defScope s_Machine_leap, [], []⟩
def d_Machine_give_back : He.DefD := ⟨("Machine", some "give_back"), "give_back", "Machine.give_back", defArgs s_Machine_give_back, defBody s_Machine_give_back, defScope s_Machine_give_back, [], []⟩
def d_Machine_fly : He.DefD := ⟨("Machine", some "fly"), "fly", "Machine.fly", defArgs s_Machine_fly, defBody s_Machine_fly, defScope s_Machine_fly, [], []⟩
def d_Machine_resume : He.DefD := ⟨("Machine", some "resume"), "resume", "Machine.resume", defArgs s_Machine_resume, defBody s_Machine_resume, defScope s_Machine_resume, [], []⟩
def d_Machine_call : He.DefD := ⟨("Machine", some "call"), "call", "Machine.call", defArgs s_Machine_call, defBody s_Machine_call, defScope s_Machine_call, [], []⟩
def d_Machine_leave : He.DefD := ⟨("Machine", some "leave"), "leave", "Machine.leave", defArgs s_Machine_leave, defBody s_Machine_leave, defScope s_Machine_leave, [], []⟩
def d_Machine_turn : He.DefD := ⟨("Machine", some "turn"), "turn", "Machine.turn", defArgs s_Machine_turn, defBody s_Machine_turn, defScope s_Machine_turn, [], []⟩
def d_Machine_plain : He.DefD := ⟨("Machine", some "plain"), "plain", "Machine.plain", defArgs s_Machine_plain, defBody s_Machine_plain, defScope s_Machine_plain, [], []⟩
def d_Machine_move : He.DefD := ⟨("Machine", some "move"), "move", "Machine.move", defArgs s_Machine_move, defBody s_Machine_move, defScope s_Machine_move, [], []⟩
def d_Machine_go : He.DefD := ⟨("Machine", some "go"), "go", "Machine.go", defArgs s_Machine_go, defBody s_Machine_go, defScope s_Machine_go, [], []⟩
def d_table_of : He.DefD := ⟨("table_of", none), "table_of", "table_of", defArgs s_table_of, defBody s_table_of, defScope s_table_of, [], []⟩
def d_Coder_init : He.DefD := ⟨("Coder", some "__init__"), "__init__", "Coder.__init__", defArgs s_Coder_init, defBody s_Coder_init, defScope s_Coder_init, [], []⟩
def d_Coder_put : He.DefD := ⟨("Coder", some "put"), "put", "Coder.put", defArgs s_Coder_put, defBody s_Coder_put, defScope s_Coder_put, [], []⟩
def d_Coder_part : He.DefD := ⟨("Coder", some "part"), "part", "Coder.part", defArgs s_Coder_part, defBody s_Coder_part, defScope s_Coder_part, [], []⟩
def d_Coder_plain : He.DefD := ⟨("Coder", some "plain"), "plain", "Coder.plain", defArgs s_Coder_plain, defBody s_Coder_plain, defScope s_Coder_plain, [], []⟩
def d_Coder_choice : He.DefD := ⟨("Coder", some "choice"), "choice", "Coder.choice", defArgs s_Coder_choice, defBody s_Coder_choice, defScope s_Coder_choice, [], []⟩
def d_Coder_loop : He.DefD := ⟨("Coder", some "loop"), "loop", "Coder.loop", defArgs s_Coder_loop, defBody s_Coder_loop, defScope s_Coder_loop, [], []⟩
def d_Coder_tried : He.DefD := ⟨("Coder", some "tried"), "tried", "Coder.tried", defArgs s_Coder_tried, defBody s_Coder_tried, defScope s_Coder_tried, [], []⟩
def d_Coder_cleaned : He.DefD := ⟨("Coder", some "cleaned"), "cleaned", "Coder.cleaned", defArgs s_Coder_cleaned, defBody s_Coder_cleaned, defScope s_Coder_cleaned, [], []⟩
def d_Coder_lay : He.DefD := ⟨("Coder", some "lay"), "lay", "Coder.lay", defArgs s_Coder_lay, defBody s_Coder_lay, defScope s_Coder_lay, [], []⟩
def d_coded : He.DefD := ⟨("coded", none), "coded", "coded", defArgs s_coded, defBody s_coded, defScope s_coded, [], []⟩
def d_law_take : He.DefD := ⟨("_law_take", none), "_law_take", "_law_take", defArgs s_law_take, defBody s_law_take, defScope s_law_take, [], []⟩
def d_law_alike : He.DefD := ⟨("_law_alike", none), "_law_alike", "_law_alike", defArgs s_law_alike, defBody s_law_alike, defScope s_law_alike, [], []⟩
def d_law_own : He.DefD := ⟨("_law_own", none), "_law_own", "_law_own", defArgs s_law_own, defBody s_law_own, defScope s_law_own, [], []⟩
def d_law : He.DefD := ⟨("law", none), "law", "law", defArgs s_law, defBody s_law, defScope s_law, [], []⟩
def fn : List He.DefD := [d_under, d_meets, d_joined, d_slots_for, d_Frame_init, d_Machine_init, d_Machine_events, d_Machine_table, d_Machine_enter, d_Machine_cleanup_left, d_Machine_leap, d_Machine_give_back, d_Machine_fly, d_Machine_resume, d_Machine_call, d_Machine_leave, d_Machine_turn, d_Machine_plain, d_Machine_move, d_Machine_go, d_table_of, d_Coder_init, d_Coder_put, d_Coder_part, d_Coder_plain, d_Coder_choice, d_Coder_loop, d_Coder_tried, d_Coder_cleaned, d_Coder_lay, d_coded, d_law_take, d_law_alike, d_law_own, d_law]
def fa : List He.Fa := [.glo "under", .glo "meets", .glo "joined", .glo "slots_for", .glo "Frame", .cls "Frame", .mkr "Frame", .glo "Machine", .cls "Machine", .mkr "Machine", .meth "Machine" "events", .meth "Machine" "table", .meth "Machine" "enter", .meth "Machine" "cleanup_left", .meth "Machine" "leap", .meth "Machine" "give_back", .meth "Machine" "fly", .meth "Machine" "resume", .meth "Machine" "call", .meth "Machine" "leave", .meth "Machine" "turn", .meth "Machine" "plain", .meth "Machine" "move", .meth "Machine" "go", .glo "table_of", .glo "Coder", .cls "Coder", .mkr "Coder", .meth "Coder" "put", .meth "Coder" "part", .meth "Coder" "plain", .meth "Coder" "choice", .meth "Coder" "loop", .meth "Coder" "tried", .meth "Coder" "cleaned", .meth "Coder" "lay", .glo "coded", .glo "_law_take", .glo "_law_alike", .glo "_law_own", .glo "law", .int "MODULE" 10007, .free "int", .free "list", .free "range", .int "SLOTS" 8, .free "len", .free "enumerate", .free "tuple", .free "isinstance", .free "bool", .free "str", .noat "Coder" "made", .noat "Coder" "turns", .noat "Machine" "kinds", .noat "Machine" "code", .noat "Machine" "left", .noat "Machine" "deep", .noat "Machine" "told", .noat "Machine" "done", .noat "Machine" "last", .noat "Machine" "frames", .noat "Frame" "number", .noat "Frame" "slots", .noat "Frame" "place", .noat "Frame" "stack", .noat "Frame" "held"]
abbrev loose : List PySem.Str := ["_wall", "MODULE", "SLOTS", "under", "meets", "joined", "slots_for", "Frame", "Machine", "table_of", "Coder", "coded", "_law_take", "_law_alike", "_law_own"]
abbrev R : PySem.W.OpenRow := PySem.W.OpenLaw.row PySem.Challenge.rw_leaps_k20_whiles_within_cleanups
abbrev hk : PySem.W.Hook := He.hookD 7 fa fn
def ob (s : PySem.W.SharedT) : He.AlD := He.obsDG 7 fa fn (HandSHeadRun.getT s)
theorem ob_eq (s : PySem.W.SharedT) : ob s = hk.obs s.abs := He.obsDG_eq (HandSHeadRun.getT_eq s)
set_option maxHeartbeats 0 in
theorem run (w : World) : HandSHeadRun.RunEq R (PySem.W.view R.prog [20]) hk ob 4000 loose w := by
  intro os
  kernel_rfl
theorem facts {w : World} {K : PySem.W.Frag} {h : Heap} {mg : Str → Option Value} {f : Addr} (X : K.In h) (G : h.Ns mainGlobals mg) (hfa : mg ("law" : Str) = some (.ref f)) (c : He.SaysD fa fn K) :
    ∃ fd : FuncData, (∀ (s : Shared) (v : Value), BindsTo s fd ⟨[v], []⟩ [("_law_script", v)]) ∧ ∀ base : Heap, K.In base → base.Ns mainGlobals mg → FnOk PySem.Challenge.pw_leaps_k20_whiles_within_cleanups w K mg base CX0 28 f fd ["_law_script"] (spLaw K) := by
  obtain ⟨fd_under, D_under⟩ := c.def_ 0 (d := d_under) rfl
  obtain ⟨fd_meets, D_meets⟩ := c.def_ 1 (d := d_meets) rfl
  obtain ⟨fd_joined, D_joined⟩ := c.def_ 2 (d := d_joined) rfl
  obtain ⟨fd_slots_for, D_slots_for⟩ := c.def_ 3 (d := d_slots_for) rfl
  obtain ⟨fd_Frame_init, D_Frame_init⟩ := c.def_ 4 (d := d_Frame_init) rfl
  obtain ⟨fd_Machine_init, D_Machine_init⟩ := c.def_ 5 (d := d_Machine_init) rfl
  obtain ⟨fd_Machine_events, D_Machine_events⟩ := c.def_ 6 (d := d_Machine_events) rfl
  obtain ⟨fd_Machine_table, D_Machine_table⟩ := c.def_ 7 (d := d_Machine_table) rfl
  obtain ⟨fd_Machine_enter, D_Machine_enter⟩ := c.def_ 8 (d := d_Machine_enter) rfl
  obtain ⟨fd_Machine_cleanup_left, D_Machine_cleanup_left⟩ := c.def_ 9 (d := d_Machine_cleanup_left) rfl
  obtain ⟨fd_Machine_leap, D_Machine_leap⟩ := c.def_ 10 (d := d_Machine_leap) rfl
  obtain ⟨fd_Machine_give_back, D_Machine_give_back⟩ := c.def_ 11 (d := d_Machine_give_back) rfl
  obtain ⟨fd_Machine_fly, D_Machine_fly⟩ := c.def_ 12 (d := d_Machine_fly) rfl
  obtain ⟨fd_Machine_resume, D_Machine_resume⟩ := c.def_ 13 (d := d_Machine_resume) rfl
  obtain ⟨fd_Machine_call, D_Machine_call⟩ := c.def_ 14 (d := d_Machine_call) rfl
  obtain ⟨fd_Machine_leave, D_Machine_leave⟩ := c.def_ 15 (d := d_Machine_leave) rfl
  obtain ⟨fd_Machine_turn, D_Machine_turn⟩ := c.def_ 16 (d := d_Machine_turn) rfl
  obtain ⟨fd_Machine_plain, D_Machine_plain⟩ := c.def_ 17 (d := d_Machine_plain) rfl
  obtain ⟨fd_Machine_move, D_Machine_move⟩ := c.def_ 18 (d := d_Machine_move) rfl
  obtain ⟨fd_Machine_go, D_Machine_go⟩ := c.def_ 19 (d := d_Machine_go) rfl
  obtain ⟨fd_table_of, D_table_of⟩ := c.def_ 20 (d := d_table_of) rfl
  obtain ⟨fd_Coder_init, D_Coder_init⟩ := c.def_ 21 (d := d_Coder_init) rfl
  obtain ⟨fd_Coder_put, D_Coder_put⟩ := c.def_ 22 (d := d_Coder_put) rfl
  obtain ⟨fd_Coder_part, D_Coder_part⟩ := c.def_ 23 (d := d_Coder_part) rfl
  obtain ⟨fd_Coder_plain, D_Coder_plain⟩ := c.def_ 24 (d := d_Coder_plain) rfl
  obtain ⟨fd_Coder_choice, D_Coder_choice⟩ := c.def_ 25 (d := d_Coder_choice) rfl
  obtain ⟨fd_Coder_loop, D_Coder_loop⟩ := c.def_ 26 (d := d_Coder_loop) rfl
  obtain ⟨fd_Coder_tried, D_Coder_tried⟩ := c.def_ 27 (d := d_Coder_tried) rfl
  obtain ⟨fd_Coder_cleaned, D_Coder_cleaned⟩ := c.def_ 28 (d := d_Coder_cleaned) rfl
  obtain ⟨fd_Coder_lay, D_Coder_lay⟩ := c.def_ 29 (d := d_Coder_lay) rfl
  obtain ⟨fd_coded, D_coded⟩ := c.def_ 30 (d := d_coded) rfl
  obtain ⟨fd_law_take, D_law_take⟩ := c.def_ 31 (d := d_law_take) rfl
  obtain ⟨fd_law_alike, D_law_alike⟩ := c.def_ 32 (d := d_law_alike) rfl
  obtain ⟨fd_law_own, D_law_own⟩ := c.def_ 33 (d := d_law_own) rfl
  obtain ⟨fd_law, D_law⟩ := c.def_ 34 (d := d_law) rfl
  have G_under := He.glo_ok X G (c.fact 0 (f := .glo "under") rfl)
  have G_meets := He.glo_ok X G (c.fact 1 (f := .glo "meets") rfl)
  have G_joined := He.glo_ok X G (c.fact 2 (f := .glo "joined") rfl)
  have G_slots_for := He.glo_ok X G (c.fact 3 (f := .glo "slots_for") rfl)
  have G_Frame := He.glo_ok X G (c.fact 4 (f := .glo "Frame") rfl)
  have Cl_Frame := He.cls_ok (c.fact 5 (f := .cls "Frame") rfl)
  have Mk_Frame := He.mkr_ok (c.fact 6 (f := .mkr "Frame") rfl)
  have G_Machine := He.glo_ok X G (c.fact 7 (f := .glo "Machine") rfl)
  have Cl_Machine := He.cls_ok (c.fact 8 (f := .cls "Machine") rfl)
  have Mk_Machine := He.mkr_ok (c.fact 9 (f := .mkr "Machine") rfl)
  have Me_Machine_events := He.meth_ok (c.fact 10 (f := .meth "Machine" "events") rfl)
  have Me_Machine_table := He.meth_ok (c.fact 11 (f := .meth "Machine" "table") rfl)
  have Me_Machine_enter := He.meth_ok (c.fact 12 (f := .meth "Machine" "enter") rfl)
  have Me_Machine_cleanup_left := He.meth_ok (c.fact 13 (f := .meth "Machine" "cleanup_left") rfl)
  have Me_Machine_leap := He.meth_ok (c.fact 14 (f := .meth "Machine" "leap") rfl)
  have Me_Machine_give_back := He.meth_ok (c.fact 15 (f := .meth "Machine" "give_back") rfl)
  have Me_Machine_fly := He.meth_ok (c.fact 16 (f := .meth "Machine" "fly") rfl)
  have Me_Machine_resume := He.meth_ok (c.fact 17 (f := .meth "Machine" "resume") rfl)
  have Me_Machine_call := He.meth_ok (c.fact 18 (f := .meth "Machine" "call") rfl)
  have Me_Machine_leave := He.meth_ok (c.fact 19 (f := .meth "Machine" "leave") rfl)
  have Me_Machine_turn := He.meth_ok (c.fact 20 (f := .meth "Machine" "turn") rfl)
  have Me_Machine_plain := He.meth_ok (c.fact 21 (f := .meth "Machine" "plain") rfl)
  have Me_Machine_move := He.meth_ok (c.fact 22 (f := .meth "Machine" "move") rfl)
  have Me_Machine_go := He.meth_ok (c.fact 23 (f := .meth "Machine" "go") rfl)
  have G_table_of := He.glo_ok X G (c.fact 24 (f := .glo "table_of") rfl)
  have G_Coder := He.glo_ok X G (c.fact 25 (f := .glo "Coder") rfl)
  have Cl_Coder := He.cls_ok (c.fact 26 (f := .cls "Coder") rfl)
  have Mk_Coder := He.mkr_ok (c.fact 27 (f := .mkr "Coder") rfl)
  have Me_Coder_put := He.meth_ok (c.fact 28 (f := .meth "Coder" "put") rfl)
  have Me_Coder_part := He.meth_ok (c.fact 29 (f := .meth "Coder" "part") rfl)
  have Me_Coder_plain := He.meth_ok (c.fact 30 (f := .meth "Coder" "plain") rfl)
  have Me_Coder_choice := He.meth_ok (c.fact 31 (f := .meth "Coder" "choice") rfl)
  have Me_Coder_loop := He.meth_ok (c.fact 32 (f := .meth "Coder" "loop") rfl)
  have Me_Coder_tried := He.meth_ok (c.fact 33 (f := .meth "Coder" "tried") rfl)
  have Me_Coder_cleaned := He.meth_ok (c.fact 34 (f := .meth "Coder" "cleaned") rfl)
  have Me_Coder_lay := He.meth_ok (c.fact 35 (f := .meth "Coder" "lay") rfl)
  have G_coded := He.glo_ok X G (c.fact 36 (f := .glo "coded") rfl)
  have G__law_take := He.glo_ok X G (c.fact 37 (f := .glo "_law_take") rfl)
  have G__law_alike := He.glo_ok X G (c.fact 38 (f := .glo "_law_alike") rfl)
  have G__law_own := He.glo_ok X G (c.fact 39 (f := .glo "_law_own") rfl)
  have G_law := He.glo_ok X G (c.fact 40 (f := .glo "law") rfl)
  have Gc_MODULE := He.int_ok X G (c.fact 41 (f := .int "MODULE" 10007) rfl)
  have B_int := He.free_ok X G (c.fact 42 (f := .free "int") rfl)
  have B_list := He.free_ok X G (c.fact 43 (f := .free "list") rfl)
  have B_range := He.free_ok X G (c.fact 44 (f := .free "range") rfl)
  have Gc_SLOTS := He.int_ok X G (c.fact 45 (f := .int "SLOTS" 8) rfl)
  have B_len := He.free_ok X G (c.fact 46 (f := .free "len") rfl)
  have B_enumerate := He.free_ok X G (c.fact 47 (f := .free "enumerate") rfl)
  have B_tuple := He.free_ok X G (c.fact 48 (f := .free "tuple") rfl)
  have B_isinstance := He.free_ok X G (c.fact 49 (f := .free "isinstance") rfl)
  have B_bool := He.free_ok X G (c.fact 50 (f := .free "bool") rfl)
  have B_str := He.free_ok X G (c.fact 51 (f := .free "str") rfl)
  have Na_Coder_made := He.noat_ok (c.fact 52 (f := .noat "Coder" "made") rfl)
  have Na_Coder_turns := He.noat_ok (c.fact 53 (f := .noat "Coder" "turns") rfl)
  have Na_Machine_kinds := He.noat_ok (c.fact 54 (f := .noat "Machine" "kinds") rfl)
  have Na_Machine_code := He.noat_ok (c.fact 55 (f := .noat "Machine" "code") rfl)
  have Na_Machine_left := He.noat_ok (c.fact 56 (f := .noat "Machine" "left") rfl)
  have Na_Machine_deep := He.noat_ok (c.fact 57 (f := .noat "Machine" "deep") rfl)
  have Na_Machine_told := He.noat_ok (c.fact 58 (f := .noat "Machine" "told") rfl)
  have Na_Machine_done := He.noat_ok (c.fact 59 (f := .noat "Machine" "done") rfl)
  have Na_Machine_last := He.noat_ok (c.fact 60 (f := .noat "Machine" "last") rfl)
  have Na_Machine_frames := He.noat_ok (c.fact 61 (f := .noat "Machine" "frames") rfl)
  have Na_Frame_number := He.noat_ok (c.fact 62 (f := .noat "Frame" "number") rfl)
  have Na_Frame_slots := He.noat_ok (c.fact 63 (f := .noat "Frame" "slots") rfl)
  have Na_Frame_place := He.noat_ok (c.fact 64 (f := .noat "Frame" "place") rfl)
  have Na_Frame_stack := He.noat_ok (c.fact 65 (f := .noat "Frame" "stack") rfl)
  have Na_Frame_held := He.noat_ok (c.fact 66 (f := .noat "Frame" "held") rfl)
  have eLaw := hfa.symm.trans G_law
  cases eLaw
  have b_under := FunD.bindsN (ps := ["kinds", "kind", "other"]) D_under fun _ _ _ _ _ _ us hl => match us, hl with | [_, _, _], _ => rfl
  have b_meets := FunD.bindsN (ps := ["kinds", "wanted", "kind"]) D_meets fun _ _ _ _ _ _ us hl => match us, hl with | [_, _, _], _ => rfl
  have b_joined := FunD.bindsN (ps := ["word", "one", "two"]) D_joined fun _ _ _ _ _ _ us hl => match us, hl with | [_, _, _], _ => rfl
  have b_slots_for := FunD.bindsN (ps := ["numbers"]) D_slots_for fun _ _ _ _ _ _ us hl => match us, hl with | [_], _ => rfl
  have b_Frame_init := FunD.bindsN (ps := ["self", "number", "slots"]) D_Frame_init fun _ _ _ _ _ _ us hl => match us, hl with | [_, _, _], _ => rfl
  have b_Machine_init := FunD.bindsN (ps := ["self", "kinds", "code", "numbers", "most", "deep"]) D_Machine_init fun _ _ _ _ _ _ us hl => match us, hl with | [_, _, _, _, _, _], _ => rfl
  have b_Machine_events := FunD.bindsN (ps := ["self"]) D_Machine_events fun _ _ _ _ _ _ us hl => match us, hl with | [_], _ => rfl
  have b_Machine_table := FunD.bindsN (ps := ["self", "frame"]) D_Machine_table fun _ _ _ _ _ _ us hl => match us, hl with | [_, _], _ => rfl
  have b_Machine_enter := FunD.bindsN (ps := ["self", "frame", "row", "pending"]) D_Machine_enter fun _ _ _ _ _ _ us hl => match us, hl with | [_, _, _, _], _ => rfl
  have b_Machine_cleanup_left := FunD.bindsN (ps := ["self", "frame", "goal"]) D_Machine_cleanup_left fun _ _ _ _ _ _ us hl => match us, hl with | [_, _, _], _ => rfl
  have b_Machine_leap := FunD.bindsN (ps := ["self", "frame", "goal", "depth"]) D_Machine_leap fun _ _ _ _ _ _ us hl => match us, hl with | [_, _, _, _], _ => rfl
  have b_Machine_give_back := FunD.bindsN (ps := ["self", "frame", "value"]) D_Machine_give_back fun _ _ _ _ _ _ us hl => match us, hl with | [_, _, _], _ => rfl
  have b_Machine_fly := FunD.bindsN (ps := ["self", "fault"]) D_Machine_fly fun _ _ _ _ _ _ us hl => match us, hl with | [_, _], _ => rfl
  have b_Machine_resume := FunD.bindsN (ps := ["self", "frame", "pending"]) D_Machine_resume fun _ _ _ _ _ _ us hl => match us, hl with | [_, _, _], _ => rfl
  have b_Machine_call := FunD.bindsN (ps := ["self", "frame", "row"]) D_Machine_call fun _ _ _ _ _ _ us hl => match us, hl with | [_, _, _], _ => rfl
  have b_Machine_leave := FunD.bindsN (ps := ["self", "frame", "row"]) D_Machine_leave fun _ _ _ _ _ _ us hl => match us, hl with | [_, _, _], _ => rfl
  have b_Machine_turn := FunD.bindsN (ps := ["self", "frame", "row"]) D_Machine_turn fun _ _ _ _ _ _ us hl => match us, hl with | [_, _, _], _ => rfl
  have b_Machine_plain := FunD.bindsN (ps := ["self", "frame", "row"]) D_Machine_plain fun _ _ _ _ _ _ us hl => match us, hl with | [_, _, _], _ => rfl
  have b_Machine_move := FunD.bindsN (ps := ["self"]) D_Machine_move fun _ _ _ _ _ _ us hl => match us, hl with | [_], _ => rfl
  have b_Machine_go := FunD.bindsN (ps := ["self", "rows"]) D_Machine_go fun _ _ _ _ _ _ us hl => match us, hl with | [_, _], _ => rfl
  have b_table_of := FunD.bindsN (ps := ["rows"]) D_table_of fun _ _ _ _ _ _ us hl => match us, hl with | [_], _ => rfl
  have b_Coder_init := FunD.bindsN (ps := ["self"]) D_Coder_init fun _ _ _ _ _ _ us hl => match us, hl with | [_], _ => rfl
  have b_Coder_put := FunD.bindsN (ps := ["self", "row"]) D_Coder_put fun _ _ _ _ _ _ us hl => match us, hl with | [_, _], _ => rfl
  have b_Coder_part := FunD.bindsN (ps := ["self", "part"]) D_Coder_part fun _ _ _ _ _ _ us hl => match us, hl with | [_, _], _ => rfl
  have b_Coder_plain := FunD.bindsN (ps := ["self", "one"]) D_Coder_plain fun _ _ _ _ _ _ us hl => match us, hl with | [_, _], _ => rfl
  have b_Coder_choice := FunD.bindsN (ps := ["self", "one", "depth"]) D_Coder_choice fun _ _ _ _ _ _ us hl => match us, hl with | [_, _, _], _ => rfl
  have b_Coder_loop := FunD.bindsN (ps := ["self", "one", "depth"]) D_Coder_loop fun _ _ _ _ _ _ us hl => match us, hl with | [_, _, _], _ => rfl
  have b_Coder_tried := FunD.bindsN (ps := ["self", "one", "depth"]) D_Coder_tried fun _ _ _ _ _ _ us hl => match us, hl with | [_, _, _], _ => rfl
  have b_Coder_cleaned := FunD.bindsN (ps := ["self", "one", "depth"]) D_Coder_cleaned fun _ _ _ _ _ _ us hl => match us, hl with | [_, _, _], _ => rfl
  have b_Coder_lay := FunD.bindsN (ps := ["self", "one", "depth"]) D_Coder_lay fun _ _ _ _ _ _ us hl => match us, hl with | [_, _, _], _ => rfl
  have b_coded := FunD.bindsN (ps := ["program"]) D_coded fun _ _ _ _ _ _ us hl => match us, hl with | [_], _ => rfl
  have b_law_take := FunD.bindsN (ps := ["_law_box", "_law_many"]) D_law_take fun _ _ _ _ _ _ us hl => match us, hl with | [_, _], _ => rfl
  have b_law_alike := FunD.bindsN (ps := ["_law_found", "_law_due"]) D_law_alike fun _ _ _ _ _ _ us hl => match us, hl with | [_, _], _ => rfl
  have b_law_own := FunD.bindsN (ps := ["_law_box", "_law_number"]) D_law_own fun _ _ _ _ _ _ us hl => match us, hl with | [_, _], _ => rfl
  have b_law := FunD.bindsA (ps := ["_law_script"]) D_law fun _ _ _ _ _ _ us hl => match us, hl with | [_], _ => rfl
  refine ⟨fd_law, fun s v => b_law s [v] rfl, fun base _ _ => ?_⟩
  have c_under : Cal PySem.Challenge.pw_leaps_k20_whiles_within_cleanups w K mg base 1 "under" ["kinds", "kind", "other"] (spUnder K) := ⟨_, _, ok_under (k := 0) D_under  (fun vs H Q E h => by obtain ⟨_, _, _, _, rfl, _⟩ := h; rfl) rd_under, b_under, D_under.kp, G_under⟩
  have c_meets : Cal PySem.Challenge.pw_leaps_k20_whiles_within_cleanups w K mg base 2 "meets" ["kinds", "wanted", "kind"] (spMeets K) := ⟨_, _, ok_meets (k := 1) D_meets (c_under.mono (by decide)) (fun vs H Q E h => by obtain ⟨_, _, _, _, rfl, _⟩ := h; rfl) rd_meets, b_meets, D_meets.kp, G_meets⟩
  have c_joined : Cal PySem.Challenge.pw_leaps_k20_whiles_within_cleanups w K mg base 1 "joined" ["word", "one", "two"] spJoined := ⟨_, _, ok_joined (k := 0) D_joined Gc_MODULE B_int (fun vs H Q E h => by obtain ⟨_, _, _, rfl, _⟩ := h; rfl) rd_joined, b_joined, D_joined.kp, G_joined⟩
  have c_slots_for : Cal PySem.Challenge.pw_leaps_k20_whiles_within_cleanups w K mg base 1 "slots_for" ["numbers"] (spSlots K) := ⟨_, _, ok_slots_for (k := 0) D_slots_for B_list B_range Gc_SLOTS B_len (fun vs H Q E h => by obtain ⟨_, _, rfl, _⟩ := h; rfl) rd_slots_for, b_slots_for, D_slots_for.kp, G_slots_for⟩
  have TM : MacT K (He.ga K "Machine") (He.ga K "Frame") := ⟨Cl_Machine, Cl_Frame, Na_Machine_kinds, Na_Machine_code, Na_Machine_left, Na_Machine_deep, Na_Machine_told, Na_Machine_done, Na_Machine_last, Na_Machine_frames, Na_Frame_number, Na_Frame_slots, Na_Frame_place, Na_Frame_stack, Na_Frame_held⟩
  have c_Frame_init : CalC PySem.Challenge.pw_leaps_k20_whiles_within_cleanups w K mg base 1 "Frame" (He.ga K "Frame") ["self", "number", "slots"] (spFrIni K (He.ga K "Frame")) := ⟨_, _, ok_Frame_init (k := 0) D_Frame_init  (fun vs H Q E h => by obtain ⟨_, _, _, _, rfl, _⟩ := h; rfl) (rd_fr_init TM), b_Frame_init, Mk_Frame, G_Frame⟩
  have c_Machine_init : CalC PySem.Challenge.pw_leaps_k20_whiles_within_cleanups w K mg base 3 "Machine" (He.ga K "Machine") ["self", "kinds", "code", "numbers", "most", "deep"] (spMIn K (He.ga K "Machine") (He.ga K "Frame")) := ⟨_, _, ok_Machine_init (k := 1) D_Machine_init (c_Frame_init.mono (by decide)) (c_slots_for.mono (by decide)) (fun vs H Q E h => by obtain ⟨_, _, _, _, _, _, _, _, rfl, _⟩ := h; rfl) (rd_m_init TM), b_Machine_init, Mk_Machine, G_Machine⟩
  have c_Machine_events : CalM PySem.Challenge.pw_leaps_k20_whiles_within_cleanups w K mg base 1 (He.ga K "Machine") "events" ["self"] (spEv K (He.ga K "Machine") (He.ga K "Frame")) := ⟨_, _, ok_Machine_events (k := 0) D_Machine_events B_list (fun vs H Q E h => by obtain ⟨_, _, _, _, _, _, rfl, _⟩ := h; rfl) (rd_ev TM), b_Machine_events, Cl_Machine, Me_Machine_events⟩
  have c_Machine_table : CalM PySem.Challenge.pw_leaps_k20_whiles_within_cleanups w K mg base 1 (He.ga K "Machine") "table" ["self", "frame"] (spTabM K (He.ga K "Machine") (He.ga K "Frame")) := ⟨_, _, ok_Machine_table (k := 0) D_Machine_table  (fun vs H Q E h => by obtain ⟨_, _, _, _, _, _, _, _, _, _, rfl, _⟩ := h; rfl) (rd_mtable TM), b_Machine_table, Cl_Machine, Me_Machine_table⟩
  have c_Machine_enter : CalM PySem.Challenge.pw_leaps_k20_whiles_within_cleanups w K mg base 1 (He.ga K "Machine") "enter" ["self", "frame", "row", "pending"] (spEnter K (He.ga K "Machine") (He.ga K "Frame")) := ⟨_, _, ok_Machine_enter (k := 0) D_Machine_enter  (fun vs H Q E h => by obtain ⟨_, _, _, _, _, _, _, _, _, _, _, _, _, rfl, _⟩ := h; rfl) (rd_enter TM), b_Machine_enter, Cl_Machine, Me_Machine_enter⟩
  have c_Machine_cleanup_left : CalM PySem.Challenge.pw_leaps_k20_whiles_within_cleanups w K mg base 2 (He.ga K "Machine") "cleanup_left" ["self", "frame", "goal"] (spLeft K (He.ga K "Machine") (He.ga K "Frame")) := ⟨_, _, ok_Machine_cleanup_left (k := 1) D_Machine_cleanup_left (c_Machine_table.mono (by decide)) (fun vs H Q E h => by obtain ⟨_, _, _, _, _, _, _, _, _, _, _, rfl, _⟩ := h; rfl) (rd_left TM), b_Machine_cleanup_left, Cl_Machine, Me_Machine_cleanup_left⟩
  have c_Machine_leap : CalM PySem.Challenge.pw_leaps_k20_whiles_within_cleanups w K mg base 3 (He.ga K "Machine") "leap" ["self", "frame", "goal", "depth"] (spLeap K (He.ga K "Machine") (He.ga K "Frame")) := ⟨_, _, ok_Machine_leap (k := 2) D_Machine_leap (c_Machine_cleanup_left.mono (by decide)) (c_Machine_enter.mono (by decide)) (fun vs H Q E h => by obtain ⟨_, _, _, _, _, _, _, _, _, _, _, rfl, _⟩ := h; rfl) (rd_mleap TM), b_Machine_leap, Cl_Machine, Me_Machine_leap⟩
  have c_Machine_give_back : CalM PySem.Challenge.pw_leaps_k20_whiles_within_cleanups w K mg base 3 (He.ga K "Machine") "give_back" ["self", "frame", "value"] (spGive K (He.ga K "Machine") (He.ga K "Frame")) := ⟨_, _, ok_Machine_give_back (k := 2) D_Machine_give_back (c_Machine_cleanup_left.mono (by decide)) (c_Machine_enter.mono (by decide)) (fun vs H Q E h => by obtain ⟨_, _, _, _, _, _, _, _, _, _, rfl, _⟩ := h; rfl) (rd_give TM), b_Machine_give_back, Cl_Machine, Me_Machine_give_back⟩
  have c_Machine_fly : CalM PySem.Challenge.pw_leaps_k20_whiles_within_cleanups w K mg base 3 (He.ga K "Machine") "fly" ["self", "fault"] (spFly K (He.ga K "Machine") (He.ga K "Frame")) := ⟨_, _, ok_Machine_fly (k := 2) D_Machine_fly (c_Machine_table.mono (by decide)) (c_Machine_enter.mono (by decide)) (c_meets.mono (by decide)) (fun vs H Q E h => by obtain ⟨_, _, _, _, _, _, _, _, rfl, _⟩ := h; rfl) (rd_fly TM), b_Machine_fly, Cl_Machine, Me_Machine_fly⟩
  have c_Machine_resume : CalM PySem.Challenge.pw_leaps_k20_whiles_within_cleanups w K mg base 4 (He.ga K "Machine") "resume" ["self", "frame", "pending"] (spRes K (He.ga K "Machine") (He.ga K "Frame")) := ⟨_, _, ok_Machine_resume (k := 3) D_Machine_resume (c_Machine_leap.mono (by decide)) (c_Machine_give_back.mono (by decide)) (c_Machine_fly.mono (by decide)) (fun vs H Q E h => by obtain ⟨_, _, _, _, _, _, _, _, _, _, _, rfl, _⟩ := h; rfl) (rd_res TM), b_Machine_resume, Cl_Machine, Me_Machine_resume⟩
  have c_Machine_call : CalM PySem.Challenge.pw_leaps_k20_whiles_within_cleanups w K mg base 3 (He.ga K "Machine") "call" ["self", "frame", "row"] (spCallM K (He.ga K "Machine") (He.ga K "Frame")) := ⟨_, _, ok_Machine_call (k := 1) D_Machine_call B_len (c_Frame_init.mono (by decide)) (c_slots_for.mono (by decide)) (fun vs H Q E h => by obtain ⟨_, _, _, _, _, _, _, _, _, _, _, _, _, rfl, _⟩ := h; rfl) (rd_mcall TM), b_Machine_call, Cl_Machine, Me_Machine_call⟩
  have c_Machine_leave : CalM PySem.Challenge.pw_leaps_k20_whiles_within_cleanups w K mg base 5 (He.ga K "Machine") "leave" ["self", "frame", "row"] (spLeave K (He.ga K "Machine") (He.ga K "Frame")) := ⟨_, _, ok_Machine_leave (k := 4) D_Machine_leave (c_Machine_leap.mono (by decide)) (c_Machine_give_back.mono (by decide)) (c_Machine_fly.mono (by decide)) (c_Machine_call.mono (by decide)) (c_Machine_resume.mono (by decide)) (fun vs H Q E h => by obtain ⟨_, _, _, _, _, _, _, _, _, _, _, rfl, _⟩ := h; rfl) (rd_leave TM), b_Machine_leave, Cl_Machine, Me_Machine_leave⟩
  have c_Machine_turn : CalM PySem.Challenge.pw_leaps_k20_whiles_within_cleanups w K mg base 1 (He.ga K "Machine") "turn" ["self", "frame", "row"] (spTurn K (He.ga K "Machine") (He.ga K "Frame")) := ⟨_, _, ok_Machine_turn (k := 0) D_Machine_turn  (fun vs H Q E h => by obtain ⟨_, _, _, _, _, _, _, _, _, _, _, rfl, _⟩ := h; rfl) (rd_mturn TM), b_Machine_turn, Cl_Machine, Me_Machine_turn⟩
  have c_Machine_plain : CalM PySem.Challenge.pw_leaps_k20_whiles_within_cleanups w K mg base 2 (He.ga K "Machine") "plain" ["self", "frame", "row"] (spPlainM K (He.ga K "Machine") (He.ga K "Frame")) := ⟨_, _, ok_Machine_plain (k := 1) D_Machine_plain (c_joined.mono (by decide)) (fun vs H Q E h => by obtain ⟨_, _, _, _, _, _, _, _, _, _, _, rfl, _⟩ := h; rfl) (rd_plainM TM), b_Machine_plain, Cl_Machine, Me_Machine_plain⟩
  have c_Machine_move : CalM PySem.Challenge.pw_leaps_k20_whiles_within_cleanups w K mg base 6 (He.ga K "Machine") "move" ["self"] (spMove K (He.ga K "Machine") (He.ga K "Frame")) := ⟨_, _, ok_Machine_move (k := 5) D_Machine_move (c_Machine_leave.mono (by decide)) (c_Machine_turn.mono (by decide)) (c_Machine_plain.mono (by decide)) (fun vs H Q E h => by obtain ⟨_, _, _, _, _, _, rfl, _⟩ := h; rfl) (rd_move TM), b_Machine_move, Cl_Machine, Me_Machine_move⟩
  have c_Machine_go : CalM PySem.Challenge.pw_leaps_k20_whiles_within_cleanups w K mg base 7 (He.ga K "Machine") "go" ["self", "rows"] (spGo K (He.ga K "Machine") (He.ga K "Frame")) := ⟨_, _, ok_Machine_go (k := 6) D_Machine_go B_range (c_Machine_move.mono (by decide)) (fun vs H Q E h => by obtain ⟨_, _, _, _, _, _, _, _, _, rfl, _⟩ := h; rfl) (rd_go TM), b_Machine_go, Cl_Machine, Me_Machine_go⟩
  have c_table_of : Cal PySem.Challenge.pw_leaps_k20_whiles_within_cleanups w K mg base 1 "table_of" ["rows"] (spTable (K := K)) := ⟨_, _, ok_table_of (k := 0) D_table_of B_enumerate B_tuple (fun vs H Q E h => by obtain ⟨_, _, rfl, _⟩ := h; rfl) rd_table_of, b_table_of, D_table_of.kp, G_table_of⟩
  have TT : CoTxt K (He.ga K "Coder") := ⟨Cl_Coder, Na_Coder_made, Na_Coder_turns⟩
  have c_Coder_init : CalC PySem.Challenge.pw_leaps_k20_whiles_within_cleanups w K mg base 1 "Coder" (He.ga K "Coder") ["self"] (spCoInit (He.ga K "Coder")) := ⟨_, _, ok_Coder_init (k := 0) D_Coder_init  (fun vs H Q E h => by obtain ⟨_, _, rfl, _⟩ := h; rfl) (rd_co_init TT), b_Coder_init, Mk_Coder, G_Coder⟩
  have c_Coder_put : CalM PySem.Challenge.pw_leaps_k20_whiles_within_cleanups w K mg base 1 (He.ga K "Coder") "put" ["self", "row"] (spPut (He.ga K "Coder")) := ⟨_, _, ok_Coder_put (k := 0) D_Coder_put B_len (fun vs H Q E h => by obtain ⟨_, _, _, _, _, _, rfl, _⟩ := h; rfl) (rd_put TT), b_Coder_put, Cl_Coder, Me_Coder_put⟩
  have r_Coder_part : ∀ n, CalM PySem.Challenge.pw_leaps_k20_whiles_within_cleanups w K mg base (1 + 1 * n) (He.ga K "Coder") "part" ["self", "part"] (spPartC K (He.ga K "Coder") n) := by
    intro n
    induction n with
    | zero => exact ⟨_, _, FnOk.zero spPartC_zero, b_Coder_part, Cl_Coder, Me_Coder_part⟩
    | succ n c_Coder_part =>
      have z : CalM PySem.Challenge.pw_leaps_k20_whiles_within_cleanups w K mg base (1 + 1 * n + 0 + 1) (He.ga K "Coder") "part" ["self", "part"] (spPartC K (He.ga K "Coder") (n + 1)) := ⟨_, _, ok_Coder_part (k := 1 + 1 * n + 0) D_Coder_part (c_Coder_put.mono (by omega)) (c_Coder_part.mono (by omega)) (fun vs H Q E h => by obtain ⟨_, _, _, _, _, _, _, _, rfl, _⟩ := h; rfl) (rd_part TT), b_Coder_part, Cl_Coder, Me_Coder_part⟩
      exact z.mono (by omega)
  have c_Coder_part : CalM PySem.Challenge.pw_leaps_k20_whiles_within_cleanups w K mg base (7) (He.ga K "Coder") "part" ["self", "part"] (spPartC K (He.ga K "Coder") 6) := r_Coder_part 6
  have c_Coder_plain : CalM PySem.Challenge.pw_leaps_k20_whiles_within_cleanups w K mg base 8 (He.ga K "Coder") "plain" ["self", "one"] (spPlain K (He.ga K "Coder")) := ⟨_, _, ok_Coder_plain (k := 7) D_Coder_plain (c_Coder_part.mono (by decide)) (c_Coder_put.mono (by decide)) B_len (fun vs H Q E h => by obtain ⟨_, _, _, _, _, _, _, _, _, _, _, _, _, rfl, _⟩ := h; rfl) (rd_plain TT), b_Coder_plain, Cl_Coder, Me_Coder_plain⟩
  have r_Coder_lay : ∀ n, CalM PySem.Challenge.pw_leaps_k20_whiles_within_cleanups w K mg base (8 + 2 * n) (He.ga K "Coder") "lay" ["self", "one", "depth"] (spLay K (He.ga K "Coder") PAny n) := by
    intro n
    induction n with
    | zero => exact ⟨_, _, FnOk.zero spLay_zero, b_Coder_lay, Cl_Coder, Me_Coder_lay⟩
    | succ n c_Coder_lay =>
      have c_Coder_choice : CalM PySem.Challenge.pw_leaps_k20_whiles_within_cleanups w K mg base (8 + 2 * n + 0 + 1) (He.ga K "Coder") "choice" ["self", "one", "depth"] (spLay K (He.ga K "Coder") PIf (n + 1)) := ⟨_, _, ok_Coder_choice (k := 8 + 2 * n + 0) D_Coder_choice (c_Coder_part.mono (by omega)) (c_Coder_put.mono (by omega)) (c_Coder_lay.mono (by omega)) B_len (fun vs H Q E h => by obtain ⟨_, _, _, _, _, _, _, _, _, _, _, _, _, rfl, _⟩ := h; rfl) (rd_choice TT), b_Coder_choice, Cl_Coder, Me_Coder_choice⟩
      have c_Coder_loop : CalM PySem.Challenge.pw_leaps_k20_whiles_within_cleanups w K mg base (8 + 2 * n + 0 + 1) (He.ga K "Coder") "loop" ["self", "one", "depth"] (spLay K (He.ga K "Coder") PWhl (n + 1)) := ⟨_, _, ok_Coder_loop (k := 8 + 2 * n + 0) D_Coder_loop B_len (c_Coder_part.mono (by omega)) (c_Coder_put.mono (by omega)) (c_Coder_lay.mono (by omega)) (fun vs H Q E h => by obtain ⟨_, _, _, _, _, _, _, _, _, _, _, _, _, rfl, _⟩ := h; rfl) (rd_loop TT), b_Coder_loop, Cl_Coder, Me_Coder_loop⟩
      have c_Coder_tried : CalM PySem.Challenge.pw_leaps_k20_whiles_within_cleanups w K mg base (8 + 2 * n + 0 + 1) (He.ga K "Coder") "tried" ["self", "one", "depth"] (spLay K (He.ga K "Coder") PTri (n + 1)) := ⟨_, _, ok_Coder_tried (k := 8 + 2 * n + 0) D_Coder_tried B_len (c_Coder_lay.mono (by omega)) (c_Coder_put.mono (by omega)) (fun vs H Q E h => by obtain ⟨_, _, _, _, _, _, _, _, _, _, _, _, _, rfl, _⟩ := h; rfl) (rd_tried TT), b_Coder_tried, Cl_Coder, Me_Coder_tried⟩
      have c_Coder_cleaned : CalM PySem.Challenge.pw_leaps_k20_whiles_within_cleanups w K mg base (8 + 2 * n + 0 + 1) (He.ga K "Coder") "cleaned" ["self", "one", "depth"] (spLay K (He.ga K "Coder") PCln (n + 1)) := ⟨_, _, ok_Coder_cleaned (k := 8 + 2 * n + 0) D_Coder_cleaned B_len (c_Coder_lay.mono (by omega)) (c_Coder_put.mono (by omega)) (fun vs H Q E h => by obtain ⟨_, _, _, _, _, _, _, _, _, _, _, _, _, rfl, _⟩ := h; rfl) (rd_cleaned TT), b_Coder_cleaned, Cl_Coder, Me_Coder_cleaned⟩
      have z : CalM PySem.Challenge.pw_leaps_k20_whiles_within_cleanups w K mg base (8 + 2 * n + 1 + 1) (He.ga K "Coder") "lay" ["self", "one", "depth"] (spLay K (He.ga K "Coder") PAny (n + 1)) := ⟨_, _, ok_Coder_lay (k := 8 + 2 * n + 1) D_Coder_lay (c_Coder_lay.mono (by omega)) (c_Coder_choice.mono (by omega)) (c_Coder_loop.mono (by omega)) (c_Coder_tried.mono (by omega)) (c_Coder_cleaned.mono (by omega)) (c_Coder_put.mono (by omega)) (c_Coder_plain.mono (by omega)) (fun vs H Q E h => by obtain ⟨_, _, _, _, _, _, _, _, _, _, _, _, _, rfl, _⟩ := h; rfl) (rd_lay TT), b_Coder_lay, Cl_Coder, Me_Coder_lay⟩
      exact z.mono (by omega)
  have c_Coder_lay : CalM PySem.Challenge.pw_leaps_k20_whiles_within_cleanups w K mg base (24) (He.ga K "Coder") "lay" ["self", "one", "depth"] (spLay K (He.ga K "Coder") PAny 8) := r_Coder_lay 8
  have c_coded : Cal PySem.Challenge.pw_leaps_k20_whiles_within_cleanups w K mg base 26 "coded" ["program"] (spCoded (K := K) 8) := ⟨_, _, ok_coded (k := 24) D_coded (c_Coder_init.mono (by decide)) (c_Coder_lay.mono (by decide)) (c_Coder_put.mono (by decide)) B_tuple (c_table_of.mono (by decide)) (fun vs H Q E h => by obtain ⟨_, _, rfl, _⟩ := h; rfl) (rd_coded TT), b_coded, D_coded.kp, G_coded⟩
  have c_law_take : Cal PySem.Challenge.pw_leaps_k20_whiles_within_cleanups w K mg base 1 "_law_take" ["_law_box", "_law_many"] spTake := ⟨_, _, ok_law_take (k := 0) D_law_take  (fun vs H Q E h => by obtain ⟨_, _, _, rfl, _⟩ := h; rfl) rd_take, b_law_take, D_law_take.kp, G__law_take⟩
  have r_law_alike : ∀ n, Cal PySem.Challenge.pw_leaps_k20_whiles_within_cleanups w K mg base (0 + 1 * n) "_law_alike" ["_law_found", "_law_due"] (spAlike K n) := by
    intro n
    induction n with
    | zero => exact ⟨_, _, FnOk.zero spAlike_zero, b_law_alike, D_law_alike.kp, G__law_alike⟩
    | succ n c_law_alike =>
      have z : Cal PySem.Challenge.pw_leaps_k20_whiles_within_cleanups w K mg base (0 + 1 * n + 0 + 1) "_law_alike" ["_law_found", "_law_due"] (spAlike K (n + 1)) := ⟨_, _, ok_law_alike (k := 0 + 1 * n + 0) D_law_alike B_isinstance B_bool B_int B_str B_tuple B_list B_len B_range (c_law_alike.mono (by omega)) (fun vs H Q E h => by obtain ⟨_, _, _, rfl, _⟩ := h; rfl) rd_alike, b_law_alike, D_law_alike.kp, G__law_alike⟩
      exact z.mono (by omega)
  have c_law_alike : Cal PySem.Challenge.pw_leaps_k20_whiles_within_cleanups w K mg base (5) "_law_alike" ["_law_found", "_law_due"] (spAlike K 5) := r_law_alike 5
  have c_law_own : Cal PySem.Challenge.pw_leaps_k20_whiles_within_cleanups w K mg base 2 "_law_own" ["_law_box", "_law_number"] (spOwn K) := ⟨_, _, ok_law_own (k := 1) D_law_own B_range (c_law_take.mono (by decide)) B_tuple (fun vs H Q E h => by obtain ⟨_, _, _, rfl, _⟩ := h; rfl) rd_own, b_law_own, D_law_own.kp, G__law_own⟩
  exact ok_law (k := 26) D_law B_list (c_law_take.mono (by decide)) B_range (c_law_own.mono (by decide)) (c_Machine_init.mono (by decide)) (c_coded.mono (by decide)) (c_law_alike.mono (by decide)) (c_Machine_go.mono (by decide)) (c_Machine_events.mono (by decide)) (fun vs H Q E h => by obtain ⟨_, _, rfl, _⟩ := h; rfl) rd_law
end Lr
open PySem PySem.W PySem.Calls PyProof.Rows
set_option maxRecDepth 100000 in
set_option maxHeartbeats 0 in
theorem PySem.Challenge.cw_leaps_k20_whiles_within_cleanups_holds : PySem.Challenge.rw_leaps_k20_whiles_within_cleanups.Holds := by
  w_on; o_law
  refine HandSHeadRun.head_any (r := OpenLaw.row PySem.Challenge.rw_leaps_k20_whiles_within_cleanups) (q := view (OpenLaw.row PySem.Challenge.rw_leaps_k20_whiles_within_cleanups).prog [20]) (H := Lr.hk) (ob := Lr.ob) (M := 4000) (loose := Lr.loose) (d := HandSHeadRun.topDef (OpenLaw.row PySem.Challenge.rw_leaps_k20_whiles_within_cleanups).prog 20) (kwd := []) Lr.ob_eq
    (by kernel_rfl) (fun s => by kernel_rfl) Lr.run (by kernel_rfl) (by kernel_rfl) (by kernel_rfl) (by rfl) (by first | assumption | decide +kernel) (by decide +kernel) ⟨rfl, rfl, rfl, rfl, rfl, by decide +kernel⟩ ?hw ?hc
  case hw => w_witness2
  case hc =>
    refine L2.walk_ofE (l := PySem.Challenge.rw_leaps_k20_whiles_within_cleanups) (n := 63) (k := 28) (x := "_law_script") (CX := L2.CX0) rfl (by decide) (by kernel_rfl) ⟨rfl, by decide, by decide⟩ ?F (fun _ _ _ _ z => z)
    intro w mg fa h Y G hmg0
    obtain ⟨K, KX, c⟩ := Y
    have hmg : mg ("law" : PySem.Str) = some (.ref fa) := by
      have e : (HandSHeadRun.topDef (OpenLaw.row PySem.Challenge.rw_leaps_k20_whiles_within_cleanups).prog 20).name = ("law" : PySem.Str) := by kernel_rfl
      rw [← e]
      exact hmg0
    obtain ⟨fd, hb, hF⟩ := Lr.facts (w := w) KX G hmg c
    exact ⟨K, fd, Lr.spLaw K, KX, hb, fun H a ns hl _ hS => ⟨a, ns, rfl, hS, hl, fun _ => rfl⟩, hF⟩
