import PyProof.Rows.All
import Wide.All
import OpenK.AllK
import Wide.FinOn
import HandS.ForMost
import HandS.IsInst
import HandS.Wide
import HandS.TupAny
import HandS.Walk
import HandS.Evl
import HandS.Iter
import KE.GoesEnum
import KE.KStateDown
import HandS.WordsExc
import HandS.Defaults
import HandS.Head0
import HandS.Head1
import HandS.Head2
import HandS.HeadEnd
import HandS.HeadHook1
import HandS.HeadHook2
import PySem.Challenge.RW_leaps_k11_whole_walked
set_option Elab.async false
set_option linter.all false
set_option maxRecDepth 100000
set_option maxHeartbeats 4000000
/-! Lb: what every leaps law leans on: callees by name, the growing heap, data at values. -/
namespace Lp
open PySem PySem.Spec PyProof.Rows L2

/-! ### callees -/
/-- a def of the module, by its name, with its promise -/
def Cal (P : Program) (w : World) (K : PySem.W.Frag) (mg : Str → Option Value) (base : Heap) (k : Nat) (x : Str) (ps : List Str) (sp : Sp) : Prop :=
  ∃ f fd, FnOk P w K mg base CX0 k f fd ps sp ∧ Binds K fd ps [] ∧ PySem.W.keepIn K (.ref f) = true ∧ mg x = some (.ref f)
/-- a method of the class at C -/
def CalM (P : Program) (w : World) (K : PySem.W.Frag) (mg : Str → Option Value) (base : Heap) (k : Nat) (C : Addr) (m : Str) (ps : List Str) (sp : Sp) : Prop :=
  ∃ f fd, FnOk P w K mg base CX0 k f fd ps sp ∧ Binds K fd ps [] ∧ Cls K C ∧ Meth K C m f
/-- a class of the module that is made by its own __init__ -/
def CalC (P : Program) (w : World) (K : PySem.W.Frag) (mg : Str → Option Value) (base : Heap) (k : Nat) (x : Str) (C : Addr) (ps : List Str) (sp : Sp) : Prop :=
  ∃ f fd, FnOk P w K mg base CX0 k f fd ps sp ∧ Binds K fd ps [] ∧ Mk K C f ∧ mg x = some (.ref C)
section
variable {P : Program} {w : World} {K : PySem.W.Frag} {mg : Str → Option Value} {base : Heap} {j k : Nat} {x m : Str} {C : Addr} {ps : List Str} {sp sp' : Sp}
theorem Cal.mono (c : Cal P w K mg base j x ps sp) (h : j ≤ k) : Cal P w K mg base k x ps sp :=
  let ⟨f, fd, F, r⟩ := c; ⟨f, fd, F.mono h, r⟩
theorem Cal.imp (c : Cal P w K mg base j x ps sp) (h : ∀ vs H Q E, sp' vs H Q E → sp vs H Q E) : Cal P w K mg base j x ps sp' :=
  let ⟨f, fd, F, r⟩ := c; ⟨f, fd, F.imp h, r⟩
theorem CalM.mono (c : CalM P w K mg base j C m ps sp) (h : j ≤ k) : CalM P w K mg base k C m ps sp :=
  let ⟨f, fd, F, r⟩ := c; ⟨f, fd, F.mono h, r⟩
theorem CalM.imp (c : CalM P w K mg base j C m ps sp) (h : ∀ vs H Q E, sp' vs H Q E → sp vs H Q E) : CalM P w K mg base j C m ps sp' :=
  let ⟨f, fd, F, r⟩ := c; ⟨f, fd, F.imp h, r⟩
theorem CalC.mono (c : CalC P w K mg base j x C ps sp) (h : j ≤ k) : CalC P w K mg base k x C ps sp :=
  let ⟨f, fd, F, r⟩ := c; ⟨f, fd, F.mono h, r⟩
end
section
variable {X : Cx} {k : Nat} {C : Addr} {x m : Str} {ps : List Str} {sp : Sp} {p pos apos : Pos} {e o : Expr} {es : List Expr} {ta : TE} {t : TA}
theorem pc (c : Cal X.prog X.w X.K X.mg X.base k x ps sp) (hr : Room k X.A) (ha : PA X (e :: es) t) (hg : Gl X x := by rfl) (hdb : (x == ("__debug__" : Str)) = false := by decide)
    (he : starEach (e :: es) X.env = (false, eval e X.env) :: starEach es X.env := by rfl) (hpl : (backTo pos (starEach es X.env)).any (·.1) = false := by rfl) : PE X (.Call (.Name x p) (e :: es) [] pos) (tCall sp [] E0 t) := by
  obtain ⟨f, fd, F, b, kp, hm⟩ := c
  exact pe_call F hr hg hm kp b .nil pass0 ha hdb he hpl
theorem pc0 (c : Cal X.prog X.w X.K X.mg X.base k x ps sp) (hr : Room k X.A) (hg : Gl X x := by rfl) (hdb : (x == ("__debug__" : Str)) = false := by decide) : PE X (.Call (.Name x p) [] [] pos) (tCall sp [] E0 tNil) := by
  obtain ⟨f, fd, F, b, kp, hm⟩ := c
  exact pe_call0 F hr hg hm kp b .nil pass0 hdb
theorem pm {pl : Sem Bool} (c : CalM X.prog X.w X.K X.mg X.base k C m ps sp) (hr : Room k X.A) (he : PE X o ta) (ha : PA X (e :: es) t)
    (hst : starEach (e :: es) X.env = (false, eval e X.env) :: starEach es X.env := by rfl) (hpl : (backTo pos (starEach es X.env)).any (·.1) = false := by rfl)
    (ht : eval (.Call (.Attribute o m apos) (e :: es) [] pos) X.env = (do
      let ov ← eval o X.env
      standAt apos.atName
      let (f, first) ← holding [ov] (getMethod ov m pl)
      callWith pos f first (backTo pos (starEach (e :: es) X.env)) (backToKw pos (keywordEach [] X.env))) := by rfl) :
    PE X (.Call (.Attribute o m apos) (e :: es) [] pos) (tMeth C m sp [] E0 ta t) := by
  obtain ⟨f, fd, F, b, cl, hm⟩ := c
  exact pe_meth he cl hm F hr b .nil pass0 ha hst hpl ht
theorem pm0 {pl : Sem Bool} (c : CalM X.prog X.w X.K X.mg X.base k C m ps sp) (hr : Room k X.A) (he : PE X o ta)
    (ht : eval (.Call (.Attribute o m apos) [] [] pos) X.env = (do
      let ov ← eval o X.env
      standAt apos.atName
      let (f, first) ← holding [ov] (getMethod ov m pl)
      callWith pos f first (backTo pos (starEach [] X.env)) (backToKw pos (keywordEach [] X.env))) := by rfl) :
    PE X (.Call (.Attribute o m apos) [] [] pos) (tMeth C m sp [] E0 ta tNil) := by
  obtain ⟨f, fd, F, b, cl, hm⟩ := c
  exact pe_meth0 he cl hm F hr b .nil pass0 ht
theorem pk (c : CalC X.prog X.w X.K X.mg X.base k x C ps sp) (hr : Room (k + 1) X.A) (ha : PA X (e :: es) t) (hg : Gl X x := by rfl) (hdb : (x == ("__debug__" : Str)) = false := by decide)
    (he : starEach (e :: es) X.env = (false, eval e X.env) :: starEach es X.env := by rfl) (hpl : (backTo pos (starEach es X.env)).any (·.1) = false := by rfl) : PE X (.Call (.Name x p) (e :: es) [] pos) (tMake C sp [] E0 t) := by
  obtain ⟨f, fd, F, b, M, hm⟩ := c
  exact pe_make M F hr hg hm b .nil pass0 ha hdb he hpl
theorem pk0 (c : CalC X.prog X.w X.K X.mg X.base k x C ps sp) (hr : Room (k + 1) X.A) (hg : Gl X x := by rfl) (hdb : (x == ("__debug__" : Str)) = false := by decide) : PE X (.Call (.Name x p) [] [] pos) (tMake C sp [] E0 tNil) := by
  obtain ⟨f, fd, F, b, M, hm⟩ := c
  exact pe_make0 M F hr hg hm b .nil pass0 hdb
end

/-! ### short names of readings -/
abbrev rAdI : R2 := rI0 fun i j => .int (i + j)
abbrev rSbI : R2 := rI0 fun i j => .int (i - j)
abbrev rMlI : R2 := rI CMul fun i j => .int (i * j)
abbrev rDvW : R2 := rI CDivW fun i j => .int (i / j)
abbrev rMdI : R2 := rI (fun _ j => 0 < j) fun i j => .int (i % j)
abbrev rLt : R2 := rI0 fun i j => .bl (decide (i < j))
abbrev rLe : R2 := rI0 fun i j => .bl (decide (i ≤ j))
abbrev rGt : R2 := rI0 fun i j => .bl (decide (j < i))
abbrev rGe : R2 := rI0 fun i j => .bl (decide (j ≤ i))
abbrev rIsN : R2 := fun x y H Q => y = .non ∧ Q (.bl (decide (x = .non))) H
abbrev rNtN : R2 := fun x y H Q => y = .non ∧ Q (.bl (!decide (x = .non))) H
abbrev rNeg : V → Hp → VK → Prop := rU fun i => .int (-i)
abbrev rCatS : R2 := fun x y H Q => ∃ i j, x = .str i ∧ y = .str j ∧ i.length + j.length ≤ sizeLine ∧ Q (.str (i ++ j)) H
abbrev rInt1 : List V → Hp → VK → Prop := fun xs H Q => (∃ i, xs = [.int i] ∧ Q (.int i) H) ∨ ∃ k, xs = [.bl k] ∧ Q (.int (if k then 1 else 0)) H
abbrev rLenQ (K : PySem.W.Frag) : List V → Hp → VK → Prop := fun xs H Q => ∃ p ys, xs = [.ref p] ∧ (SqL K H p ys ∨ SqT K H p ys) ∧ Q (.int ys.length) H
abbrev rTupOf (K : PySem.W.Frag) : List V → Hp → VK → Prop := fun xs H Q => ∃ p ys, xs = [.ref p] ∧ ((SqL K H p ys ∧ ∀ l, H l = none → Q (.ref l) (upd H l (.tup ys))) ∨ (SqT K H p ys ∧ Q (.ref p) H))
abbrev rLstOf (K : PySem.W.Frag) : List V → Hp → VK → Prop := fun xs H Q => ∃ p ys, xs = [.ref p] ∧ (SqL K H p ys ∨ SqT K H p ys) ∧ ∀ l, H l = none → Q (.ref l) (upd H l (.lst ys))

/-! ### the heap grows: all but the objects in B stands as it stood -/
def Kp (B : Addr → Prop) (H H' : Hp) : Prop := ∀ a o, H a = some o → ¬ B a → H' a = some o
theorem Kp.refl (B : Addr → Prop) (H : Hp) : Kp B H H := fun _ _ h _ => h
theorem Kp.trans {B : Addr → Prop} {H H1 H2 : Hp} (a : Kp B H H1) (b : Kp B H1 H2) : Kp B H H2 := fun x o h n => b x o (a x o h n) n
theorem Kp.mono {B B' : Addr → Prop} {H H' : Hp} (a : Kp B H H') (h : ∀ x, B x → B' x) : Kp B' H H' := fun x o e n => a x o e fun z => n (h x z)
theorem Kp.same {B : Addr → Prop} {H H' : Hp} (a : Same H H') : Kp B H H' := fun x o e _ => a x o e
theorem Kp.new {B : Addr → Prop} {H : Hp} {p : Addr} {o : HO} (h : H p = none) : Kp B H (upd H p o) := fun x u e _ => by rw [upd_ne (ne_of_none e h)]; exact e
theorem Kp.upd {B : Addr → Prop} {H : Hp} {p : Addr} {o : HO} (h : B p) : Kp B H (upd H p o) := fun x u e n => by
  rw [upd_ne (fun z => n (by rw [z]; exact h))]; exact e
/-- behind a change of what was not there at the start -/
theorem Kp.late {B : Addr → Prop} {H H1 : Hp} {p : Addr} {o : HO} (a : Kp B H H1) (h : H p = none) : Kp B H (L2.upd H1 p o) := fun x u e n => by
  rw [upd_ne (ne_of_none e h)]; exact a x u e n
theorem Kp.at {B : Addr → Prop} {H H' : Hp} {a : Addr} {o : HO} (k : Kp B H H') (h : H a = some o) (n : ¬ B a) : H' a = some o := k a o h n
/-- a place that is free behind was free ahead (unless in B) -/
theorem Kp.free {B : Addr → Prop} {H H' : Hp} (k : Kp B H H') {l : Addr} (h : H' l = none) (n : ¬ B l) : H l = none := by
  cases q : H l with
  | none => rfl
  | some o => rw [k l o q n] at h; cases h
/-- only what may change stands in B -/
def NoTup (B : Addr → Prop) (H : Hp) : Prop := ∀ a, B a → ∃ o, H a = some o ∧ (∀ xs, o ≠ .tup xs) ∧ ∀ ob u, o ≠ .frz ob u
theorem Kp.sqT {B : Addr → Prop} {K : PySem.W.Frag} {H H' : Hp} {a : Addr} {xs : List V} (k : Kp B H H') (nt : NoTup B H) (h : SqT K H a xs) : SqT K H' a xs := by
  rcases h with (h | ⟨o, h⟩) | h
  · refine .inl (.inl (k _ _ h fun z => ?_))
    obtain ⟨u, e, n, _⟩ := nt a z
    rw [h] at e; cases e; exact n _ rfl
  · refine .inl (.inr ⟨o, k _ _ h fun z => ?_⟩)
    obtain ⟨u, e, _, n⟩ := nt a z
    rw [h] at e; cases e; exact n _ _ rfl
  · exact .inr h
theorem Kp.sqL {B : Addr → Prop} {K : PySem.W.Frag} {H H' : Hp} {a : Addr} {xs : List V} (k : Kp B H H') (n : ¬ B a) (h : SqL K H a xs) : SqL K H' a xs := by
  rcases h with (h | ⟨o, h⟩) | h
  · exact .inl (.inl (k _ _ h n))
  · exact .inl (.inr ⟨o, k _ _ h n⟩)
  · exact .inr h

/-! ### decided tests -/
theorem ifT {A B : Prop} {c : Bool} (e : c = true) (h : A) : if c = true then A else B := by rw [if_pos e]; exact h
theorem ifF {A B : Prop} {c : Bool} (e : c = false) (h : B) : if c = true then A else B := by rw [if_neg (by rw [e]; decide)]; exact h
theorem ifB {A B : Prop} {c : Bool} (h1 : c = true → A) (h2 : c = false → B) : if c = true then A else B := by
  cases e : c with
  | true => exact ifT rfl (h1 e)
  | false => exact ifF rfl (h2 e)
theorem dT {p : Prop} [Decidable p] (h : p) : decide p = true := decide_eq_true h
theorem dF {p : Prop} [Decidable p] (h : ¬ p) : decide p = false := decide_eq_false h
end Lp

/-! L1: take, kinds, above, under. -/
namespace Lp
open PySem PySem.Spec PyProof.Rows L2
def t_law_take (K : PySem.W.Frag) : TS :=
  tSeq (tIfS (tTest (tOp (rEqD K) (tVar 0) (tLst (tNil)))) (tRet (tC (.int 0))) (tNext)) (tSeq (tAsg (tOp (rIxL K) (tVar 0) (tC (.int 0))) (gName 2)) (tSeq (tAsg (tOp rDvW (tVar 2) (tVar 1)) (gSub (tVar 0) (tC (.int 0)) rSetL)) (tSeq (tIfS (tOr (tTest (tOp rEq (tOp (rIxL K) (tVar 0) (tC (.int 0))) (tC (.int 0)))) (tTest (tOp rEq (tOp (rIxL K) (tVar 0) (tC (.int 0))) (tUn rNeg (tC (.int 1)))))) (tDrop (tBM K "list" rPopAt (tVar 0) (tCons (tC (.int 0)) (tNil)))) (tNext)) (tRet (tOp rMdI (tVar 2) (tVar 1))))))

def t_law_kinds (K : PySem.W.Frag) (sp_law_take : Sp) : TS :=
  tSeq (tAsg (tLst (tNil)) (gName 2)) (tSeq (tFor (iRng1 (tCons (tOp rAdI (tC (.int 1)) (tCall sp_law_take [] E0 (tCons (tVar 0) (tCons (tVar 1) (tNil))))) (tNil))) (gName 3) (tSeq (tAsg (tCall sp_law_take [] E0 (tCons (tVar 0) (tCons (tOp rAdI (tVar 3) (tC (.int 1))) (tNil)))) (gName 4)) (tDrop (tBM K "list" rAppend (tVar 2) (tCons (tOp (rIxL K) (tLst (tCons (tC .non) (tCons (tOp rSbI (tVar 4) (tC (.int 1))) (tNil)))) (tCB rInt1 (tCons (tOp rGt (tVar 4) (tC (.int 0))) (tNil)))) (tNil)))))) (tRet (tCB (rTupOf K) (tCons (tVar 2) (tNil)))))

def t_law_above (K : PySem.W.Frag) : TS :=
  tSeq (tAsg (tLst (tCons (tVar 1) (tNil))) (gName 2)) (tSeq (tFor (iRng1 (tCons (tCB (rLenQ K) (tCons (tVar 0) (tNil))) (tNil))) (gName 3) (tSeq (tAsg (tOp (rIxT K) (tVar 0) (tOp (rIxL K) (tVar 2) (tUn rNeg (tC (.int 1))))) (gName 4)) (tIfS (tTest (tOp rNtN (tVar 4) (tC .non))) (tDrop (tBM K "list" rAppend (tVar 2) (tCons (tVar 4) (tNil)))) (tNext)))) (tRet (tVar 2)))

def t_under (K : PySem.W.Frag) : TS :=
  tSeq (tWhile (tAnd (tTest (tOp rNtN (tVar 1) (tC .non))) (tTest (tOp rNe (tVar 1) (tVar 2)))) (tAsg (tOp (rIxT K) (tVar 0) (tVar 1)) (gName 1))) (tRet (tOp rNtN (tVar 1) (tC .non)))

theorem sz_lt1 {n : Nat} (h : n < 1000000) : n < sizeLine := Nat.lt_of_lt_of_le h (by decide)
theorem sz_le1 {n : Nat} (h : n ≤ 1000000) : n ≤ sizeLine := Nat.le_trans h (by decide)
abbrev N_law_take : List Str := ["_law_box", "_law_many", "_law_number"]

theorem dp_ints {K : PySem.W.Frag} {H : Hp} : ∀ l : List Int, DpAll K H (l.map V.int) (l.map PyData.int)
  | [] => .nil
  | i :: r => .cons (.int i) (dp_ints r)
theorem lay_ints : ∀ l : List Int, PyData.canLayAll0 (l.map PyData.int) = true
  | [] => rfl
  | i :: r => by simp [PyData.canLayAll0, PyData.canLay0, lay_ints r]
theorem dep_ints : ∀ l : List Int, PyData.depthAll (l.map PyData.int) ≤ 1
  | [] => by simp [PyData.depthAll]
  | i :: r => by have := dep_ints r; simp [PyData.depthAll, PyData.depth]; omega
theorem shaped_ints (l : List Int) : SeqAt.shaped (.list (l.map PyData.int)) = true := by
  have := dep_ints l
  simp [SeqAt.shaped, PyData.canLay0, lay_ints, PyData.depth]
  omega
theorem eqv_ints_nil (l : List Int) : PyData.eqv (.list (l.map PyData.int)) (.list []) = l.isEmpty := by
  cases l <;> simp [PyData.eqv, PyData.eqvAll]

theorem ixN_n {n j : Nat} (hj : j < n) : ixN n (j : Int) = some j := by
  unfold ixN
  rw [if_pos (by omega), if_pos (by omega)]
  simp
theorem seq0 {n : Nat} : seqIndex? 0 (n + 1) = some 0 := by
  unfold seqIndex?
  simp
/-- the box: a list of ints at b -/
def spTake : Sp := fun vs H Q _ => ∃ (b : Addr) (l : List Int) (m : Int), vs = [.ref b, .int m] ∧ H b = some (.lst (l.map V.int)) ∧ 0 < m ∧ m ≤ 2000000 ∧
  ∀ (r : Int) (l' : List Int) (H' : Hp), 0 ≤ r → r < m → H' b = some (.lst (l'.map V.int)) → Kp (fun x => x = b) H H' → Q (.int r) H'

theorem rd_take {K : PySem.W.Frag} (vs : List V) (H : Hp) (Q : VK) (E : XK) (h : spTake vs H Q E) : t_law_take K { nx := fun _ H' => Q .non H', rt := Q } (start N_law_take vs) H := by
  obtain ⟨b, l, m, rfl, hb, hm, hm2, k⟩ := h
  refine ⟨_, rfl, (by show (0 : Nat) ≤ sizeLine; decide), fun p hp => ?_⟩
  have hb1 : L2.upd H p (.lst []) b = some (.lst (l.map V.int)) := by rw [upd_ne (ne_of_none hb hp)]; exact hb
  refine ⟨_, _, .lst (SqL.of hb1) (dp_ints l), .lst (SqL.of upd_same) .nil, shaped_ints l, rfl, _, rfl, ?_⟩
  rw [eqv_ints_nil]
  refine ifB (fun e => ?_) (fun e => ?_)
  · exact k 0 l _ (by omega) hm hb1 (Kp.new hp)
  · cases l with
    | nil => cases e
    | cons x r =>
      refine ⟨_, rfl, b, _, 0, .int x, rfl, rfl, SqL.of hb1, atI_nat (j := 0) rfl, ?_⟩
      refine ⟨_, rfl, _, rfl, x, m, rfl, rfl, wide_div (b := 30) hm (by omega) (by decide) (by decide), ?_⟩
      refine ⟨_, rfl, b, _, 0, 0, rfl, rfl, hb1, ixN_n (j := 0) (Nat.succ_pos _), ?_⟩
      have hb2 : L2.upd (L2.upd H p (.lst [])) b (.lst ((V.int (x / m)) :: r.map V.int)) b = some (.lst ((V.int (x / m)) :: r.map V.int)) := upd_same
      have kp : Kp (fun y => y = b) H (L2.upd (L2.upd H p (.lst [])) b (.lst ((V.int (x / m)) :: r.map V.int))) := (Kp.new hp).trans (Kp.upd rfl)
      have fin : ∀ H', ((∃ l' : List Int, H' b = some (.lst (l'.map V.int))) ∧ Kp (fun y => y = b) H H') → (tRet (tOp rMdI (tVar 2) (tVar 1))) { nx := fun _ H' => Q .non H', rt := Q } [some (.ref b), some (.int m), some (.int x)] H' := by
        intro H' ⟨⟨l', e⟩, kp'⟩
        exact ⟨_, rfl, _, rfl, x, m, rfl, rfl, hm, k _ l' H' (Int.emod_nonneg _ (by omega)) (Int.emod_lt_of_pos _ hm) e kp'⟩
      have pop : (tSeq (tDrop (tBM K "list" rPopAt (tVar 0) (tCons (tC (.int 0)) tNil))) (tRet (tOp rMdI (tVar 2) (tVar 1)))) { nx := fun _ H' => Q .non H', rt := Q } [some (.ref b), some (.int m), some (.int x)] (L2.upd (L2.upd H p (.lst [])) b (.lst ((V.int (x / m)) :: r.map V.int))) := by
        refine ⟨_, rfl, .inl ⟨rfl, _, SqL.of hb2⟩, b, _, 0, 0, _, rfl, rfl, hb2, by decide, by decide, seq0, rfl, ?_⟩
        exact fin _ ⟨⟨r, upd_same⟩, kp.trans (Kp.upd rfl)⟩
      have go : (tRet (tOp rMdI (tVar 2) (tVar 1))) { nx := fun _ H' => Q .non H', rt := Q } [some (.ref b), some (.int m), some (.int x)] (L2.upd (L2.upd H p (.lst [])) b (.lst ((V.int (x / m)) :: r.map V.int))) := fin _ ⟨⟨(x / m) :: r, hb2⟩, kp⟩
      refine ⟨_, rfl, b, _, 0, _, rfl, rfl, SqL.of hb2, atI_nat (j := 0) rfl, rfl, _, rfl, ifB (fun _ => pop) fun _ => ?_⟩
      refine ⟨_, rfl, b, _, 0, _, rfl, rfl, SqL.of hb2, atI_nat (j := 0) rfl, _, rfl, rfl, _, rfl, ifB (fun _ => pop) fun _ => go⟩

/-! ### heaps that grow alone -/
theorem _root_.L2.Same.sqT {K : PySem.W.Frag} {H H' : Hp} {a : Addr} {xs : List V} (e : Same H H') (h : SqT K H a xs) : SqT K H' a xs := by
  rcases h with (h | ⟨o, h⟩) | h
  · exact .inl (.inl (e _ _ h))
  · exact .inl (.inr ⟨o, e _ _ h⟩)
  · exact .inr h
/-! ### kinds -/
def kindV : Option Nat → V
  | none => .non
  | some j => .int (j : Int)
def WfK (ks : List (Option Nat)) : Prop := ∀ (i j : Nat), ks[i]? = some (some j) → j < i
abbrev N_law_kinds : List Str := ["_law_box", "_law_most", "_law_kinds_here", "_law_k", "_law_above_here"]
def spKinds : Sp := fun vs H Q _ => ∃ (b : Addr) (l : List Int) (m : Int), vs = [.ref b, .int m] ∧ H b = some (.lst (l.map V.int)) ∧ 0 < m ∧ m ≤ 1000 ∧
  ∀ (a : Addr) (ks : List (Option Nat)) (l' : List Int) (H' : Hp), WfK ks → 0 < ks.length → (ks.length : Int) ≤ m → H' a = some (.tup (ks.map kindV)) → H a = none → H' b = some (.lst (l'.map V.int)) → Kp (fun x => x = b) H H' → Q (.ref a) H'
theorem WfK.snoc {ks : List (Option Nat)} (w : WfK ks) {o : Option Nat} (h : ∀ j, o = some j → j < ks.length) : WfK (ks ++ [o]) := by
  intro i j e
  by_cases hi : i < ks.length
  · rw [List.getElem?_append_left hi] at e
    exact w i j e
  · rw [List.getElem?_append_right (by omega)] at e
    have hi2 : i = ks.length := by
      have := (List.getElem?_eq_some_iff.mp e).1
      simp at this
      omega
    subst hi2
    simp at e
    exact h j e
theorem rd_kinds {K : PySem.W.Frag} (vs : List V) (H : Hp) (Q : VK) (E : XK) (h : spKinds vs H Q E) : t_law_kinds K spTake { nx := fun _ H' => Q .non H', rt := Q } (start N_law_kinds vs) H := by
  obtain ⟨b, l, m, rfl, hb, hm, hm2, k⟩ := h
  refine ⟨(by show (0 : Nat) ≤ sizeLine; decide), fun p hp => ?_⟩
  have hb1 : L2.upd H p (.lst []) b = some (.lst (l.map V.int)) := by rw [upd_ne (ne_of_none hb hp)]; exact hb
  refine ⟨_, rfl, _, rfl, b, l, m, rfl, hb1, hm, by omega, fun r l1 H1 h0 h1 hb2 kp1 => ?_⟩
  have kpH : Kp (fun x => x = b) H H1 := (Kp.new hp).trans kp1
  have pb : p ≠ b := fun e => by rw [e, hb] at hp; cases hp
  refine ⟨_, _, rfl, rfl, _, rfl, by omega, by omega, for_range (lo := 0) (n := (1 + r).toNat) (fun i σ H2 => ∃ (ks : List (Option Nat)) (l2 : List Int) (v3 v4 : Option V), σ = [some (.ref b), some (.int m), some (.ref p), v3, v4] ∧
      ks.length = i ∧ WfK ks ∧ H2 p = some (.lst (ks.map kindV)) ∧ H2 b = some (.lst (l2.map V.int)) ∧ Kp (fun x => x = b) H H2)
    ⟨[], l1, none, none, rfl, rfl, (by intro i j e; simp at e), kp1 p _ upd_same pb, hb2, kpH⟩ ?_ ?_⟩
  · rintro i σ H2 hi ⟨ks, l2, v3, v4, rfl, hl, wf, hp2, hb3, kp2⟩
    refine ⟨_, rfl, _, rfl, _, _, rfl, rfl, b, l2, _, rfl, hb3, by omega, by omega, fun x l3 H3 x0 x1 hb4 kp3 => ?_⟩
    have hp3 := kp3 p _ hp2 pb
    refine ⟨_, rfl, .inl ⟨rfl, _, SqL.of hp3⟩, _, rfl, _, _, rfl, rfl, (by show (2 : Nat) ≤ sizeLine; decide), fun q hq => ?_⟩
    have pq : p ≠ q := ne_of_none hp3 hq
    have bq : b ≠ q := ne_of_none hb4 hq
    have fin : ∀ (o : Option Nat), (∀ j, o = some j → j < ks.length) → (0 : Nat) < 1 → ks.length < sizeLine ∧ (∃ (ks' : List (Option Nat)) (l2 : List Int) (v3 v4 : Option V), [some (V.ref b), some (.int m), some (.ref p), some (.int (0 + (i : Int))), some (.int x)] = [some (.ref b), some (.int m), some (.ref p), v3, v4] ∧
      ks'.length = i + 1 ∧ WfK ks' ∧ (L2.upd (L2.upd H3 q (.lst [.non, .int (x - 1)])) p (.lst (ks.map kindV ++ [kindV o]))) p = some (.lst (ks'.map kindV)) ∧ (L2.upd (L2.upd H3 q (.lst [.non, .int (x - 1)])) p (.lst (ks.map kindV ++ [kindV o]))) b = some (.lst (l2.map V.int)) ∧ Kp (fun x => x = b) H (L2.upd (L2.upd H3 q (.lst [.non, .int (x - 1)])) p (.lst (ks.map kindV ++ [kindV o])))) := by
      intro o ho _
      refine ⟨sz_lt1 (by omega), ks ++ [o], l3, _, _, rfl, by simp; omega, wf.snoc ho, by rw [upd_same, List.map_append]; rfl, by rw [upd_ne pb.symm, upd_ne bq]; exact hb4, ?_⟩
      exact ((kp2.trans kp3).trans (Kp.new hq)).late hp
    refine ⟨_, rfl, _, _, rfl, rfl, .inr ⟨_, rfl, ?_⟩⟩
    by_cases hx : 0 < x
    · have e1 : (if decide ((0 : Int) < x) = true then (1 : Int) else 0) = 1 := by rw [if_pos (decide_eq_true hx)]
      rw [e1]
      obtain ⟨z1, z2⟩ := fin (some (x - 1).toNat) (fun j e => by cases e; omega) (by decide)
      have e2 : V.int (x - 1) = kindV (some (x - 1).toNat) := by show V.int (x - 1) = V.int ((x - 1).toNat : Int); rw [Int.toNat_of_nonneg (by omega)]
      refine ⟨q, _, 1, .int (x - 1), rfl, rfl, SqL.of upd_same, atI_nat (j := 1) rfl, p, ks.map kindV, _, rfl, rfl, by rw [upd_ne pq]; exact hp3, by rw [List.length_map]; exact z1, ?_⟩
      rw [← e2] at z2
      exact z2
    · have e1 : (if decide ((0 : Int) < x) = true then (1 : Int) else 0) = 0 := by rw [if_neg (by rw [decide_eq_false hx]; decide)]
      rw [e1]
      obtain ⟨z1, z2⟩ := fin none (fun j e => by cases e) (by decide)
      exact ⟨q, _, 0, .non, rfl, rfl, SqL.of upd_same, atI_nat (j := 0) rfl, p, ks.map kindV, _, rfl, rfl, by rw [upd_ne pq]; exact hp3, by rw [List.length_map]; exact z1, z2⟩
  · rintro σ H2 ⟨ks, l2, v3, v4, rfl, hl, wf, hp2, hb3, kp2⟩
    refine ⟨_, rfl, p, _, rfl, .inl ⟨SqL.of hp2, fun q hq => ?_⟩⟩
    have bq : b ≠ q := ne_of_none hb3 hq
    exact k q ks l2 _ wf (by omega) (by omega) upd_same (kp2.free hq fun e => bq e.symm) (by rw [upd_ne bq]; exact hb3) (kp2.trans (Kp.new hq))
/-! ### above, under -/
/-- the kinds that one comes to by going up -/
def chain (ks : List (Option Nat)) : Nat → Nat → List Nat
  | 0, _ => []
  | f + 1, k => k :: (match ks[k]? with
    | some (some j) => chain ks f j
    | _ => [])
theorem chain_fuel {ks : List (Option Nat)} (w : WfK ks) : ∀ (f g k : Nat), k < f → k < g → chain ks f k = chain ks g k
  | 0, _, _, h, _ => absurd h (Nat.not_lt_zero _)
  | _, 0, _, _, h => absurd h (Nat.not_lt_zero _)
  | f + 1, g + 1, k, hf, hg => by
    unfold chain
    cases e : ks[k]? with
    | none => rfl
    | some o =>
      cases o with
      | none => rfl
      | some j =>
        have := w k j e
        show k :: chain ks f j = k :: chain ks g j
        rw [chain_fuel w f g j (by omega) (by omega)]
/-- kind k is other, or lies under it -/
def under (ks : List (Option Nat)) (k o : Nat) : Bool := decide (o ∈ chain ks (k + 1) k)
theorem under_eq {ks : List (Option Nat)} (w : WfK ks) (k o : Nat) : under ks k o = (decide (k = o) || match ks[k]? with
    | some (some j) => under ks j o
    | _ => false) := by
  unfold under
  conv => lhs; unfold chain
  cases e : ks[k]? with
  | none => simp [eq_comm]
  | some q =>
    cases q with
    | none => simp [eq_comm]
    | some j =>
      have := w k j e
      show decide (o ∈ k :: chain ks k j) = (decide (k = o) || decide (o ∈ chain ks (j + 1) j))
      rw [chain_fuel w k (j + 1) j (by omega) (by omega)]
      simp [eq_comm]
/-- under(kinds, kind, other): kinds at a -/
def spUnder (K : PySem.W.Frag) : Sp := fun vs H Q _ => ∃ (a : Addr) (ks : List (Option Nat)) (k o : Nat), vs = [.ref a, .int (k : Int), .int (o : Int)] ∧ SqT K H a (ks.map kindV) ∧ WfK ks ∧ k < ks.length ∧ Q (.bl (under ks k o)) H
abbrev N_under : List Str := ["kinds", "kind", "other"]
theorem rd_under {K : PySem.W.Frag} (vs : List V) (H : Hp) (Q : VK) (E : XK) (h : spUnder K vs H Q E) : t_under K { nx := fun _ H' => Q .non H', rt := Q } (start N_under vs) H := by
  obtain ⟨a, ks, k, o, rfl, hS, wf, hk, q⟩ := h
  refine ⟨fun m σ H' => H' = H ∧ ∃ c : Option Nat, σ = [some (.ref a), some (kindV c), some (.int (o : Int))] ∧ (∀ j, c = some j → j < ks.length ∧ under ks j o = under ks k o) ∧ (c = none → under ks k o = false) ∧ m = (match c with
      | some j => j + 1
      | none => 0), ⟨_, rfl, some k, rfl, (fun j e => by cases e; exact ⟨hk, rfl⟩), (fun e => by cases e), rfl⟩, ?_⟩
  rintro m σ H' ⟨rfl, c, rfl, h1, h2, rfl⟩
  refine ⟨_, rfl, rfl, _, rfl, ?_⟩
  cases c with
  | none =>
    refine ifF rfl (ifF rfl ?_)
    refine ⟨_, rfl, rfl, ?_⟩
    show Q (.bl (!decide (V.non = V.non))) H'
    rw [dT rfl, ← show under ks k o = !true from h2 rfl]
    exact q
  | some j =>
    obtain ⟨hj, ej⟩ := h1 j rfl
    refine ifT rfl ⟨_, rfl, _, rfl, rfl, _, rfl, ?_⟩
    refine ifB (fun e => ?_) (fun e => ?_)
    · have ne : j ≠ o := fun z => by
        rw [z] at e
        simp [kindV] at e
      cases e2 : ks[j]? with
      | none => exact absurd (List.getElem?_eq_none_iff.mp e2) (by omega)
      | some d =>
        refine ⟨fun σ' H2 => ∃ m', m' < j + 1 ∧ (H2 = H' ∧ ∃ c : Option Nat, σ' = [some (.ref a), some (kindV c), some (.int (o : Int))] ∧ (∀ j, c = some j → j < ks.length ∧ under ks j o = under ks k o) ∧ (c = none → under ks k o = false) ∧ m' = (match c with
          | some j => j + 1
          | none => 0)), fun _ _ z => z, ?_⟩
        have eu := under_eq wf j o
        rw [ej, e2, decide_eq_false ne, Bool.false_or] at eu
        refine ⟨_, rfl, _, rfl, a, _, _, kindV d, rfl, rfl, hS, atI_nat (j := j) (by rw [List.getElem?_map, e2]; rfl), ?_⟩
        cases d with
        | none => exact ⟨0, by omega, rfl, none, rfl, (fun _ z => by cases z), (fun _ => eu), rfl⟩
        | some d =>
          have := wf j d e2
          exact ⟨d + 1, by omega, rfl, some d, rfl, (fun _ z => by cases z; exact ⟨by omega, eu.symm⟩), (fun z => by cases z), rfl⟩
    · have eo : j = o := by
        simp [kindV] at e
        omega
      subst eo
      have eu := under_eq wf j j
      rw [ej, dT rfl, Bool.true_or] at eu
      refine ⟨_, rfl, rfl, ?_⟩
      show Q (.bl (!decide (kindV (some j) = V.non))) H'
      rw [dF (by intro z; cases z)]
      rw [eu] at q
      exact q
/-- _law_above(kinds, kind) -/
def spAbove (K : PySem.W.Frag) : Sp := fun vs H Q _ => ∃ (a : Addr) (ks : List (Option Nat)) (k : Nat), vs = [.ref a, .int (k : Int)] ∧ SqT K H a (ks.map kindV) ∧ WfK ks ∧ k < ks.length ∧ ks.length ≤ 1000 ∧
  ∀ (r : Addr) (row : List Nat) (H' : Hp), (∀ o, o ∈ row ↔ under ks k o = true) → H r = none → H' r = some (.lst (row.map fun n : Nat => V.int (n : Int))) → Same H H' → Q (.ref r) H'
abbrev N_law_above : List Str := ["_law_kinds_here", "_law_kind", "_law_row", "_law_k", "_law_last"]
theorem rd_above {K : PySem.W.Frag} (vs : List V) (H : Hp) (Q : VK) (E : XK) (h : spAbove K vs H Q E) : t_law_above K { nx := fun _ H' => Q .non H', rt := Q } (start N_law_above vs) H := by
  obtain ⟨a, ks, k, rfl, hS, wf, hk, hz, q⟩ := h
  refine ⟨_, rfl, (by show (1 : Nat) ≤ sizeLine; decide), fun p hp => ?_⟩
  have s0 : ∀ {o : HO}, Same H (L2.upd H p o) := fun b u e => by rw [upd_ne (ne_of_none e hp)]; exact e
  refine ⟨_, rfl, a, _, rfl, .inr (s0.sqT hS), _, rfl, by omega, by rw [List.length_map]; omega, ?_⟩
  rw [List.length_map, Int.toNat_natCast]
  refine for_range (lo := 0) (n := ks.length) (fun i σ H2 => ∃ (row : List Nat) (c : Nat) (v3 v4 : Option V), σ = [some (.ref a), some (.int (k : Int)), some (.ref p), v3, v4] ∧
      H2 p = some (.lst ((row ++ [c]).map fun n : Nat => V.int (n : Int))) ∧ Same H H2 ∧ c < ks.length ∧ row.length ≤ i ∧ (∀ o, under ks k o = true ↔ (o ∈ row ∨ under ks c o = true)) ∧ (ks[c]? = some none ∨ c + i < ks.length))
    ⟨[], k, none, none, rfl, upd_same, s0, hk, Nat.le_refl _, by simp, .inr (by omega)⟩ ?_ ?_
  · rintro i σ H2 hi ⟨row, c, v3, v4, rfl, hp2, s2, hc, hl, hu, ht⟩
    have hp2' : H2 p = some (.lst (row.map (fun n : Nat => V.int (n : Int)) ++ [V.int (c : Int)])) := by rw [hp2, List.map_append]; rfl
    cases e : ks[c]? with
    | none => exact absurd (List.getElem?_eq_none_iff.mp e) (by omega)
    | some d =>
      refine ⟨_, rfl, _, rfl, _, rfl, p, _, -1, .int (c : Int), rfl, rfl, SqL.of hp2', atI_last _ _, a, _, _, kindV d, rfl, rfl, s2.sqT hS, atI_nat (j := c) (by rw [List.getElem?_map, e]; rfl), ?_⟩
      refine ⟨_, rfl, rfl, _, rfl, ?_⟩
      have eu := fun o => under_eq wf c o
      cases d with
      | none =>
        refine ifF rfl ?_
        exact ⟨row, c, _, _, rfl, hp2, s2, hc, by omega, hu, .inl e⟩
      | some d =>
        have hd := wf c d e
        refine ifT rfl ⟨_, rfl, .inl ⟨rfl, _, SqL.of hp2⟩, _, rfl, p, _, _, rfl, rfl, hp2, sz_lt1 (by simp; omega), ?_⟩
        refine ⟨row ++ [c], d, _, _, rfl, by rw [upd_same]; simp [kindV], fun b u z => by rw [upd_ne (ne_of_none z hp)]; exact s2 b u z, by omega, by simp; omega, fun o => ?_, ?_⟩
        · have e1 := eu o
          rw [e] at e1
          rw [hu o, e1]
          simp only [Bool.or_eq_true, decide_eq_true_eq, List.mem_append, List.mem_singleton]
          constructor
          · rintro (z | z | z)
            · exact .inl (.inl z)
            · exact .inl (.inr z.symm)
            · exact .inr z
          · rintro ((z | z) | z)
            · exact .inl z
            · exact .inr (.inl z.symm)
            · exact .inr (.inr z)
        · rcases ht with ht | ht
          · rw [e] at ht; cases ht
          · exact .inr (by omega)
  · rintro σ H2 ⟨row, c, v3, v4, rfl, hp2, s2, hc, hl, hu, ht⟩
    have hroot : ks[c]? = some none := by
      rcases ht with ht | ht
      · exact ht
      · omega
    refine ⟨_, rfl, q p (row ++ [c]) H2 (fun o => ?_) hp hp2 s2⟩
    have eu := under_eq wf c o
    rw [hroot] at eu
    rw [hu o, eu]
    simp only [Bool.or_false, decide_eq_true_eq, List.mem_append, List.mem_singleton, eq_comm (a := o)]
end Lp

/-! Ld: data that is tuples throughout, and stays; expressions. -/
namespace Lp
open PySem PySem.Spec PyProof.Rows L2

/-! ### what stays by itself: tuples, and what is locked -/
structure Tk (H H' : Hp) : Prop where
  tup : ∀ a xs, H a = some (.tup xs) → H' a = some (.tup xs)
  frz : ∀ a o u, H a = some (.frz o u) → H' a = some (.frz o u)
theorem Tk.refl (H : Hp) : Tk H H := ⟨fun _ _ h => h, fun _ _ _ h => h⟩
theorem Tk.trans {H H1 H2 : Hp} (a : Tk H H1) (b : Tk H1 H2) : Tk H H2 := ⟨fun x xs h => b.tup x xs (a.tup x xs h), fun x o u h => b.frz x o u (a.frz x o u h)⟩
theorem Tk.same {H H' : Hp} (s : Same H H') : Tk H H' := ⟨fun a _ h => s a _ h, fun a _ _ h => s a _ h⟩
theorem Tk.new {H : Hp} {p : Addr} {o : HO} (h : H p = none) : Tk H (upd H p o) := ⟨fun a xs e => by rw [upd_ne (ne_of_none e h)]; exact e, fun a o u e => by rw [upd_ne (ne_of_none e h)]; exact e⟩
theorem Tk.lst {H : Hp} {p : Addr} {xs : List V} {o : HO} (h : H p = some (.lst xs)) : Tk H (upd H p o) :=
  ⟨fun a ys e => by rw [upd_ne (ne_of e h (by intro z; cases z))]; exact e, fun a o u e => by rw [upd_ne (ne_of e h (by intro z; cases z))]; exact e⟩
theorem Tk.ins {H : Hp} {p C dx : Addr} {fs : List (Str × V)} {o : HO} (h : H p = some (.ins C dx fs)) : Tk H (upd H p o) :=
  ⟨fun a ys e => by rw [upd_ne (ne_of e h (by intro z; cases z))]; exact e, fun a o u e => by rw [upd_ne (ne_of e h (by intro z; cases z))]; exact e⟩
/-- of a change of listed things that are lists or instances -/
theorem Kp.tk {B : Addr → Prop} {H H' : Hp} (k : Kp B H H') (nt : NoTup B H) : Tk H H' :=
  ⟨fun a xs e => k a _ e fun z => by obtain ⟨u, e2, n, _⟩ := nt a z; rw [e] at e2; cases e2; exact n _ rfl, fun a o u e => k a _ e fun z => by obtain ⟨v, e2, _, n⟩ := nt a z; rw [e] at e2; cases e2; exact n _ _ rfl⟩
theorem noTup1 {H : Hp} {b : Addr} {xs : List V} (h : H b = some (.lst xs)) : NoTup (fun x => x = b) H := fun a e => by
  cases (show a = b from e)
  exact ⟨.lst xs, h, (fun _ z => by cases z), (fun _ _ z => by cases z)⟩
theorem Kp.tk1 {H H' : Hp} {b : Addr} {xs : List V} (k : Kp (fun x => x = b) H H') (h : H b = some (.lst xs)) : Tk H H' := k.tk (noTup1 h)
theorem Tk.sqT {K : PySem.W.Frag} {H H' : Hp} {a : Addr} {xs : List V} (k : Tk H H') (h : SqT K H a xs) : SqT K H' a xs := by
  rcases h with (h | ⟨o, h⟩) | h
  · exact .inl (.inl (k.tup _ _ h))
  · exact .inl (.inr ⟨o, k.frz _ _ _ h⟩)
  · exact .inr h

/-! ### data of tuples -/
mutual
inductive Tp (K : PySem.W.Frag) (H : Hp) : V → PyData → Prop
  | non : Tp K H .non .none
  | bl (b : Bool) : Tp K H (.bl b) (.bool b)
  | int (i : Int) : Tp K H (.int i) (.int i)
  | str (x : Str) : Tp K H (.str x) (.str x)
  | tup {a : Addr} {xs : List V} {ds : List PyData} : SqT K H a xs → TpAll K H xs ds → Tp K H (.ref a) (.tuple ds)
inductive TpAll (K : PySem.W.Frag) (H : Hp) : List V → List PyData → Prop
  | nil : TpAll K H [] []
  | cons {v : V} {vs : List V} {d : PyData} {ds : List PyData} : Tp K H v d → TpAll K H vs ds → TpAll K H (v :: vs) (d :: ds)
end
section
variable {K : PySem.W.Frag} {H H' : Hp}
mutual
theorem Tp.tk (k : Tk H H') : ∀ (d : PyData) (v : V), Tp K H v d → Tp K H' v d
  | .none, _, h => by cases h; exact .non
  | .bool _, _, h => by cases h; exact .bl _
  | .int _, _, h => by cases h; exact .int _
  | .str _, _, h => by cases h; exact .str _
  | .tuple ds, _, h => by
    cases h with
    | tup hs ha => exact .tup (k.sqT hs) (TpAll.tk k ds _ ha)
  | .list _, _, h => by cases h
  | .dict _, _, h => by cases h
theorem TpAll.tk (k : Tk H H') : ∀ (ds : List PyData) (vs : List V), TpAll K H vs ds → TpAll K H' vs ds
  | [], _, h => by cases h; exact .nil
  | d :: ds, _, h => by
    cases h with
    | cons h1 h2 => exact .cons (Tp.tk k d _ h1) (TpAll.tk k ds _ h2)
end
mutual
theorem Tp.dp : ∀ (d : PyData) (v : V), Tp K H v d → Dp K H v d
  | .none, _, h => by cases h; exact .non
  | .bool _, _, h => by cases h; exact .bl _
  | .int _, _, h => by cases h; exact .int _
  | .str _, _, h => by cases h; exact .str _
  | .tuple ds, _, h => by
    cases h with
    | tup hs ha => exact .tup hs (TpAll.dp ds _ ha)
  | .list _, _, h => by cases h
  | .dict _, _, h => by cases h
theorem TpAll.dp : ∀ (ds : List PyData) (vs : List V), TpAll K H vs ds → DpAll K H vs ds
  | [], _, h => by cases h; exact .nil
  | d :: ds, _, h => by
    cases h with
    | cons h1 h2 => exact .cons (Tp.dp d _ h1) (TpAll.dp ds _ h2)
end
theorem Tp.mono {v : V} {d : PyData} (h : Tp K H v d) (k : Tk H H') : Tp K H' v d := Tp.tk k d v h
theorem TpAll.mono {vs : List V} {ds : List PyData} (h : TpAll K H vs ds) (k : Tk H H') : TpAll K H' vs ds := TpAll.tk k ds vs h
theorem Tp.intE {v : V} {i : Int} (h : Tp K H v (.int i)) : v = .int i := by cases h; rfl
theorem Tp.strE {v : V} {x : Str} (h : Tp K H v (.str x)) : v = .str x := by cases h; rfl
theorem Tp.nonE {v : V} (h : Tp K H v .none) : v = .non := by cases h; rfl
theorem Tp.tupE {v : V} {ds : List PyData} (h : Tp K H v (.tuple ds)) : ∃ a xs, v = .ref a ∧ SqT K H a xs ∧ TpAll K H xs ds := by
  cases h with
  | tup hs ha => exact ⟨_, _, rfl, hs, ha⟩
theorem TpAll.nilE {vs : List V} (h : TpAll K H vs []) : vs = [] := by cases h; rfl
theorem TpAll.consE {vs : List V} {d : PyData} {ds : List PyData} (h : TpAll K H vs (d :: ds)) : ∃ v r, vs = v :: r ∧ Tp K H v d ∧ TpAll K H r ds := by
  cases h with
  | cons h1 h2 => exact ⟨_, _, rfl, h1, h2⟩
theorem TpAll.length : ∀ {vs : List V} {ds : List PyData}, TpAll K H vs ds → vs.length = ds.length
  | _, [], h => by cases h; rfl
  | _, d :: ds, h => by
    cases h with
    | cons h1 h2 => simp [h2.length]
theorem TpAll.get : ∀ {vs : List V} {ds : List PyData} {i : Nat} {v : V}, TpAll K H vs ds → vs[i]? = some v → ∃ d, ds[i]? = some d ∧ Tp K H v d
  | _, [], i, v, h, e => by cases h; simp at e
  | _, d :: ds, 0, v, h, e => by
    cases h with
    | cons h1 h2 => simp at e; subst e; exact ⟨d, rfl, h1⟩
  | _, d :: ds, i + 1, v, h, e => by
    cases h with
    | cons h1 h2 =>
      obtain ⟨d', e', t⟩ := h2.get (i := i) (v := v) (by simpa using e)
      exact ⟨d', by simpa using e', t⟩
theorem TpAll.get' : ∀ {vs : List V} {ds : List PyData} {i : Nat} {d : PyData}, TpAll K H vs ds → ds[i]? = some d → ∃ v, vs[i]? = some v ∧ Tp K H v d
  | _, [], i, d, h, e => by simp at e
  | _, d0 :: ds, 0, d, h, e => by
    cases h with
    | cons h1 h2 => simp at e; subst e; exact ⟨_, rfl, h1⟩
  | _, d0 :: ds, i + 1, d, h, e => by
    cases h with
    | cons h1 h2 =>
      obtain ⟨v, e', t⟩ := h2.get' (i := i) (d := d) (by simpa using e)
      exact ⟨v, by simpa using e', t⟩
theorem TpAll.snoc : ∀ {vs : List V} {ds : List PyData} {v : V} {d : PyData}, TpAll K H vs ds → Tp K H v d → TpAll K H (vs ++ [v]) (ds ++ [d])
  | _, [], v, d, h, t => by cases h; exact .cons t .nil
  | _, d0 :: ds, v, d, h, t => by
    cases h with
    | cons h1 h2 => exact .cons h1 (h2.snoc t)
theorem TpAll.app : ∀ {vs us : List V} {ds es : List PyData}, TpAll K H vs ds → TpAll K H us es → TpAll K H (vs ++ us) (ds ++ es)
  | _, _, [], _, h, t => by cases h; exact t
  | _, _, d0 :: ds, _, h, t => by
    cases h with
    | cons h1 h2 => exact .cons h1 (h2.app t)
/-- two, three, four, five places -/
theorem Tp.tup1 {v : V} {d0 : PyData} (h : Tp K H v (.tuple [d0])) : ∃ a x0, v = .ref a ∧ SqT K H a [x0] ∧ Tp K H x0 d0 := by
  obtain ⟨a, xs, rfl, hs, ha⟩ := h.tupE
  obtain ⟨x0, r0, rfl, h0, ha⟩ := ha.consE
  cases ha.nilE
  exact ⟨a, x0, rfl, hs, h0⟩
theorem Tp.tup2 {v : V} {d0 d1 : PyData} (h : Tp K H v (.tuple [d0, d1])) : ∃ a x0 x1, v = .ref a ∧ SqT K H a [x0, x1] ∧ Tp K H x0 d0 ∧ Tp K H x1 d1 := by
  obtain ⟨a, xs, rfl, hs, ha⟩ := h.tupE
  obtain ⟨x0, r0, rfl, h0, ha⟩ := ha.consE
  obtain ⟨x1, r1, rfl, h1, ha⟩ := ha.consE
  cases ha.nilE
  exact ⟨a, x0, x1, rfl, hs, h0, h1⟩
theorem Tp.tup3 {v : V} {d0 d1 d2 : PyData} (h : Tp K H v (.tuple [d0, d1, d2])) : ∃ a x0 x1 x2, v = .ref a ∧ SqT K H a [x0, x1, x2] ∧ Tp K H x0 d0 ∧ Tp K H x1 d1 ∧ Tp K H x2 d2 := by
  obtain ⟨a, xs, rfl, hs, ha⟩ := h.tupE
  obtain ⟨x0, r0, rfl, h0, ha⟩ := ha.consE
  obtain ⟨x1, r1, rfl, h1, ha⟩ := ha.consE
  obtain ⟨x2, r2, rfl, h2, ha⟩ := ha.consE
  cases ha.nilE
  exact ⟨a, x0, x1, x2, rfl, hs, h0, h1, h2⟩
theorem Tp.tup4 {v : V} {d0 d1 d2 d3 : PyData} (h : Tp K H v (.tuple [d0, d1, d2, d3])) : ∃ a x0 x1 x2 x3, v = .ref a ∧ SqT K H a [x0, x1, x2, x3] ∧ Tp K H x0 d0 ∧ Tp K H x1 d1 ∧ Tp K H x2 d2 ∧ Tp K H x3 d3 := by
  obtain ⟨a, xs, rfl, hs, ha⟩ := h.tupE
  obtain ⟨x0, r0, rfl, h0, ha⟩ := ha.consE
  obtain ⟨x1, r1, rfl, h1, ha⟩ := ha.consE
  obtain ⟨x2, r2, rfl, h2, ha⟩ := ha.consE
  obtain ⟨x3, r3, rfl, h3, ha⟩ := ha.consE
  cases ha.nilE
  exact ⟨a, x0, x1, x2, x3, rfl, hs, h0, h1, h2, h3⟩
theorem Tp.tup5 {v : V} {d0 d1 d2 d3 d4 : PyData} (h : Tp K H v (.tuple [d0, d1, d2, d3, d4])) : ∃ a x0 x1 x2 x3 x4, v = .ref a ∧ SqT K H a [x0, x1, x2, x3, x4] ∧ Tp K H x0 d0 ∧ Tp K H x1 d1 ∧ Tp K H x2 d2 ∧ Tp K H x3 d3 ∧ Tp K H x4 d4 := by
  obtain ⟨a, xs, rfl, hs, ha⟩ := h.tupE
  obtain ⟨x0, r0, rfl, h0, ha⟩ := ha.consE
  obtain ⟨x1, r1, rfl, h1, ha⟩ := ha.consE
  obtain ⟨x2, r2, rfl, h2, ha⟩ := ha.consE
  obtain ⟨x3, r3, rfl, h3, ha⟩ := ha.consE
  obtain ⟨x4, r4, rfl, h4, ha⟩ := ha.consE
  cases ha.nilE
  exact ⟨a, x0, x1, x2, x3, x4, rfl, hs, h0, h1, h2, h3, h4⟩
/-- a new tuple -/
theorem Tp.mk {p : Addr} {xs : List V} {ds : List PyData} (hp : H p = none) (h : TpAll K H xs ds) : Tp K (upd H p (.tup xs)) (.ref p) (.tuple ds) := .tup (.inl (.inl upd_same)) (h.mono (Tk.new hp))
end

/-! ### expressions -/
inductive BOp where | add | sub | mul | less
  deriving DecidableEq
def BOp.s : BOp → Str
  | .add => "add" | .sub => "sub" | .mul => "mul" | .less => "less"
def BOp.ap : BOp → Int → Int → Int
  | .add, i, j => (i + j) % 10007
  | .sub, i, j => (i - j) % 10007
  | .mul, i, j => i * j % 10007
  | .less, i, j => if i < j then 1 else 0
inductive Ex where
  | num (n : Int)
  | var (k : Nat)
  | bin (o : BOp) (a b : Ex)
  deriving DecidableEq
def Ex.d : Ex → PyData
  | .num n => .tuple [.str "num", .int n]
  | .var k => .tuple [.str "var", .int (k : Int)]
  | .bin o a b => .tuple [.str o.s, a.d, b.d]
def Ex.val (σ : List Int) : Ex → Int
  | .num n => n
  | .var k => σ.getD k 0
  | .bin o a b => o.ap (a.val σ) (b.val σ)
def Ex.Wf : Ex → Prop
  | .num n => 0 ≤ n ∧ n < 1000
  | .var k => k < 8
  | .bin _ a b => a.Wf ∧ b.Wf
def Ex.dep : Ex → Nat
  | .num _ => 1
  | .var _ => 1
  | .bin _ a b => max a.dep b.dep + 1
/-- eight numbers from 0 to 10006 -/
def InR (σ : List Int) : Prop := σ.length = 8 ∧ ∀ n ∈ σ, 0 ≤ n ∧ n < 10007
theorem BOp.ap_in (o : BOp) (i j : Int) : 0 ≤ o.ap i j ∧ o.ap i j < 10007 := by
  cases o with
  | less => unfold BOp.ap; split <;> omega
  | _ => exact ⟨Int.emod_nonneg _ (by decide), Int.emod_lt_of_pos _ (by decide)⟩
theorem Ex.val_in {σ : List Int} (r : InR σ) : ∀ {e : Ex}, e.Wf → 0 ≤ e.val σ ∧ e.val σ < 10007
  | .num n, w => by
    have : 0 ≤ n ∧ n < 1000 := w
    show 0 ≤ n ∧ n < 10007
    omega
  | .var k, w => by
    have hk : k < σ.length := by rw [r.1]; exact w
    show 0 ≤ σ.getD k 0 ∧ σ.getD k 0 < 10007
    rw [List.getD_eq_getElem?_getD, List.getElem?_eq_getElem hk]
    exact r.2 _ (List.getElem_mem hk)
  | .bin o a b, _ => o.ap_in _ _
theorem BOp.ne {o : BOp} : (V.str o.s ≠ V.str "num") ∧ (V.str o.s ≠ V.str "var") := by cases o <;> decide
end Lp

/-! L2v: values of expressions: joined, value_of, the law's own, and its drawing of expressions. -/
namespace Lp
open PySem PySem.Spec PyProof.Rows L2
def t_joined (K : PySem.W.Frag) : TS :=
  tSeq (tIfS (tTest (tOp rEq (tVar 0) (tC (.str "add")))) (tRet (tOp rMdI (tOp rAdI (tVar 1) (tVar 2)) (tC (.int 10007)))) (tNext)) (tSeq (tIfS (tTest (tOp rEq (tVar 0) (tC (.str "sub")))) (tRet (tOp rMdI (tOp rSbI (tVar 1) (tVar 2)) (tC (.int 10007)))) (tNext)) (tSeq (tIfS (tTest (tOp rEq (tVar 0) (tC (.str "mul")))) (tRet (tOp rMdI (tOp rMlI (tVar 1) (tVar 2)) (tC (.int 10007)))) (tNext)) (tRet (tCB rInt1 (tCons (tOp rLt (tVar 1) (tVar 2)) (tNil))))))

def t_value_of (K : PySem.W.Frag) (sp_joined : Sp) (sp_value_of : Sp) : TS :=
  tSeq (tIfS (tTest (tOp rEq (tOp (rIxT K) (tVar 0) (tC (.int 0))) (tC (.str "num")))) (tRet (tOp (rIxT K) (tVar 0) (tC (.int 1)))) (tNext)) (tSeq (tIfS (tTest (tOp rEq (tOp (rIxT K) (tVar 0) (tC (.int 0))) (tC (.str "var")))) (tRet (tOp (rIxL K) (tVar 1) (tOp (rIxT K) (tVar 0) (tC (.int 1))))) (tNext)) (tRet (tCall sp_joined [] E0 (tCons (tOp (rIxT K) (tVar 0) (tC (.int 0))) (tCons (tCall sp_value_of [] E0 (tCons (tOp (rIxT K) (tVar 0) (tC (.int 1))) (tCons (tVar 1) (tNil)))) (tCons (tCall sp_value_of [] E0 (tCons (tOp (rIxT K) (tVar 0) (tC (.int 2))) (tCons (tVar 1) (tNil)))) (tNil)))))))

def t_law_part (K : PySem.W.Frag) (sp_law_take : Sp) (sp_law_part : Sp) : TS :=
  tSeq (tAsg (tCall sp_law_take [] E0 (tCons (tVar 0) (tCons (tC (.int 8)) (tNil)))) (gName 2)) (tSeq (tIfS (tTest (tOp rLt (tVar 2) (tC (.int 2)))) (tRet (tTup (tCons (tC (.str "num")) (tCons (tCall sp_law_take [] E0 (tCons (tVar 0) (tCons (tC (.int 1000)) (tNil)))) (tNil))))) (tNext)) (tSeq (tIfS (tOr (tTest (tOp rEq (tVar 1) (tC (.int 0)))) (tTest (tOp rEq (tVar 2) (tC (.int 2))))) (tRet (tTup (tCons (tC (.str "num")) (tCons (tCall sp_law_take [] E0 (tCons (tVar 0) (tCons (tC (.int 3)) (tNil)))) (tNil))))) (tNext)) (tSeq (tIfS (tTest (tOp rLt (tVar 2) (tC (.int 5)))) (tRet (tTup (tCons (tC (.str "var")) (tCons (tCall sp_law_take [] E0 (tCons (tVar 0) (tCons (tC (.int 8)) (tNil)))) (tNil))))) (tNext)) (tSeq (tAsg (tOp (rIxL K) (tLst (tCons (tC (.str "add")) (tCons (tC (.str "sub")) (tCons (tC (.str "mul")) (tCons (tC (.str "less")) (tNil)))))) (tCall sp_law_take [] E0 (tCons (tVar 0) (tCons (tC (.int 4)) (tNil))))) (gName 3)) (tSeq (tAsg (tCall sp_law_part [] E0 (tCons (tVar 0) (tCons (tOp rSbI (tVar 1) (tC (.int 1))) (tNil)))) (gName 4)) (tRet (tTup (tCons (tVar 3) (tCons (tVar 4) (tCons (tCall sp_law_part [] E0 (tCons (tVar 0) (tCons (tOp rSbI (tVar 1) (tC (.int 1))) (tNil)))) (tNil)))))))))))

def t_law_value (K : PySem.W.Frag) (sp_law_value : Sp) : TS :=
  tSeq (tAsg (tOp (rIxT K) (tVar 0) (tC (.int 0))) (gName 2)) (tSeq (tIfS (tTest (tOp rEq (tVar 2) (tC (.str "num")))) (tRet (tOp (rIxT K) (tVar 0) (tC (.int 1)))) (tNext)) (tSeq (tIfS (tTest (tOp rEq (tVar 2) (tC (.str "var")))) (tRet (tOp (rIxL K) (tVar 1) (tOp (rIxT K) (tVar 0) (tC (.int 1))))) (tNext)) (tSeq (tAsg (tCall sp_law_value [] E0 (tCons (tOp (rIxT K) (tVar 0) (tC (.int 1))) (tCons (tVar 1) (tNil)))) (gName 3)) (tSeq (tAsg (tCall sp_law_value [] E0 (tCons (tOp (rIxT K) (tVar 0) (tC (.int 2))) (tCons (tVar 1) (tNil)))) (gName 4)) (tSeq (tIfS (tTest (tOp rEq (tVar 2) (tC (.str "less")))) (tRet (tCB rInt1 (tCons (tOp rLt (tVar 3) (tVar 4)) (tNil)))) (tNext)) (tSeq (tIfS (tTest (tOp rEq (tVar 2) (tC (.str "add")))) (tRet (tOp rMdI (tOp rAdI (tVar 3) (tVar 4)) (tC (.int 10007)))) (tNext)) (tSeq (tIfS (tTest (tOp rEq (tVar 2) (tC (.str "sub")))) (tRet (tOp rMdI (tOp rSbI (tOp rAdI (tVar 3) (tOp rMlI (tC (.int 10007)) (tC (.int 10007)))) (tVar 4)) (tC (.int 10007)))) (tNext)) (tRet (tOp rMdI (tOp rMlI (tVar 3) (tVar 4)) (tC (.int 10007)))))))))))

/-! ### items -/
section
variable {K : PySem.W.Frag} {σ : L2.St} {H : Hp} {i j : Nat} {p : Addr} {xs : List V} {v : V} {Q : VK}
theorem rd_ixT (hs : σ[i]? = some (some (.ref p))) (h : SqT K H p xs) (e : xs[j]? = some v) (q : Q v H) : tOp (rIxT K) (tVar i) (tC (.int (j : Int))) σ H Q := ⟨_, hs, p, xs, _, v, rfl, rfl, h, atI_nat e, q⟩
theorem rd_ixL (hs : σ[i]? = some (some (.ref p))) (h : SqL K H p xs) (e : xs[j]? = some v) (q : Q v H) : tOp (rIxL K) (tVar i) (tC (.int (j : Int))) σ H Q := ⟨_, hs, p, xs, _, v, rfl, rfl, h, atI_nat e, q⟩
end
section
variable {P : Program} {w : World} {K : PySem.W.Frag} {mg : Str → Option Value} {base : Heap} {j : Nat} {x m : Str} {C : Addr} {ps : List Str} {f : Addr} {fd : FuncData}
/-- a def that calls itself: at 0 it can't be asked -/
theorem FnOk.zero {k : Nat} {sp : Sp} (z : ∀ vs H Q E, ¬ sp vs H Q E) : FnOk P w K mg base CX0 k f fd ps sp :=
  ⟨fun vs H Q E h => absurd h (z vs H Q E), fun A outer s H args us vs Q E _ _ _ _ h => absurd h (z vs H Q E)⟩
theorem Cal.rec {sp : Nat → Sp} (b : Binds K fd ps []) (kp : PySem.W.keepIn K (.ref f) = true) (hm : mg x = some (.ref f)) (z : ∀ vs H Q E, ¬ sp 0 vs H Q E)
    (step : ∀ n, Cal P w K mg base (j + n) x ps (sp n) → FnOk P w K mg base CX0 (j + n + 1) f fd ps (sp (n + 1))) : ∀ n, Cal P w K mg base (j + n) x ps (sp n)
  | 0 => ⟨f, fd, FnOk.zero z, b, kp, hm⟩
  | n + 1 => ⟨f, fd, step n (Cal.rec b kp hm z step n), b, kp, hm⟩
end
section
variable {X : Cx} {x : Str} {i : Int} {z : Str} {pos : Pos}
theorem pgi (h : ∃ t, X.mg x = some (.int i t)) (hg : Gl X x := by rfl) (hd : (x == ("__debug__" : Str)) = false := by decide) : PE X (.Name x pos) (tC (.int i)) := by
  obtain ⟨t, e⟩ := h
  exact pe_glob hg e ⟨t, rfl⟩ hd
theorem pgs (h : ∃ t, X.mg x = some (.str z t)) (hg : Gl X x := by rfl) (hd : (x == ("__debug__" : Str)) = false := by decide) : PE X (.Name x pos) (tC (.str z)) := by
  obtain ⟨t, e⟩ := h
  exact pe_glob hg e ⟨t, rfl⟩ hd
end
theorem pos7 : (0 : Int) < 10007 := by decide
theorem cmul_small {i j : Int} (h : 0 ≤ i ∧ i < 100000000) : CMul i j := .inl ⟨by omega, by omega⟩

/-! ### tests that change nothing -/
def PB (t : TT) (σ : L2.St) (H : Hp) (c : Bool) : Prop := ∀ Q : Bool → Hp → Prop, Q c H → t σ H Q
section
variable {σ : L2.St} {H : Hp} {i j : Nat} {a c : Int} {x y : V} {u v : Bool} {t t' : TT} {s s' : TS} {D : Ends}
theorem pb_eqI (hs : σ[i]? = some (some (.int a))) : PB (tTest (tOp rEq (tVar i) (tC (.int c)))) σ H (decide (V.int a = V.int c)) := fun _ q => ⟨_, hs, rfl, _, rfl, q⟩
theorem pb_neI (hs : σ[i]? = some (some (.int a))) : PB (tTest (tOp rNe (tVar i) (tC (.int c)))) σ H (!decide (V.int a = V.int c)) := fun _ q => ⟨_, hs, rfl, _, rfl, q⟩
theorem pb_eqV {i j : Nat} (hs : σ[i]? = some (some x)) (ht : σ[j]? = some (some y)) (h : scal x y = true) : PB (tTest (tOp rEq (tVar i) (tVar j))) σ H (decide (x = y)) := fun _ q => ⟨_, hs, _, ht, h, _, rfl, q⟩
theorem pb_eqS {z w : Str} (hs : σ[i]? = some (some (.str z))) : PB (tTest (tOp rEq (tVar i) (tC (.str w)))) σ H (decide (V.str z = V.str w)) := fun _ q => ⟨_, hs, rfl, _, rfl, q⟩
theorem pb_neS {z w : Str} (hs : σ[i]? = some (some (.str z))) : PB (tTest (tOp rNe (tVar i) (tC (.str w)))) σ H (!decide (V.str z = V.str w)) := fun _ q => ⟨_, hs, rfl, _, rfl, q⟩
theorem pb_lt (hs : σ[i]? = some (some (.int a))) : PB (tTest (tOp rLt (tVar i) (tC (.int c)))) σ H (decide (a < c)) := fun _ q => ⟨_, hs, _, _, rfl, rfl, _, rfl, q⟩
theorem pb_var (hs : σ[i]? = some (some (.bl u))) : PB (tB (tVar i)) σ H u := fun _ q => ⟨_, hs, u, rfl, q⟩
theorem pb_and (h : PB t σ H u) (h' : PB t' σ H v) : PB (tAnd t t') σ H (u && v) := fun Q q => h _ (by
  cases u with
  | true => exact ifT rfl (h' _ q)
  | false => exact ifF rfl q)
theorem pb_or (h : PB t σ H u) (h' : PB t' σ H v) : PB (tOr t t') σ H (u || v) := fun Q q => h _ (by
  cases u with
  | true => exact ifT rfl q
  | false => exact ifF rfl (h' _ q))
theorem pb_not (h : PB t σ H u) : PB (tNot t) σ H (!u) := fun Q q => h _ q
theorem pb_is {w : Bool} (h : PB t σ H u) (e : u = w) : PB t σ H w := by rw [← e]; exact h
theorem r_if (h : PB t σ H u) (h1 : u = true → s D σ H) (h2 : u = false → s' D σ H) : tIfS t s s' D σ H := h _ (ifB h1 h2)
theorem r_ifT (h : PB t σ H true) (h1 : s D σ H) : tIfS t s s' D σ H := h _ (ifT rfl h1)
theorem r_ifF (h : PB t σ H false) (h1 : s' D σ H) : tIfS t s s' D σ H := h _ (ifF rfl h1)
end
/-! ### joined -/
def spJoined : Sp := fun vs H Q _ => ∃ (o : BOp) (i j : Int), vs = [.str o.s, .int i, .int j] ∧ 0 ≤ i ∧ i < 10007 ∧ 0 ≤ j ∧ j < 10007 ∧ Q (.int (o.ap i j)) H
abbrev N_joined : List Str := ["word", "one", "two"]
theorem rd_joined {K : PySem.W.Frag} (vs : List V) (H : Hp) (Q : VK) (E : XK) (h : spJoined vs H Q E) : t_joined K { nx := fun _ H' => Q .non H', rt := Q } (start N_joined vs) H := by
  obtain ⟨o, i, j, rfl, h1, h2, h3, h4, q⟩ := h
  cases o with
  | add =>
    refine ⟨_, rfl, rfl, _, rfl, ifT rfl ?_⟩
    exact ⟨_, rfl, _, rfl, _, _, rfl, rfl, _, _, rfl, rfl, pos7, q⟩
  | sub =>
    refine ⟨_, rfl, rfl, _, rfl, ifF rfl ⟨_, rfl, rfl, _, rfl, ifT rfl ?_⟩⟩
    exact ⟨_, rfl, _, rfl, _, _, rfl, rfl, _, _, rfl, rfl, pos7, q⟩
  | mul =>
    refine ⟨_, rfl, rfl, _, rfl, ifF rfl ⟨_, rfl, rfl, _, rfl, ifF rfl ⟨_, rfl, rfl, _, rfl, ifT rfl ?_⟩⟩⟩
    exact ⟨_, rfl, _, rfl, _, _, rfl, rfl, cmul_small ⟨by omega, by omega⟩, _, _, rfl, rfl, pos7, q⟩
  | less =>
    refine ⟨_, rfl, rfl, _, rfl, ifF rfl ⟨_, rfl, rfl, _, rfl, ifF rfl ⟨_, rfl, rfl, _, rfl, ifF rfl ?_⟩⟩⟩
    refine ⟨_, rfl, _, rfl, _, _, rfl, rfl, .inr ⟨_, rfl, ?_⟩⟩
    have e : (if decide (i < j) = true then (1 : Int) else 0) = BOp.less.ap i j := by
      show (if decide (i < j) = true then (1 : Int) else 0) = if i < j then 1 else 0
      by_cases c : i < j
      · rw [if_pos c, if_pos (dT c)]
      · rw [if_neg c, if_neg (by rw [dF c]; decide)]
    rw [e]
    exact q
/-! ### value_of -/
def spVal (K : PySem.W.Frag) (n : Nat) : Sp := fun vs H Q _ => ∃ (v : V) (s : Addr) (e : Ex) (σ : List Int), vs = [v, .ref s] ∧ Tp K H v e.d ∧ e.Wf ∧ e.dep ≤ n ∧ SqL K H s (σ.map V.int) ∧ InR σ ∧ Q (.int (e.val σ)) H
theorem spVal_zero {K : PySem.W.Frag} (vs : List V) (H : Hp) (Q : VK) (E : XK) : ¬ spVal K 0 vs H Q E := by
  rintro ⟨v, s, e, σ, _, _, _, h, _⟩
  cases e <;> simp [Ex.dep] at h
abbrev N_value_of : List Str := ["part", "slots"]
theorem slot_get {σ : List Int} {k : Nat} (r : InR σ) (h : k < 8) : (σ.map V.int)[k]? = some (.int (σ.getD k 0)) := by
  have hk : k < σ.length := by rw [r.1]; exact h
  rw [List.getElem?_map, List.getD_eq_getElem?_getD, List.getElem?_eq_getElem hk]
  rfl
theorem rd_value_of {K : PySem.W.Frag} {n : Nat} (vs : List V) (H : Hp) (Q : VK) (E : XK) (h : spVal K (n + 1) vs H Q E) : t_value_of K spJoined (spVal K n) { nx := fun _ H' => Q .non H', rt := Q } (start N_value_of vs) H := by
  obtain ⟨v, s, e, σ, rfl, ht, wf, hd, hs, hr, q⟩ := h
  cases e with
  | num k =>
    obtain ⟨a, x0, x1, rfl, hT, h0, h1⟩ := ht.tup2
    cases h0.strE; cases h1.intE
    refine rd_ixT (j := 0) rfl hT rfl ⟨rfl, _, rfl, ifT rfl ?_⟩
    exact rd_ixT (j := 1) rfl hT rfl q
  | var k =>
    obtain ⟨a, x0, x1, rfl, hT, h0, h1⟩ := ht.tup2
    cases h0.strE; cases h1.intE
    refine rd_ixT (j := 0) rfl hT rfl ⟨rfl, _, rfl, ifF rfl ?_⟩
    refine rd_ixT (j := 0) rfl hT rfl ⟨rfl, _, rfl, ifT rfl ?_⟩
    refine ⟨_, rfl, rd_ixT (j := 1) rfl hT rfl ⟨s, _, _, _, rfl, rfl, hs, atI_nat (slot_get hr wf), q⟩⟩
  | bin o e1 e2 =>
    obtain ⟨a, x0, x1, x2, rfl, hT, h0, h1, h2⟩ := ht.tup3
    cases h0.strE
    have hd' : max e1.dep e2.dep + 1 ≤ n + 1 := hd
    obtain ⟨w1, w2⟩ : e1.Wf ∧ e2.Wf := wf
    obtain ⟨a1, a2⟩ := Ex.val_in hr w1
    obtain ⟨b1, b2⟩ := Ex.val_in hr w2
    refine rd_ixT (j := 0) rfl hT rfl ⟨rfl, _, rfl, ifF (dF BOp.ne.1) ?_⟩
    refine rd_ixT (j := 0) rfl hT rfl ⟨rfl, _, rfl, ifF (dF BOp.ne.2) ?_⟩
    refine rd_ixT (j := 0) rfl hT rfl ?_
    refine rd_ixT (j := 1) rfl hT rfl ⟨_, rfl, x1, s, e1, σ, rfl, h1, w1, by omega, hs, hr, ?_⟩
    refine rd_ixT (j := 2) rfl hT rfl ⟨_, rfl, x2, s, e2, σ, rfl, h2, w2, by omega, hs, hr, ?_⟩
    exact ⟨o, _, _, rfl, a1, a2, b1, b2, q⟩
/-! ### _law_value -/
abbrev N_law_value : List Str := ["_law_part_here", "_law_slots", "_law_word", "_law_one", "_law_two"]
theorem rd_law_value {K : PySem.W.Frag} {n : Nat} (vs : List V) (H : Hp) (Q : VK) (E : XK) (h : spVal K (n + 1) vs H Q E) : t_law_value K (spVal K n) { nx := fun _ H' => Q .non H', rt := Q } (start N_law_value vs) H := by
  obtain ⟨v, s, e, σ, rfl, ht, wf, hd, hs, hr, q⟩ := h
  cases e with
  | num k =>
    obtain ⟨a, x0, x1, rfl, hT, h0, h1⟩ := ht.tup2
    cases h0.strE; cases h1.intE
    refine rd_ixT (j := 0) rfl hT rfl ⟨_, rfl, rfl, _, rfl, ifT rfl ?_⟩
    exact rd_ixT (j := 1) rfl hT rfl q
  | var k =>
    obtain ⟨a, x0, x1, rfl, hT, h0, h1⟩ := ht.tup2
    cases h0.strE; cases h1.intE
    refine rd_ixT (j := 0) rfl hT rfl ⟨_, rfl, rfl, _, rfl, ifF rfl ⟨_, rfl, rfl, _, rfl, ifT rfl ?_⟩⟩
    refine ⟨_, rfl, rd_ixT (j := 1) rfl hT rfl ⟨s, _, _, _, rfl, rfl, hs, atI_nat (slot_get hr wf), q⟩⟩
  | bin o e1 e2 =>
    obtain ⟨a, x0, x1, x2, rfl, hT, h0, h1, h2⟩ := ht.tup3
    cases h0.strE
    have hd' : max e1.dep e2.dep + 1 ≤ n + 1 := hd
    obtain ⟨w1, w2⟩ : e1.Wf ∧ e2.Wf := wf
    obtain ⟨a1, a2⟩ := Ex.val_in hr w1
    obtain ⟨b1, b2⟩ := Ex.val_in hr w2
    refine rd_ixT (j := 0) rfl hT rfl ⟨_, rfl, rfl, _, rfl, ifF (dF BOp.ne.1) ⟨_, rfl, rfl, _, rfl, ifF (dF BOp.ne.2) ?_⟩⟩
    refine rd_ixT (j := 1) rfl hT rfl ⟨_, rfl, x1, s, e1, σ, rfl, h1, w1, by omega, hs, hr, ?_⟩
    refine rd_ixT (j := 2) rfl hT rfl ⟨_, rfl, x2, s, e2, σ, rfl, h2, w2, by omega, hs, hr, ?_⟩
    cases o with
    | less =>
      refine ⟨_, rfl, rfl, _, rfl, ifT rfl ⟨_, rfl, _, rfl, _, _, rfl, rfl, .inr ⟨_, rfl, ?_⟩⟩⟩
      have e : (if decide (e1.val σ < e2.val σ) = true then (1 : Int) else 0) = BOp.less.ap (e1.val σ) (e2.val σ) := by
        show (if decide (e1.val σ < e2.val σ) = true then (1 : Int) else 0) = if e1.val σ < e2.val σ then 1 else 0
        by_cases c : e1.val σ < e2.val σ
        · rw [if_pos c, if_pos (dT c)]
        · rw [if_neg c, if_neg (by rw [dF c]; decide)]
      rw [e]
      exact q
    | add =>
      refine ⟨_, rfl, rfl, _, rfl, ifF rfl ⟨_, rfl, rfl, _, rfl, ifT rfl ?_⟩⟩
      exact ⟨_, rfl, _, rfl, _, _, rfl, rfl, _, _, rfl, rfl, pos7, q⟩
    | sub =>
      refine ⟨_, rfl, rfl, _, rfl, ifF rfl ⟨_, rfl, rfl, _, rfl, ifF rfl ⟨_, rfl, rfl, _, rfl, ifT rfl ?_⟩⟩⟩
      refine ⟨_, rfl, _, _, rfl, rfl, cmul_small ⟨by decide, by decide⟩, _, _, rfl, rfl, _, rfl, _, _, rfl, rfl, _, _, rfl, rfl, pos7, ?_⟩
      have e : (e1.val σ + 10007 * 10007 - e2.val σ) % 10007 = (e1.val σ - e2.val σ) % 10007 := by omega
      show Q (.int ((e1.val σ + 10007 * 10007 - e2.val σ) % 10007)) H
      rw [e]
      exact q
    | mul =>
      refine ⟨_, rfl, rfl, _, rfl, ifF rfl ⟨_, rfl, rfl, _, rfl, ifF rfl ⟨_, rfl, rfl, _, rfl, ifF rfl ?_⟩⟩⟩
      exact ⟨_, rfl, _, rfl, _, _, rfl, rfl, cmul_small ⟨by omega, by omega⟩, _, _, rfl, rfl, pos7, q⟩
/-! ### _law_part: some expression, as deep at the most -/
def spPart (K : PySem.W.Frag) (n : Nat) : Sp := fun vs H Q _ => ∃ (b : Addr) (l : List Int) (d : Nat), vs = [.ref b, .int (d : Int)] ∧ H b = some (.lst (l.map V.int)) ∧ d < n ∧
  ∀ (v : V) (e : Ex) (l' : List Int) (H' : Hp), e.Wf → e.dep ≤ d + 1 → Tp K H' v e.d → H' b = some (.lst (l'.map V.int)) → Kp (fun x => x = b) H H' → Q v H'
theorem spPart_zero {K : PySem.W.Frag} (vs : List V) (H : Hp) (Q : VK) (E : XK) : ¬ spPart K 0 vs H Q E := by
  rintro ⟨b, l, d, _, _, h, _⟩
  omega
abbrev N_law_part : List Str := ["_law_box", "_law_deep", "_law_kind", "_law_word", "_law_one"]
theorem bd {b : Addr} {d : Nat} (h : 0 < d) : [V.ref b, V.int ((d : Int) - 1)] = [V.ref b, V.int ((d - 1 : Nat) : Int)] := by
  rw [show ((d : Int) - 1) = ((d - 1 : Nat) : Int) by omega]
theorem opw {r : Int} (h0 : 0 ≤ r) (h4 : r < 4) : ∃ o : BOp, atI ([.str "add", .str "sub", .str "mul", .str "less"] : List V) r = some (.str o.s) := by
  have : r = 0 ∨ r = 1 ∨ r = 2 ∨ r = 3 := by omega
  rcases this with rfl | rfl | rfl | rfl
  · exact ⟨.add, rfl⟩
  · exact ⟨.sub, rfl⟩
  · exact ⟨.mul, rfl⟩
  · exact ⟨.less, rfl⟩
theorem rd_law_part {K : PySem.W.Frag} {n : Nat} (vs : List V) (H : Hp) (Q : VK) (E : XK) (h : spPart K (n + 1) vs H Q E) : t_law_part K spTake (spPart K n) { nx := fun _ H' => Q .non H', rt := Q } (start N_law_part vs) H := by
  obtain ⟨b, l, d, rfl, hb, hd, q⟩ := h
  refine ⟨_, rfl, b, l, 8, rfl, hb, by decide, by decide, fun r l1 H1 r0 r1 hb1 kp1 => ?_⟩
  have small : ∀ (m : Int), 0 < m → m ≤ 1000 → (tRet (tTup (tCons (tC (.str "num")) (tCons (tCall spTake [] E0 (tCons (tVar 0) (tCons (tC (.int m)) (tNil)))) (tNil))))) { nx := fun _ H' => Q .non H', rt := Q } [some (.ref b), some (.int (d : Int)), some (.int r), none, none] H1 := by
    intro m m0 m1
    refine ⟨_, rfl, b, l1, m, rfl, hb1, m0, by omega, fun x l2 H2 x0 x1 hb2 kp2 => ⟨(by show 2 ≤ sizeLine; decide), fun p hp => ?_⟩⟩
    refine q (.ref p) (.num x) l2 _ ⟨x0, by omega⟩ (by show 1 ≤ d + 1; omega) (Tp.mk hp (.cons (.str _) (.cons (.int _) .nil))) (by rw [upd_ne (ne_of_none hb2 hp)]; exact hb2) ((kp1.trans kp2).trans (Kp.new hp))
  refine ⟨_, rfl, _, _, rfl, rfl, _, rfl, ifB (fun _ => small 1000 (by decide) (by decide)) fun _ => ?_⟩
  refine ⟨_, rfl, rfl, _, rfl, ifB (fun _ => small 3 (by decide) (by decide)) fun d0 => ?_⟩
  refine ⟨_, rfl, rfl, _, rfl, ifB (fun _ => small 3 (by decide) (by decide)) fun _ => ?_⟩
  have hd0 : 0 < d := by
    have := of_decide_eq_false d0
    by_cases z : d = 0
    · subst z; exact absurd rfl this
    · omega
  refine ⟨_, rfl, _, _, rfl, rfl, _, rfl, ifB (fun _ => ?_) fun _ => ?_⟩
  · refine ⟨_, rfl, b, l1, 8, rfl, hb1, by decide, by decide, fun x l2 H2 x0 x1 hb2 kp2 => ⟨(by show 2 ≤ sizeLine; decide), fun p hp => ?_⟩⟩
    obtain ⟨k, rfl⟩ : ∃ k : Nat, x = (k : Int) := ⟨x.toNat, by omega⟩
    exact q (.ref p) (.var k) l2 _ (by show k < 8; omega) (by show 1 ≤ d + 1; omega) (Tp.mk hp (.cons (.str _) (.cons (.int _) .nil))) (by rw [upd_ne (ne_of_none hb2 hp)]; exact hb2) ((kp1.trans kp2).trans (Kp.new hp))
  · refine ⟨(by show 4 ≤ sizeLine; decide), fun p hp => ?_⟩
    have hb2 : L2.upd H1 p (.lst [.str "add", .str "sub", .str "mul", .str "less"]) b = some (.lst (l1.map V.int)) := by rw [upd_ne (ne_of_none hb1 hp)]; exact hb1
    refine ⟨_, rfl, b, l1, 4, rfl, hb2, by decide, by decide, fun x l2 H2 x0 x1 hb3 kp3 => ?_⟩
    have pb : p ≠ b := fun e => by rw [e, hb1] at hp; cases hp
    obtain ⟨o, ho⟩ := opw x0 x1
    refine ⟨p, _, x, _, rfl, rfl, SqL.of (kp3 p _ upd_same pb), ho, ?_⟩
    have kpA := (kp1.trans (Kp.new hp)).trans kp3
    refine ⟨_, rfl, _, rfl, _, _, rfl, rfl, b, l2, d - 1, bd hd0, hb3, by omega, fun v1 e1 l3 H3 w1 p1 t1 hb4 kp4 => ?_⟩
    refine ⟨_, rfl, _, rfl, _, rfl, _, rfl, _, _, rfl, rfl, b, l3, d - 1, bd hd0, hb4, by omega, fun v2 e2 l4 H4 w2 p2 t2 hb5 kp5 => ?_⟩
    refine ⟨(by show 3 ≤ sizeLine; decide), fun u hu => ?_⟩
    refine q (.ref u) (.bin o e1 e2) l4 _ ⟨w1, w2⟩ (by show max e1.dep e2.dep + 1 ≤ d + 1; omega) (Tp.mk hu (.cons (.str _) (.cons (t1.mono (kp5.tk1 hb4)) (.cons t2 .nil)))) (by rw [upd_ne (ne_of_none hb5 hu)]; exact hb5) (((kpA.trans kp4).trans kp5).trans (Kp.new hu))
end Lp

/-! Ls: statements and programs as trees, as data; what is well formed. -/
namespace Lp
open PySem PySem.Spec PyProof.Rows L2

mutual
inductive Sm where
  | say (e : Ex)
  | set (k : Nat) (e : Ex)
  | row (ps : Sms)
  | ife (e : Ex) (s t : Sm)
  | whl (e : Ex) (s : Sm)
  | brk
  | cnt
  | ret (e : Ex)
  | call (k f : Nat) (ps : List Ex) (m : Int)
  | rais (kd : Nat) (e : Ex) (m : Int)
  | again
  | tri (s : Sm) (hs : Hds)
  | cln (s c : Sm)
inductive Sms where
  | nil
  | cons (s : Sm) (r : Sms)
inductive Hds where
  | nil
  | cons (k : Option Nat) (x : Nat) (t : Sm) (r : Hds)
end
def kindD : Option Nat → PyData
  | none => .none
  | some j => .int (j : Int)
mutual
def Sm.d : Sm → PyData
  | .say e => .tuple [.str "say", e.d]
  | .set k e => .tuple [.str "set", .int (k : Int), e.d]
  | .row ps => .tuple [.str "row", .tuple ps.ds]
  | .ife e s t => .tuple [.str "if", e.d, s.d, t.d]
  | .whl e s => .tuple [.str "while", e.d, s.d]
  | .brk => .tuple [.str "break"]
  | .cnt => .tuple [.str "continue"]
  | .ret e => .tuple [.str "return", e.d]
  | .call k f ps m => .tuple [.str "call", .int (k : Int), .int (f : Int), .tuple (ps.map Ex.d), .int m]
  | .rais kd e m => .tuple [.str "raise", .int (kd : Int), e.d, .int m]
  | .again => .tuple [.str "again"]
  | .tri s hs => .tuple [.str "try", s.d, .tuple hs.ds]
  | .cln s c => .tuple [.str "clean", s.d, c.d]
def Sms.ds : Sms → List PyData
  | .nil => []
  | .cons s r => s.d :: r.ds
def Hds.ds : Hds → List PyData
  | .nil => []
  | .cons k x t r => .tuple [kindD k, .int (x : Int), t.d] :: r.ds
end
def Sms.ofL : List Sm → Sms
  | [] => .nil
  | s :: r => .cons s (Sms.ofL r)
def Hds.ofL : List (Option Nat × Nat × Sm) → Hds
  | [] => .nil
  | (k, x, t) :: r => .cons k x t (Hds.ofL r)
def hdD (h : Option Nat × Nat × Sm) : PyData := .tuple [kindD h.1, .int (h.2.1 : Int), h.2.2.d]
theorem Sms.ds_ofL : ∀ l : List Sm, (Sms.ofL l).ds = l.map Sm.d
  | [] => rfl
  | s :: r => by show s.d :: (Sms.ofL r).ds = _; rw [Sms.ds_ofL r]; rfl
theorem Hds.ds_ofL : ∀ l : List (Option Nat × Nat × Sm), (Hds.ofL l).ds = l.map hdD
  | [] => rfl
  | (k, x, t) :: r => by show hdD (k, x, t) :: (Hds.ofL r).ds = _; rw [Hds.ds_ofL r]; rfl

/-! ### depth, rows -/
mutual
def Sm.dep : Sm → Nat
  | .row ps => ps.dep + 1
  | .ife _ s t => max s.dep t.dep + 1
  | .whl _ s => s.dep + 1
  | .tri s hs => max s.dep hs.dep + 1
  | .cln s c => max s.dep c.dep + 1
  | _ => 1
def Sms.dep : Sms → Nat
  | .nil => 0
  | .cons s r => max s.dep r.dep
def Hds.dep : Hds → Nat
  | .nil => 0
  | .cons _ _ t r => max t.dep r.dep
end
def Ex.len : Ex → Nat
  | .num _ => 1
  | .var _ => 1
  | .bin _ a b => a.len + b.len + 1
def exsLen : List Ex → Nat
  | [] => 0
  | e :: r => e.len + exsLen r
mutual
/-- how many rows a statement is coded as -/
def Sm.len : Sm → Nat
  | .say e => e.len + 1
  | .set _ e => e.len + 1
  | .row ps => ps.len
  | .ife e s t => e.len + 1 + s.len + 1 + t.len
  | .whl e s => e.len + 2 + s.len + 1
  | .brk => 1
  | .cnt => 1
  | .ret e => e.len + 1
  | .call _ _ ps _ => exsLen ps + 2
  | .rais _ e _ => e.len + 1
  | .again => 1
  | .tri s hs => s.len + 1 + hs.len
  | .cln s c => s.len + 2 + c.len + 1
def Sms.len : Sms → Nat
  | .nil => 0
  | .cons s r => s.len + r.len
def Hds.len : Hds → Nat
  | .nil => 0
  | .cons _ _ t r => 2 + t.len + 2 + r.len
end
theorem Ex.len_le : ∀ {e : Ex} {n : Nat}, e.dep ≤ n + 1 → e.len ≤ 2 ^ (n + 1) - 1
  | .num _, n, _ => by show 1 ≤ _; have := Nat.one_le_two_pow (n := n); rw [Nat.pow_succ]; omega
  | .var _, n, _ => by show 1 ≤ _; have := Nat.one_le_two_pow (n := n); rw [Nat.pow_succ]; omega
  | .bin _ a b, n, h => by
    have h' : max a.dep b.dep + 1 ≤ n + 1 := h
    cases n with
    | zero => cases a <;> simp [Ex.dep] at h' <;> omega
    | succ n =>
      have h1 := Ex.len_le (e := a) (n := n) (by omega)
      have h2 := Ex.len_le (e := b) (n := n) (by omega)
      show a.len + b.len + 1 ≤ _
      have := Nat.one_le_two_pow (n := n + 1)
      rw [Nat.pow_succ 2 (n + 1)]
      omega
theorem exsLen_le : ∀ {ps : List Ex} {n : Nat}, (∀ e ∈ ps, e.len ≤ n) → exsLen ps ≤ ps.length * n
  | [], n, _ => by simp [exsLen]
  | e :: r, n, h => by
    have h1 := h e List.mem_cons_self
    have h2 := exsLen_le (ps := r) (n := n) fun x hx => h x (List.mem_cons_of_mem _ hx)
    show e.len + exsLen r ≤ (r.length + 1) * n
    rw [Nat.succ_mul]
    omega

/-! ### well formed: cs the functions' counts, nk how many kinds, turn: within a while, hand: within a handler -/
mutual
def Sm.Wf (cs : List Nat) (nk : Nat) (turn hand : Bool) : Sm → Prop
  | .say e => e.Wf ∧ e.dep ≤ 5
  | .set k e => k < 8 ∧ e.Wf ∧ e.dep ≤ 5
  | .row ps => ps.Wf cs nk turn hand
  | .ife e s t => (e.Wf ∧ e.dep ≤ 5) ∧ s.Wf cs nk turn hand ∧ t.Wf cs nk turn hand
  | .whl e s => (e.Wf ∧ e.dep ≤ 5) ∧ s.Wf cs nk true hand
  | .brk => turn = true
  | .cnt => turn = true
  | .ret e => e.Wf ∧ e.dep ≤ 5
  | .call k f ps m => k < 8 ∧ cs[f]? = some ps.length ∧ ps.length ≤ 3 ∧ (∀ e ∈ ps, e.Wf ∧ e.dep ≤ 5) ∧ 0 ≤ m ∧ m < 1000
  | .rais kd e m => kd < nk ∧ (e.Wf ∧ e.dep ≤ 5) ∧ 0 ≤ m ∧ m < 1000
  | .again => hand = true
  | .tri s hs => s.Wf cs nk turn hand ∧ hs.Wf cs nk turn
  | .cln s c => s.Wf cs nk turn hand ∧ c.Wf cs nk turn hand
def Sms.Wf (cs : List Nat) (nk : Nat) (turn hand : Bool) : Sms → Prop
  | .nil => True
  | .cons s r => s.Wf cs nk turn hand ∧ r.Wf cs nk turn hand
def Hds.Wf (cs : List Nat) (nk : Nat) (turn : Bool) : Hds → Prop
  | .nil => True
  | .cons k x t r => (∀ j, k = some j → j < nk) ∧ x < 8 ∧ t.Wf cs nk turn true ∧ r.Wf cs nk turn
end
theorem Sms.wf_ofL {cs : List Nat} {nk : Nat} {turn hand : Bool} : ∀ {l : List Sm}, (∀ s ∈ l, s.Wf cs nk turn hand) → (Sms.ofL l).Wf cs nk turn hand
  | [], _ => trivial
  | s :: r, h => ⟨h s List.mem_cons_self, Sms.wf_ofL fun x hx => h x (List.mem_cons_of_mem _ hx)⟩
theorem Sms.dep_ofL {n : Nat} : ∀ {l : List Sm}, (∀ s ∈ l, s.dep ≤ n) → (Sms.ofL l).dep ≤ n
  | [], _ => Nat.zero_le _
  | s :: r, h => Nat.max_le.mpr ⟨h s List.mem_cons_self, Sms.dep_ofL fun x hx => h x (List.mem_cons_of_mem _ hx)⟩
theorem Sms.len_ofL {n : Nat} : ∀ {l : List Sm}, (∀ s ∈ l, s.len ≤ n) → (Sms.ofL l).len ≤ l.length * n
  | [], _ => Nat.zero_le _
  | s :: r, h => by
    have h1 := h s List.mem_cons_self
    have h2 := Sms.len_ofL (l := r) (n := n) fun x hx => h x (List.mem_cons_of_mem _ hx)
    show s.len + (Sms.ofL r).len ≤ (r.length + 1) * n
    rw [Nat.succ_mul]
    omega
def HdWf (cs : List Nat) (nk : Nat) (turn : Bool) (h : Option Nat × Nat × Sm) : Prop := (∀ j, h.1 = some j → j < nk) ∧ h.2.1 < 8 ∧ h.2.2.Wf cs nk turn true
theorem Hds.wf_ofL {cs : List Nat} {nk : Nat} {turn : Bool} : ∀ {l : List (Option Nat × Nat × Sm)}, (∀ h ∈ l, HdWf cs nk turn h) → (Hds.ofL l).Wf cs nk turn
  | [], _ => trivial
  | (k, x, t) :: r, h => by
    obtain ⟨h1, h2, h3⟩ := h (k, x, t) List.mem_cons_self
    exact ⟨h1, h2, h3, Hds.wf_ofL fun y hy => h y (List.mem_cons_of_mem _ hy)⟩
theorem Hds.dep_ofL {n : Nat} : ∀ {l : List (Option Nat × Nat × Sm)}, (∀ h ∈ l, h.2.2.dep ≤ n) → (Hds.ofL l).dep ≤ n
  | [], _ => Nat.zero_le _
  | (k, x, t) :: r, h => Nat.max_le.mpr ⟨h (k, x, t) List.mem_cons_self, Hds.dep_ofL fun y hy => h y (List.mem_cons_of_mem _ hy)⟩
theorem Hds.len_ofL {n : Nat} : ∀ {l : List (Option Nat × Nat × Sm)}, (∀ h ∈ l, h.2.2.len ≤ n) → (Hds.ofL l).len ≤ l.length * (n + 4)
  | [], _ => Nat.zero_le _
  | (k, x, t) :: r, h => by
    have h1 := h (k, x, t) List.mem_cons_self
    have h2 := Hds.len_ofL (l := r) (n := n) fun y hy => h y (List.mem_cons_of_mem _ hy)
    show 2 + t.len + 2 + (Hds.ofL r).len ≤ (r.length + 1) * (n + 4)
    rw [Nat.succ_mul]
    have h1' : t.len ≤ n := h1
    omega

/-! ### programs -/
structure Pg where
  kinds : List (Option Nat)
  funs : List (Nat × Sm)
def funD (f : Nat × Sm) : PyData := .tuple [.int (f.1 : Int), f.2.d]
def Pg.d (p : Pg) : PyData := .tuple [.tuple (p.kinds.map kindD), .tuple (p.funs.map funD)]
def Pg.cs (p : Pg) : List Nat := p.funs.map (·.1)
structure Pg.Wf (p : Pg) : Prop where
  kinds : WfK p.kinds
  k0 : 0 < p.kinds.length
  k8 : p.kinds.length ≤ 8
  f0 : 0 < p.funs.length
  f8 : p.funs.length ≤ 8
  many : ∀ f ∈ p.funs, f.1 ≤ 3
  body : ∀ f ∈ p.funs, f.2.Wf p.cs p.kinds.length false false
/-- as the laws' programs are: five deep, of at most 1,900 rows a function -/
structure Pg.Small (p : Pg) (D R : Nat) : Prop where
  dep : ∀ f ∈ p.funs, f.2.dep ≤ D
  len : ∀ f ∈ p.funs, f.2.len ≤ R
theorem tp_kinds {K : PySem.W.Frag} {H : Hp} : ∀ ks : List (Option Nat), TpAll K H (ks.map kindV) (ks.map kindD)
  | [] => .nil
  | none :: r => .cons .non (tp_kinds r)
  | some j :: r => .cons (.int _) (tp_kinds r)
theorem kinds_of {K : PySem.W.Frag} {H : Hp} : ∀ {ks : List (Option Nat)} {vs : List V}, TpAll K H vs (ks.map kindD) → vs = ks.map kindV
  | [], _, h => h.nilE
  | none :: r, _, h => by
    obtain ⟨v, vs, rfl, h1, h2⟩ := TpAll.consE h
    rw [h1.nonE, kinds_of h2]; rfl
  | some j :: r, _, h => by
    obtain ⟨v, vs, rfl, h1, h2⟩ := TpAll.consE h
    rw [h1.intE, kinds_of h2]; rfl
end Lp

/-! L3g: the law's drawing of statements and programs: some well-formed program comes. -/
namespace Lp
open PySem PySem.Spec PyProof.Rows L2
def t_law_call (K : PySem.W.Frag) (sp_law_take : Sp) (sp_law_part : Sp) : TS :=
  tSeq (tAsg (tCall sp_law_take [] E0 (tCons (tVar 0) (tCons (tCB (rLenQ K) (tCons (tOp (rIxL K) (tVar 1) (tC (.int 0))) (tNil))) (tNil)))) (gName 2)) (tSeq (tAsg (tCall sp_law_take [] E0 (tCons (tVar 0) (tCons (tC (.int 8)) (tNil)))) (gName 3)) (tSeq (tAsg (tLc (iRng1 (tCons (tOp (rIxL K) (tOp (rIxL K) (tVar 1) (tC (.int 0))) (tVar 2)) (tNil))) (gName 5) (tYes) (tCall sp_law_part [] E0 (tCons (tVar 0) (tCons (tC (.int 1)) (tNil)))) [5]) (gName 4)) (tRet (tTup (tCons (tC (.str "call")) (tCons (tVar 3) (tCons (tVar 2) (tCons (tCB (rTupOf K) (tCons (tVar 4) (tNil))) (tCons (tCall sp_law_take [] E0 (tCons (tVar 0) (tCons (tC (.int 1000)) (tNil)))) (tNil))))))))))

def t_law_simple (K : PySem.W.Frag) (sp_law_take : Sp) (sp_law_call : Sp) (sp_law_part : Sp) : TS :=
  tSeq (tAsg (tCall sp_law_take [] E0 (tCons (tVar 0) (tCons (tC (.int 9)) (tNil)))) (gName 4)) (tSeq (tIfS (tAnd (tTest (tOp rEq (tVar 4) (tC (.int 8)))) (tB (tVar 3))) (tRet (tTup (tCons (tC (.str "again")) (tNil)))) (tNext)) (tSeq (tIfS (tAnd (tTest (tOp rEq (tVar 4) (tC (.int 7)))) (tB (tVar 2))) (tRet (tTup (tCons (tOp (rIxL K) (tLst (tCons (tC (.str "break")) (tCons (tC (.str "continue")) (tNil)))) (tCall sp_law_take [] E0 (tCons (tVar 0) (tCons (tC (.int 2)) (tNil))))) (tNil)))) (tNext)) (tSeq (tIfS (tTest (tOp rEq (tVar 4) (tC (.int 6)))) (tRet (tCall sp_law_call [] E0 (tCons (tVar 0) (tCons (tVar 1) (tNil))))) (tNext)) (tSeq (tIfS (tTest (tOp rEq (tVar 4) (tC (.int 5)))) (tSeq (tAsg (tCall sp_law_part [] E0 (tCons (tVar 0) (tCons (tC (.int 1)) (tNil)))) (gName 5)) (tRet (tTup (tCons (tC (.str "raise")) (tCons (tCall sp_law_take [] E0 (tCons (tVar 0) (tCons (tOp (rIxL K) (tVar 1) (tC (.int 1))) (tNil)))) (tCons (tVar 5) (tCons (tCall sp_law_take [] E0 (tCons (tVar 0) (tCons (tC (.int 1000)) (tNil)))) (tNil)))))))) (tNext)) (tSeq (tIfS (tTest (tOp rEq (tVar 4) (tC (.int 4)))) (tRet (tTup (tCons (tC (.str "return")) (tCons (tCall sp_law_part [] E0 (tCons (tVar 0) (tCons (tC (.int 2)) (tNil)))) (tNil))))) (tNext)) (tSeq (tIfS (tTest (tOp rEq (tVar 4) (tC (.int 3)))) (tRet (tTup (tCons (tC (.str "row")) (tCons (tTup (tNil)) (tNil))))) (tNext)) (tSeq (tIfS (tTest (tOp rEq (tVar 4) (tC (.int 2)))) (tRet (tTup (tCons (tC (.str "set")) (tCons (tCall sp_law_take [] E0 (tCons (tVar 0) (tCons (tC (.int 8)) (tNil)))) (tCons (tCall sp_law_part [] E0 (tCons (tVar 0) (tCons (tC (.int 2)) (tNil)))) (tNil)))))) (tNext)) (tRet (tTup (tCons (tC (.str "say")) (tCons (tCall sp_law_part [] E0 (tCons (tVar 0) (tCons (tC (.int 2)) (tNil)))) (tNil))))))))))))

def t_law_handler (K : PySem.W.Frag) (sp_law_take : Sp) (sp_law_statement : Sp) : TS :=
  tSeq (tAsg (tCall sp_law_take [] E0 (tCons (tVar 0) (tCons (tOp rAdI (tOp (rIxL K) (tVar 1) (tC (.int 1))) (tC (.int 1))) (tNil)))) (gName 4)) (tSeq (tAsg (tCall sp_law_take [] E0 (tCons (tVar 0) (tCons (tC (.int 8)) (tNil)))) (gName 5)) (tSeq (tIfS (tTest (tOp rEq (tVar 4) (tOp (rIxL K) (tVar 1) (tC (.int 1))))) (tAsg (tC .non) (gName 4)) (tNext)) (tRet (tTup (tCons (tVar 4) (tCons (tVar 5) (tCons (tCall sp_law_statement [] E0 (tCons (tVar 0) (tCons (tVar 1) (tCons (tVar 2) (tCons (tVar 3) (tCons (tC (.bl true)) (tNil))))))) (tNil))))))))

def t_law_statement (K : PySem.W.Frag) (sp_law_take : Sp) (sp_law_simple : Sp) (sp_law_statement : Sp) (sp_law_part : Sp) (sp_law_handler : Sp) : TS :=
  tSeq (tAsg (tCall sp_law_take [] E0 (tCons (tVar 0) (tCons (tC (.int 14)) (tNil)))) (gName 5)) (tSeq (tIfS (tOr (tTest (tOp rEq (tVar 2) (tC (.int 0)))) (tTest (tOp rLt (tVar 5) (tC (.int 4))))) (tRet (tCall sp_law_simple [] E0 (tCons (tVar 0) (tCons (tVar 1) (tCons (tVar 3) (tCons (tVar 4) (tNil))))))) (tNext)) (tSeq (tIfS (tAnd (tTest (tOp rEq (tVar 5) (tC (.int 4)))) (tTest (tOp rEq (tCall sp_law_take [] E0 (tCons (tVar 0) (tCons (tC (.int 3)) (tNil)))) (tC (.int 1))))) (tRet (tTup (tCons (tC (.str "row")) (tCons (tCB (rTupOf K) (tCons (tLc (iRng1 (tCons (tCall sp_law_take [] E0 (tCons (tVar 0) (tCons (tC (.int 7)) (tNil)))) (tNil))) (gName 6) (tYes) (tCall sp_law_simple [] E0 (tCons (tVar 0) (tCons (tVar 1) (tCons (tVar 3) (tCons (tVar 4) (tNil)))))) [6]) (tNil))) (tNil))))) (tNext)) (tSeq (tIfS (tTest (tOp rLt (tVar 5) (tC (.int 7)))) (tSeq (tAsg (tOp rAdI (tC (.int 2)) (tCall sp_law_take [] E0 (tCons (tVar 0) (tCons (tC (.int 2)) (tNil))))) (gName 7)) (tRet (tTup (tCons (tC (.str "row")) (tCons (tCB (rTupOf K) (tCons (tLc (iRng1 (tCons (tVar 7) (tNil))) (gName 6) (tYes) (tCall sp_law_statement [] E0 (tCons (tVar 0) (tCons (tVar 1) (tCons (tOp rSbI (tVar 2) (tC (.int 1))) (tCons (tVar 3) (tCons (tVar 4) (tNil))))))) [6]) (tNil))) (tNil)))))) (tNext)) (tSeq (tIfS (tTest (tOp rEq (tVar 5) (tC (.int 7)))) (tSeq (tAsg (tCall sp_law_part [] E0 (tCons (tVar 0) (tCons (tC (.int 2)) (tNil)))) (gName 8)) (tSeq (tAsg (tCall sp_law_statement [] E0 (tCons (tVar 0) (tCons (tVar 1) (tCons (tOp rSbI (tVar 2) (tC (.int 1))) (tCons (tVar 3) (tCons (tVar 4) (tNil))))))) (gName 9)) (tRet (tTup (tCons (tC (.str "if")) (tCons (tVar 8) (tCons (tVar 9) (tCons (tCall sp_law_statement [] E0 (tCons (tVar 0) (tCons (tVar 1) (tCons (tOp rSbI (tVar 2) (tC (.int 1))) (tCons (tVar 3) (tCons (tVar 4) (tNil))))))) (tNil))))))))) (tNext)) (tSeq (tIfS (tTest (tOp rLt (tVar 5) (tC (.int 9)))) (tSeq (tAsg (tCall sp_law_part [] E0 (tCons (tVar 0) (tCons (tC (.int 2)) (tNil)))) (gName 8)) (tRet (tTup (tCons (tC (.str "while")) (tCons (tVar 8) (tCons (tCall sp_law_statement [] E0 (tCons (tVar 0) (tCons (tVar 1) (tCons (tOp rSbI (tVar 2) (tC (.int 1))) (tCons (tC (.bl true)) (tCons (tVar 4) (tNil))))))) (tNil))))))) (tNext)) (tSeq (tAsg (tCall sp_law_statement [] E0 (tCons (tVar 0) (tCons (tVar 1) (tCons (tOp rSbI (tVar 2) (tC (.int 1))) (tCons (tVar 3) (tCons (tVar 4) (tNil))))))) (gName 10)) (tSeq (tIfS (tTest (tOp rLt (tVar 5) (tC (.int 12)))) (tSeq (tAsg (tOp rAdI (tC (.int 1)) (tCall sp_law_take [] E0 (tCons (tVar 0) (tCons (tC (.int 2)) (tNil))))) (gName 7)) (tRet (tTup (tCons (tC (.str "try")) (tCons (tVar 10) (tCons (tCB (rTupOf K) (tCons (tLc (iRng1 (tCons (tVar 7) (tNil))) (gName 6) (tYes) (tCall sp_law_handler [] E0 (tCons (tVar 0) (tCons (tVar 1) (tCons (tOp rSbI (tVar 2) (tC (.int 1))) (tCons (tVar 3) (tNil)))))) [6]) (tNil))) (tNil))))))) (tNext)) (tRet (tTup (tCons (tC (.str "clean")) (tCons (tVar 10) (tCons (tCall sp_law_statement [] E0 (tCons (tVar 0) (tCons (tVar 1) (tCons (tOp rSbI (tVar 2) (tC (.int 1))) (tCons (tVar 3) (tCons (tVar 4) (tNil))))))) (tNil)))))))))))))

def t_law_program (K : PySem.W.Frag) (sp_law_kinds : Sp) (sp_law_take : Sp) (sp_law_statement : Sp) : TS :=
  tSeq (tAsg (tCall sp_law_kinds [] E0 (tCons (tVar 0) (tCons (tC (.int 4)) (tNil)))) (gName 1)) (tSeq (tAsg (tLst (tCons (tLc (iRng1 (tCons (tOp rAdI (tC (.int 1)) (tCall sp_law_take [] E0 (tCons (tVar 0) (tCons (tC (.int 4)) (tNil))))) (tNil))) (gName 3) (tYes) (tCall sp_law_take [] E0 (tCons (tVar 0) (tCons (tC (.int 4)) (tNil)))) [3]) (tCons (tCB (rLenQ K) (tCons (tVar 1) (tNil))) (tNil)))) (gName 2)) (tSeq (tAsg (tLst (tNil)) (gName 4)) (tSeq (tFor (iList K (tOp (rIxL K) (tVar 2) (tC (.int 0)))) (gName 5) (tSeq (tAsg (tLc (iRng1 (tCons (tOp rAdI (tC (.int 1)) (tCall sp_law_take [] E0 (tCons (tVar 0) (tCons (tC (.int 3)) (tNil))))) (tNil))) (gName 3) (tYes) (tCall sp_law_statement [] E0 (tCons (tVar 0) (tCons (tVar 2) (tCons (tC (.int 3)) (tCons (tC (.bl false)) (tCons (tC (.bl false)) (tNil))))))) [3]) (gName 6)) (tDrop (tBM K "list" rAppend (tVar 4) (tCons (tTup (tCons (tVar 5) (tCons (tTup (tCons (tC (.str "row")) (tCons (tCB (rTupOf K) (tCons (tVar 6) (tNil))) (tNil)))) (tNil)))) (tNil)))))) (tRet (tTup (tCons (tVar 1) (tCons (tCB (rTupOf K) (tCons (tVar 4) (tNil))) (tNil))))))))

/-! ### what is drawn from the box -/
abbrev Bx (b : Addr) : Addr → Prop := fun x => x = b
/-- a drawn thing: some good one, as data; the box has other numbers; all else stands -/
def Drawn (K : PySem.W.Frag) (b : Addr) (H : Hp) (Q : VK) {α : Type} (dα : α → PyData) (good : α → Prop) : Prop :=
  ∀ (v : V) (x : α) (l' : List Int) (H' : Hp), good x → Tp K H' v (dα x) → H' b = some (.lst (l'.map V.int)) → Kp (Bx b) H H' → Q v H'
section
variable {K : PySem.W.Frag} {b : Addr} {H H1 : Hp} {Q : VK} {α : Type} {dα : α → PyData} {good : α → Prop}
theorem Drawn.mk (q : Drawn K b H Q dα good) (x : α) {l1 : List Int} {xs : List V} {ds : List PyData} (hx : good x) (e : dα x = .tuple ds) (ht : TpAll K H1 xs ds) (hb : H1 b = some (.lst (l1.map V.int))) (kp : Kp (Bx b) H H1) :
    ∀ p, H1 p = none → Q (.ref p) (upd H1 p (.tup xs)) := fun p hp =>
  q (.ref p) x l1 _ hx (by rw [e]; exact Tp.mk hp ht) (by rw [upd_ne (ne_of_none hb hp)]; exact hb) (kp.trans (Kp.new hp))
theorem box_new {o : HO} {p : Addr} {l : List Int} (hb : H b = some (.lst (l.map V.int))) (hp : H p = none) : upd H p o b = some (.lst (l.map V.int)) := by rw [upd_ne (ne_of_none hb hp)]; exact hb
/-- a list of drawn things: [draw for k in range(n)] -/
theorem lc_draw {Qd : Hp → Prop} {D : Addr} {l : List Int} {te : TE} {slot : Nat} {σ : L2.St} (dα : α → PyData) (good : α → Prop) (n : Nat) (hn : n < 1000) (hb : H1 b = some (.lst (l.map V.int))) (hD : H1 D = none)
    (hw : ∀ x, wipe ((wipe σ [slot]).set slot x) [slot] = wipe σ [slot])
    (step : ∀ (i : Nat) (H2 : Hp) (l2 : List Int), i < n → H2 b = some (.lst (l2.map V.int)) → Kp (Bx b) H1 H2 → ∀ Q' : VK, Drawn K b H2 Q' dα good → te ((wipe σ [slot]).set slot (some (.int (0 + (i : Int))))) H2 Q')
    (fin : ∀ (items : List α) (vs : List V) (l' : List Int) (H' : Hp), items.length = n → (∀ a ∈ items, good a) → H' D = some (.lst vs) → TpAll K H' vs (items.map dα) → H' b = some (.lst (l'.map V.int)) → Kp (Bx b) H1 H' → Qd H') :
    ∃ W : Nat → Nat → Hp → Prop, (∃ m, W 0 m (upd H1 D (.lst []))) ∧ ∀ i m H, W i m H →
      ((Itr 0 n).stop i H ∧ Qd H) ∨ ((Itr 0 n).go i H ∧ ∃ Nx : Hp → Prop, (∀ H', Nx H' → ∃ m', m' < m ∧ W (i + 1) m' H') ∧ ∀ x H', (Itr 0 n).yld i H x H' → gName slot x (wipe σ [slot]) H' fun σ2 H2 => wipe σ2 [slot] = wipe σ [slot] ∧ tYes σ2 H2 fun c H3 =>
        if c = true then te σ2 H3 fun y H4 => ∃ acc, H4 D = some (.lst acc) ∧ acc.length < sizeLine ∧ Nx (upd H4 D (.lst (acc ++ [y]))) else Nx H3) := by
  have Db : D ≠ b := fun e => by rw [e, hb] at hD; cases hD
  refine lc_range (lo := 0) (n := n) (Qd := Qd) (fun i H' => ∃ (items : List α) (vs : List V) (l' : List Int), items.length = i ∧ (∀ a ∈ items, good a) ∧ H' D = some (.lst vs) ∧ TpAll K H' vs (items.map dα) ∧ H' b = some (.lst (l'.map V.int)) ∧ Kp (Bx b) H1 H')
    ⟨[], [], l, rfl, (by simp), upd_same, .nil, box_new hb hD, Kp.new hD⟩ ?_ ?_
  · rintro i H2 hi ⟨items, vs, l2, hl, hg, h1, ht, hb2, kp⟩
    refine ⟨hw _, ?_⟩
    show te ((wipe σ [slot]).set slot (some (.int (0 + (i : Int))))) H2 fun y H4 => ∃ acc, H4 D = some (.lst acc) ∧ acc.length < sizeLine ∧ _
    refine step i H2 l2 hi hb2 kp _ fun y a l3 H3 ga ta hb3 kp3 => ?_
    have h3 := kp3 D _ h1 Db
    refine ⟨vs, h3, ?_, items ++ [a], vs ++ [y], l3, by simp [hl], ?_, upd_same, ?_, by rw [upd_ne Db.symm]; exact hb3, (kp.trans kp3).late hD⟩
    · have := ht.length
      rw [List.length_map] at this
      exact sz_lt1 (by omega)
    · intro z hz
      rcases List.mem_append.mp hz with z1 | z1
      · exact hg z z1
      · have e : z = a := by simpa using z1
        rw [e]; exact ga
    · rw [List.map_append]
      exact ((ht.mono (kp3.tk1 hb2)).snoc ta).mono (Tk.lst h3)
  · rintro H' ⟨items, vs, l', hl, hg, h1, ht, hb2, kp⟩
    exact fin items vs l' H' hl hg h1 ht hb2 kp
end
/-! ### the shape: the functions' counts, how many kinds -/
structure ShAt (H : Hp) (b sh : Addr) (cs : List Nat) (nk : Nat) : Prop where
  ex : ∃ c, H sh = some (.lst [.ref c, .int (nk : Int)]) ∧ H c = some (.lst (cs.map fun n : Nat => V.int (n : Int))) ∧ c ≠ b
  ne : sh ≠ b
  n0 : 0 < nk
  n9 : nk ≤ 1000
  c0 : 0 < cs.length
  c9 : cs.length ≤ 1000
  c3 : ∀ n ∈ cs, n ≤ 3
theorem ShAt.mono {H H' : Hp} {b sh : Addr} {cs : List Nat} {nk : Nat} (s : ShAt H b sh cs nk) (k : Kp (Bx b) H H') : ShAt H' b sh cs nk := by
  obtain ⟨c, h1, h2, h3⟩ := s.ex
  exact ⟨⟨c, k _ _ h1 s.ne, k _ _ h2 h3, h3⟩, s.ne, s.n0, s.n9, s.c0, s.c9, s.c3⟩
theorem ShAt.of_box {H : Hp} {b sh : Addr} {cs : List Nat} {nk : Nat} (s : ShAt H b sh cs nk) : True := trivial
/-! ### the promises -/
def StmtOk (cs : List Nat) (nk : Nat) (turn hand : Bool) (D R : Nat) (s : Sm) : Prop := s.Wf cs nk turn hand ∧ s.dep ≤ D ∧ s.len ≤ R
def spCallS (K : PySem.W.Frag) : Sp := fun vs H Q _ => ∃ (b sh : Addr) (l : List Int) (cs : List Nat) (nk : Nat), vs = [.ref b, .ref sh] ∧ H b = some (.lst (l.map V.int)) ∧ ShAt H b sh cs nk ∧ Drawn K b H Q Sm.d (fun s => ∀ turn hand, StmtOk cs nk turn hand 1 11 s)
def spSimple (K : PySem.W.Frag) : Sp := fun vs H Q _ => ∃ (b sh : Addr) (l : List Int) (cs : List Nat) (nk : Nat) (turn hand : Bool), vs = [.ref b, .ref sh, .bl turn, .bl hand] ∧ H b = some (.lst (l.map V.int)) ∧ ShAt H b sh cs nk ∧ Drawn K b H Q Sm.d (StmtOk cs nk turn hand 1 11)
/-- at most so many rows at a depth -/
def Bd : Nat → Nat
  | 0 => 11
  | d + 1 => max 66 (3 * Bd d + 9)
theorem Bd_ge : ∀ d, 11 ≤ Bd d
  | 0 => Nat.le_refl _
  | d + 1 => by show 11 ≤ max 66 (3 * Bd d + 9); omega
def spStmt (K : PySem.W.Frag) (n : Nat) : Sp := fun vs H Q _ => ∃ (b sh : Addr) (l : List Int) (cs : List Nat) (nk : Nat) (d : Nat) (turn hand : Bool), vs = [.ref b, .ref sh, .int (d : Int), .bl turn, .bl hand] ∧ H b = some (.lst (l.map V.int)) ∧ ShAt H b sh cs nk ∧ d < n ∧
  Drawn K b H Q Sm.d (StmtOk cs nk turn hand (d + 1) (Bd d))
def HdOk (cs : List Nat) (nk : Nat) (turn : Bool) (D R : Nat) (h : Option Nat × Nat × Sm) : Prop := HdWf cs nk turn h ∧ h.2.2.dep ≤ D ∧ h.2.2.len ≤ R
def spHandler (K : PySem.W.Frag) (n : Nat) : Sp := fun vs H Q _ => ∃ (b sh : Addr) (l : List Int) (cs : List Nat) (nk : Nat) (d : Nat) (turn : Bool), vs = [.ref b, .ref sh, .int (d : Int), .bl turn] ∧ H b = some (.lst (l.map V.int)) ∧ ShAt H b sh cs nk ∧ d < n ∧
  Drawn K b H Q hdD (HdOk cs nk turn (d + 1) (Bd d))
section
variable {K : PySem.W.Frag}
theorem spStmt_zero (vs : List V) (H : Hp) (Q : VK) (E : XK) : ¬ spStmt K 0 vs H Q E := by
  rintro ⟨b, sh, l, cs, nk, d, turn, hand, _, _, _, h, _⟩
  omega
abbrev N_law_call : List Str := ["_law_box", "_law_shape", "_law_number", "_law_slot", "_law_parts", "_law_k"]
theorem rd_law_call (vs : List V) (H : Hp) (Q : VK) (E : XK) (h : spCallS K vs H Q E) : t_law_call K spTake (spPart K 5) { nx := fun _ H' => Q .non H', rt := Q } (start N_law_call vs) H := by
  obtain ⟨b, sh, l, cs, nk, rfl, hb, s, q⟩ := h
  obtain ⟨c, h1, h2, cb⟩ := s.ex
  refine ⟨_, rfl, rd_ixL (j := 0) rfl (SqL.of h1) rfl ⟨c, _, rfl, .inl (SqL.of h2), b, l, _, rfl, hb, by rw [List.length_map]; have := s.c0; omega, by rw [List.length_map]; have := s.c9; omega, fun x l1 H1 x0 x1 hb1 kp1 => ?_⟩⟩
  rw [List.length_map] at x1
  obtain ⟨f, rfl⟩ : ∃ f : Nat, x = (f : Int) := ⟨x.toNat, by omega⟩
  have hf : f < cs.length := by omega
  refine ⟨_, rfl, b, l1, 8, rfl, hb1, by decide, by decide, fun y l2 H2 y0 y1 hb2 kp2 => ?_⟩
  obtain ⟨k, rfl⟩ : ∃ k : Nat, y = (k : Int) := ⟨y.toNat, by omega⟩
  have s2 := s.mono (kp1.trans kp2)
  have h1' := (kp1.trans kp2) _ _ h1 s.ne
  have h2' := (kp1.trans kp2) _ _ h2 cb
  have ef : cs[f]? = some cs[f] := List.getElem?_eq_getElem hf
  have h3 : cs[f] ≤ 3 := s.c3 _ (List.getElem_mem hf)
  refine rd_ixL (j := 0) rfl (SqL.of h1') rfl ⟨_, rfl, c, _, _, .int ((cs[f] : Nat) : Int), rfl, rfl, SqL.of h2', atI_nat (j := f) (by rw [List.getElem?_map, ef]; rfl), _, rfl, by omega, by omega, fun D hD => ?_⟩
  refine lc_draw (K := K) (l := l2) Ex.d (fun e => e.Wf ∧ e.dep ≤ 2) _ ?hn hb2 hD ?hw ?_ ?_
  case hn => omega
  case hw => exact fun _ => rfl
  · intro i H3 l3 hi hb3 kp3 Q' dr
    exact ⟨_, rfl, b, l3, 1, rfl, hb3, by decide, fun v e l4 H4 we de te hb4 kp4 => dr v e l4 H4 ⟨we, de⟩ te hb4 kp4⟩
  · intro ps vs l3 H3 hl hg hD3 ht hb3 kp3
    rw [Int.toNat_natCast] at hl
    refine ⟨_, rfl, _, rfl, _, rfl, D, vs, rfl, .inl ⟨SqL.of hD3, fun p hp => ?_⟩⟩
    have hb4 := box_new (o := .tup vs) hb3 hp
    refine ⟨_, rfl, b, l3, 1000, rfl, hb4, by decide, by decide, fun m l4 H4 m0 m1 hb5 kp5 => ⟨(by show 5 ≤ sizeLine; decide), ?_⟩⟩
    have pb : p ≠ b := fun e => by rw [e, hb3] at hp; cases hp
    have hp5 := kp5 p _ upd_same pb
    have le : exsLen ps + 2 ≤ 11 := by
      have := exsLen_le (ps := ps) (n := 3) fun e he => Ex.len_le (n := 1) (hg e he).2
      rw [hl] at this
      omega
    refine Drawn.mk q (.call k f ps m) (fun _ _ => ⟨⟨by omega, by rw [ef, hl], by omega, fun e he => ⟨(hg e he).1, by have := (hg e he).2; omega⟩, m0, m1⟩, Nat.le_refl 1, le⟩) rfl ?_ hb5 ((((kp1.trans kp2).trans kp3).trans (Kp.new hp)).trans kp5)
    exact .cons (.str _) (.cons (.int _) (.cons (.int _) (.cons (.tup (.inl (.inl hp5)) ((ht.mono (Tk.new hp)).mono (kp5.tk1 hb4))) (.cons (.int _) .nil))))
abbrev N_law_simple : List Str := ["_law_box", "_law_shape", "_law_turn", "_law_handler_here", "_law_kind", "_law_number"]
theorem rd_law_simple (vs : List V) (H : Hp) (Q : VK) (E : XK) (h : spSimple K vs H Q E) : t_law_simple K spTake (spCallS K) (spPart K 5) { nx := fun _ H' => Q .non H', rt := Q } (start N_law_simple vs) H := by
  obtain ⟨b, sh, l, cs, nk, turn, hand, rfl, hb, s, q⟩ := h
  refine ⟨_, rfl, b, l, 9, rfl, hb, by decide, by decide, fun r l1 H1 r0 r1 hb1 kp1 => ?_⟩
  have s1 := s.mono kp1
  have l7 : ∀ {e : Ex}, e.dep ≤ 3 → e.len ≤ 7 := fun h => Ex.len_le (n := 2) h
  refine r_if (pb_and (pb_eqI rfl) (pb_var rfl)) (fun e => ?_) fun _ => r_if (pb_and (pb_eqI rfl) (pb_var rfl)) (fun e => ?_) fun _ => r_if (pb_eqI rfl) (fun _ => ?_) fun _ => r_if (pb_eqI rfl) (fun _ => ?_) fun _ => r_if (pb_eqI rfl) (fun _ => ?_) fun _ =>
    r_if (pb_eqI rfl) (fun _ => ?_) fun _ => r_if (pb_eqI rfl) (fun _ => ?_) fun _ => ?_
  · have hh : hand = true := (Bool.and_eq_true_iff.mp e).2
    exact ⟨(by show 1 ≤ sizeLine; decide), Drawn.mk q .again ⟨hh, Nat.le_refl 1, (by decide)⟩ rfl (.cons (.str _) .nil) hb1 kp1⟩
  · have hh : turn = true := (Bool.and_eq_true_iff.mp e).2
    refine ⟨(by show 2 ≤ sizeLine; decide), fun p hp => ?_⟩
    have hb2 := box_new (o := .lst [.str "break", .str "continue"]) hb1 hp
    have pb : p ≠ b := fun e => by rw [e, hb1] at hp; cases hp
    refine ⟨_, rfl, b, l1, 2, rfl, hb2, by decide, by decide, fun x l2 H2 x0 x1 hb3 kp3 => ?_⟩
    have hp3 := kp3 p _ upd_same pb
    have hx : x = 0 ∨ x = 1 := by omega
    rcases hx with rfl | rfl
    · exact ⟨p, _, 0, .str "break", rfl, rfl, SqL.of hp3, rfl, (by show 1 ≤ sizeLine; decide), Drawn.mk q .brk ⟨hh, Nat.le_refl 1, (by decide)⟩ rfl (.cons (.str _) .nil) hb3 ((kp1.trans (Kp.new hp)).trans kp3)⟩
    · exact ⟨p, _, 1, .str "continue", rfl, rfl, SqL.of hp3, rfl, (by show 1 ≤ sizeLine; decide), Drawn.mk q .cnt ⟨hh, Nat.le_refl 1, (by decide)⟩ rfl (.cons (.str _) .nil) hb3 ((kp1.trans (Kp.new hp)).trans kp3)⟩
  · exact ⟨_, rfl, _, rfl, b, sh, l1, cs, nk, rfl, hb1, s1, fun v x l' H' gx tx hb' kp' => q v x l' H' (gx turn hand) tx hb' (kp1.trans kp')⟩
  · refine ⟨_, rfl, b, l1, 1, rfl, hb1, by decide, fun v e l2 H2 we de te hb2 kp2 => ?_⟩
    obtain ⟨c, h1, h2, cb⟩ := s1.ex
    have h1' := kp2 _ _ h1 s1.ne
    refine ⟨_, rfl, rd_ixL (j := 1) rfl (SqL.of h1') rfl ⟨b, l2, _, rfl, hb2, by have := s.n0; omega, by have := s.n9; omega, fun x l3 H3 x0 x1 hb3 kp3 => ⟨_, rfl, ?_⟩⟩⟩
    obtain ⟨kd, rfl⟩ : ∃ k : Nat, x = (k : Int) := ⟨x.toNat, by omega⟩
    refine ⟨_, rfl, b, l3, 1000, rfl, hb3, by decide, by decide, fun m l4 H4 m0 m1 hb4 kp4 => ⟨(by show 4 ≤ sizeLine; decide), ?_⟩⟩
    have le := Ex.len_le (n := 1) de
    exact Drawn.mk q (.rais kd e m) ⟨⟨by omega, ⟨we, by omega⟩, m0, m1⟩, Nat.le_refl 1, by show e.len + 1 ≤ 11; omega⟩ rfl (.cons (.str _) (.cons (.int _) (.cons ((te.mono (kp3.tk1 hb2)).mono (kp4.tk1 hb3)) (.cons (.int _) .nil)))) hb4 (((kp1.trans kp2).trans kp3).trans kp4)
  · refine ⟨_, rfl, b, l1, 2, rfl, hb1, by decide, fun v e l2 H2 we de te hb2 kp2 => ⟨(by show 2 ≤ sizeLine; decide), ?_⟩⟩
    have le := l7 de
    exact Drawn.mk q (.ret e) ⟨⟨we, by omega⟩, Nat.le_refl 1, by show e.len + 1 ≤ 11; omega⟩ rfl (.cons (.str _) (.cons te .nil)) hb2 (kp1.trans kp2)
  · refine ⟨(by show 0 ≤ sizeLine; decide), fun p hp => ⟨(by show 2 ≤ sizeLine; decide), ?_⟩⟩
    exact Drawn.mk q (.row .nil) ⟨trivial, Nat.le_refl 1, by show 0 ≤ 11; omega⟩ rfl (.cons (.str _) (.cons (.tup (.inl (.inl upd_same)) .nil) .nil)) (box_new hb1 hp) (kp1.trans (Kp.new hp))
  · refine ⟨_, rfl, b, l1, 8, rfl, hb1, by decide, by decide, fun x l2 H2 x0 x1 hb2 kp2 => ?_⟩
    obtain ⟨k, rfl⟩ : ∃ k : Nat, x = (k : Int) := ⟨x.toNat, by omega⟩
    refine ⟨_, rfl, b, l2, 2, rfl, hb2, by decide, fun v e l3 H3 we de te hb3 kp3 => ⟨(by show 3 ≤ sizeLine; decide), ?_⟩⟩
    have le := l7 de
    exact Drawn.mk q (.set k e) ⟨⟨by omega, we, by omega⟩, Nat.le_refl 1, by show e.len + 1 ≤ 11; omega⟩ rfl (.cons (.str _) (.cons (.int _) (.cons te .nil))) hb3 ((kp1.trans kp2).trans kp3)
  · refine ⟨_, rfl, b, l1, 2, rfl, hb1, by decide, fun v e l2 H2 we de te hb2 kp2 => ⟨(by show 2 ≤ sizeLine; decide), ?_⟩⟩
    have le := l7 de
    exact Drawn.mk q (.say e) ⟨⟨we, by omega⟩, Nat.le_refl 1, by show e.len + 1 ≤ 11; omega⟩ rfl (.cons (.str _) (.cons te .nil)) hb2 (kp1.trans kp2)
abbrev N_law_handler : List Str := ["_law_box", "_law_shape", "_law_deep", "_law_turn", "_law_kind", "_law_slot"]
theorem rd_law_handler {n : Nat} (vs : List V) (H : Hp) (Q : VK) (E : XK) (h : spHandler K n vs H Q E) : t_law_handler K spTake (spStmt K n) { nx := fun _ H' => Q .non H', rt := Q } (start N_law_handler vs) H := by
  obtain ⟨b, sh, l, cs, nk, d, turn, rfl, hb, s, hd, q⟩ := h
  obtain ⟨c, h1, h2, cb⟩ := s.ex
  refine ⟨_, rfl, rd_ixL (j := 1) rfl (SqL.of h1) rfl ⟨_, _, rfl, rfl, b, l, _, rfl, hb, by have := s.n0; omega, by have := s.n9; omega, fun r l1 H1 r0 r1 hb1 kp1 => ?_⟩⟩
  refine ⟨_, rfl, b, l1, 8, rfl, hb1, by decide, by decide, fun x l2 H2 x0 x1 hb2 kp2 => ?_⟩
  obtain ⟨k, rfl⟩ : ∃ k : Nat, x = (k : Int) := ⟨x.toNat, by omega⟩
  have s2 := s.mono (kp1.trans kp2)
  have h1' := (kp1.trans kp2) _ _ h1 s.ne
  have fin : ∀ o : Option Nat, (∀ j, o = some j → j < nk) → (tRet (tTup (tCons (tVar 4) (tCons (tVar 5) (tCons (tCall (spStmt K n) [] E0 (tCons (tVar 0) (tCons (tVar 1) (tCons (tVar 2) (tCons (tVar 3) (tCons (tC (.bl true)) (tNil))))))) (tNil)))))) { nx := fun _ H' => Q .non H', rt := Q } [some (.ref b), some (.ref sh), some (.int (d : Int)), some (.bl turn), some (kindV o), some (.int (k : Int))] H2 := by
    intro o ho
    refine ⟨_, rfl, _, rfl, _, rfl, _, rfl, _, rfl, _, rfl, b, sh, l2, cs, nk, d, turn, true, rfl, hb2, s2, hd, fun v st l3 H3 g3 t3 hb3 kp3 => ⟨(by show 3 ≤ sizeLine; decide), ?_⟩⟩
    refine Drawn.mk q (o, k, st) ⟨⟨ho, by show k < 8; omega, g3.1⟩, g3.2⟩ rfl ?_ hb3 ((kp1.trans kp2).trans kp3)
    refine .cons ?_ (.cons (.int _) (.cons t3 .nil))
    cases o with
    | none => exact .non
    | some j => exact .int _
  refine ⟨_, rfl, rd_ixL (j := 1) rfl (SqL.of h1') rfl ⟨rfl, _, rfl, ifB (fun _ => fin none fun _ z => by cases z) fun e => ?_⟩⟩
  have hr : r ≠ (nk : Int) := fun z => by rw [z] at e; simp at e
  have := fin (some r.toNat) fun j z => by cases z; omega
  rw [show kindV (some r.toNat) = V.int r by show V.int (r.toNat : Int) = _; rw [Int.toNat_of_nonneg r0]] at this
  exact this
theorem stT {cs : List Nat} {nk : Nat} {turn hand : Bool} {D R D' R' : Nat} {s : Sm} (h : StmtOk cs nk turn hand D R s) (hd : D ≤ D') (hr : R ≤ R') : StmtOk cs nk turn hand D' R' s := ⟨h.1, Nat.le_trans h.2.1 hd, Nat.le_trans h.2.2 hr⟩
theorem d5 {b sh : Addr} {d : Nat} {t u : Bool} (h : 0 < d) : [V.ref b, .ref sh, V.int ((d : Int) - 1), .bl t, .bl u] = [V.ref b, .ref sh, V.int ((d - 1 : Nat) : Int), .bl t, .bl u] := by
  rw [show ((d : Int) - 1) = ((d - 1 : Nat) : Int) by omega]
theorem d4 {b sh : Addr} {d : Nat} {t : Bool} (h : 0 < d) : [V.ref b, .ref sh, V.int ((d : Int) - 1), .bl t] = [V.ref b, .ref sh, V.int ((d - 1 : Nat) : Int), .bl t] := by
  rw [show ((d : Int) - 1) = ((d - 1 : Nat) : Int) by omega]
abbrev N_law_statement : List Str := ["_law_box", "_law_shape", "_law_deep", "_law_turn", "_law_handler_here", "_law_kind", "_law_k", "_law_many", "_law_part_here", "_law_yes", "_law_inner"]
theorem rd_law_statement {n : Nat} (vs : List V) (H : Hp) (Q : VK) (E : XK) (h : spStmt K (n + 1) vs H Q E) : t_law_statement K spTake (spSimple K) (spStmt K n) (spPart K 5) (spHandler K n) { nx := fun _ H' => Q .non H', rt := Q } (start N_law_statement vs) H := by
  obtain ⟨b, sh, l, cs, nk, d, turn, hand, rfl, hb, s, hd, q⟩ := h
  refine ⟨_, rfl, b, l, 14, rfl, hb, by decide, by decide, fun r l1 H1 r0 r1 hb1 kp1 => ?_⟩
  have s1 := s.mono kp1
  refine r_if (pb_or (pb_eqI rfl) (pb_lt rfl)) (fun _ => ?_) fun e => ?_
  · exact ⟨_, rfl, _, rfl, _, rfl, _, rfl, b, sh, l1, cs, nk, turn, hand, rfl, hb1, s1, fun v x l' H' gx tx hb' kp' => q v x l' H' (stT gx (by omega) (Bd_ge d)) tx hb' (kp1.trans kp')⟩
  obtain ⟨e0, _⟩ := Bool.or_eq_false_iff.mp e
  have hd0 : 0 < d := by
    by_cases z : d = 0
    · subst z; exact absurd rfl (of_decide_eq_false e0)
    · omega
  obtain ⟨d, rfl⟩ : ∃ m, d = m + 1 := ⟨d - 1, by omega⟩
  have eB : Bd (d + 1) = max 66 (3 * Bd d + 9) := rfl
  have gB := Bd_ge d
  have rest : ∀ (l1 : List Int) (H1 : Hp), H1 b = some (.lst (l1.map V.int)) → Kp (Bx b) H H1 → ShAt H1 b sh cs nk → (tSeq (tIfS (tTest (tOp rLt (tVar 5) (tC (.int 7)))) (tSeq (tAsg (tOp rAdI (tC (.int 2)) (tCall spTake [] E0 (tCons (tVar 0) (tCons (tC (.int 2)) (tNil))))) (gName 7)) (tRet (tTup (tCons (tC (.str "row")) (tCons (tCB (rTupOf K) (tCons (tLc (iRng1 (tCons (tVar 7) (tNil))) (gName 6) (tYes) (tCall (spStmt K n) [] E0 (tCons (tVar 0) (tCons (tVar 1) (tCons (tOp rSbI (tVar 2) (tC (.int 1))) (tCons (tVar 3) (tCons (tVar 4) (tNil))))))) [6]) (tNil))) (tNil)))))) (tNext)) (tSeq (tIfS (tTest (tOp rEq (tVar 5) (tC (.int 7)))) (tSeq (tAsg (tCall (spPart K 5) [] E0 (tCons (tVar 0) (tCons (tC (.int 2)) (tNil)))) (gName 8)) (tSeq (tAsg (tCall (spStmt K n) [] E0 (tCons (tVar 0) (tCons (tVar 1) (tCons (tOp rSbI (tVar 2) (tC (.int 1))) (tCons (tVar 3) (tCons (tVar 4) (tNil))))))) (gName 9)) (tRet (tTup (tCons (tC (.str "if")) (tCons (tVar 8) (tCons (tVar 9) (tCons (tCall (spStmt K n) [] E0 (tCons (tVar 0) (tCons (tVar 1) (tCons (tOp rSbI (tVar 2) (tC (.int 1))) (tCons (tVar 3) (tCons (tVar 4) (tNil))))))) (tNil))))))))) (tNext)) (tSeq (tIfS (tTest (tOp rLt (tVar 5) (tC (.int 9)))) (tSeq (tAsg (tCall (spPart K 5) [] E0 (tCons (tVar 0) (tCons (tC (.int 2)) (tNil)))) (gName 8)) (tRet (tTup (tCons (tC (.str "while")) (tCons (tVar 8) (tCons (tCall (spStmt K n) [] E0 (tCons (tVar 0) (tCons (tVar 1) (tCons (tOp rSbI (tVar 2) (tC (.int 1))) (tCons (tC (.bl true)) (tCons (tVar 4) (tNil))))))) (tNil))))))) (tNext)) (tSeq (tAsg (tCall (spStmt K n) [] E0 (tCons (tVar 0) (tCons (tVar 1) (tCons (tOp rSbI (tVar 2) (tC (.int 1))) (tCons (tVar 3) (tCons (tVar 4) (tNil))))))) (gName 10)) (tSeq (tIfS (tTest (tOp rLt (tVar 5) (tC (.int 12)))) (tSeq (tAsg (tOp rAdI (tC (.int 1)) (tCall spTake [] E0 (tCons (tVar 0) (tCons (tC (.int 2)) (tNil))))) (gName 7)) (tRet (tTup (tCons (tC (.str "try")) (tCons (tVar 10) (tCons (tCB (rTupOf K) (tCons (tLc (iRng1 (tCons (tVar 7) (tNil))) (gName 6) (tYes) (tCall (spHandler K n) [] E0 (tCons (tVar 0) (tCons (tVar 1) (tCons (tOp rSbI (tVar 2) (tC (.int 1))) (tCons (tVar 3) (tNil)))))) [6]) (tNil))) (tNil))))))) (tNext)) (tRet (tTup (tCons (tC (.str "clean")) (tCons (tVar 10) (tCons (tCall (spStmt K n) [] E0 (tCons (tVar 0) (tCons (tVar 1) (tCons (tOp rSbI (tVar 2) (tC (.int 1))) (tCons (tVar 3) (tCons (tVar 4) (tNil))))))) (tNil))))))))))) { nx := fun _ H' => Q .non H', rt := Q } [some (.ref b), some (.ref sh), some (.int ((d + 1 : Nat) : Int)), some (.bl turn), some (.bl hand), some (.int r), none, none, none, none, none] H1 := by
    intro l1 H1 hb1 kp1 s1
    -- a statement one less deep
    have sub : ∀ (t h : Bool) {l2 : List Int} {H2 : Hp} {Q2 : VK}, H2 b = some (.lst (l2.map V.int)) → ShAt H2 b sh cs nk → Drawn K b H2 Q2 Sm.d (StmtOk cs nk t h (d + 1) (Bd d)) → spStmt K n [.ref b, .ref sh, .int (((d + 1 : Nat) : Int) - 1), .bl t, .bl h] H2 Q2 E0 :=
      fun t h {l2 H2 Q2} hb2 s2 dr => ⟨b, sh, l2, cs, nk, d, t, h, by rw [show (((d + 1 : Nat) : Int) - 1) = (d : Int) by omega], hb2, s2, by omega, dr⟩
    refine r_if (pb_lt rfl) (fun _ => ?_) fun _ => r_if (pb_eqI rfl) (fun _ => ?_) fun _ => r_if (pb_lt rfl) (fun _ => ?_) fun _ => ?_
    · -- row
      refine ⟨_, rfl, b, l1, 2, rfl, hb1, by decide, by decide, fun x l2 H2 x0 x1 hb2 kp2 => ⟨_, _, rfl, rfl, ?_⟩⟩
      have s2 := s1.mono kp2
      refine ⟨_, rfl, _, rfl, by omega, by omega, fun D hD => ?_⟩
      refine lc_draw (K := K) (l := l2) Sm.d (StmtOk cs nk turn hand (d + 1) (Bd d)) _ ?hn hb2 hD ?hw ?_ ?_
      case hn => omega
      case hw => exact fun _ => rfl
      · intro i H3 l3 hi hb3 kp3 Q' dr
        exact ⟨_, rfl, _, rfl, _, rfl, _, _, rfl, rfl, _, rfl, _, rfl, sub turn hand hb3 (s2.mono kp3) dr⟩
      · intro items us l3 H3 hl hg hD3 ht hb3 kp3
        refine ⟨D, us, rfl, .inl ⟨SqL.of hD3, fun p hp => ⟨(by show 2 ≤ sizeLine; decide), ?_⟩⟩⟩
        have hl3 : items.length ≤ 3 := by omega
        have len := Sms.len_ofL (n := Bd d) fun s hs => (hg s hs).2.2
        have : items.length * Bd d ≤ 3 * Bd d := Nat.mul_le_mul_right _ hl3
        refine Drawn.mk q (.row (Sms.ofL items)) ⟨Sms.wf_ofL fun s hs => (hg s hs).1, ?_, ?_⟩ rfl (.cons (.str _) (.cons (.tup (.inl (.inl upd_same)) ?_) .nil)) (box_new hb3 hp) (((kp1.trans kp2).trans kp3).trans (Kp.new hp))
        · show (Sms.ofL items).dep + 1 ≤ d + 1 + 1
          have := Sms.dep_ofL (n := d + 1) fun s hs => (hg s hs).2.1
          omega
        · show (Sms.ofL items).len ≤ Bd (d + 1)
          omega
        · rw [Sms.ds_ofL]
          exact ht.mono (Tk.new hp)
    · -- if
      refine ⟨_, rfl, b, l1, 2, rfl, hb1, by decide, fun v e l2 H2 we de te hb2 kp2 => ?_⟩
      refine ⟨_, rfl, _, rfl, _, rfl, _, _, rfl, rfl, _, rfl, _, rfl, sub turn hand hb2 (s1.mono kp2) fun v1 y l3 H3 gy ty hb3 kp3 => ?_⟩
      refine ⟨_, rfl, _, rfl, _, rfl, _, rfl, _, rfl, _, _, rfl, rfl, _, rfl, _, rfl, sub turn hand hb3 ((s1.mono kp2).mono kp3) fun v2 z l4 H4 gz tz hb4 kp4 => ⟨(by show 4 ≤ sizeLine; decide), ?_⟩⟩
      have le := Ex.len_le (n := 2) de
      have y2 := gy.2.1; have y3 := gy.2.2; have z2 := gz.2.1; have z3 := gz.2.2
      exact Drawn.mk q (.ife e y z) ⟨⟨⟨we, by omega⟩, gy.1, gz.1⟩, by show max y.dep z.dep + 1 ≤ _; omega, by show e.len + 1 + y.len + 1 + z.len ≤ _; omega⟩ rfl (.cons (.str _) (.cons ((te.mono (kp3.tk1 hb2)).mono (kp4.tk1 hb3)) (.cons (ty.mono (kp4.tk1 hb3)) (.cons tz .nil)))) hb4 (((kp1.trans kp2).trans kp3).trans kp4)
    · -- while
      refine ⟨_, rfl, b, l1, 2, rfl, hb1, by decide, fun v e l2 H2 we de te hb2 kp2 => ?_⟩
      refine ⟨_, rfl, _, rfl, _, rfl, _, rfl, _, _, rfl, rfl, _, rfl, sub true hand hb2 (s1.mono kp2) fun v1 y l3 H3 gy ty hb3 kp3 => ⟨(by show 3 ≤ sizeLine; decide), ?_⟩⟩
      have le := Ex.len_le (n := 2) de
      have y2 := gy.2.1; have y3 := gy.2.2
      exact Drawn.mk q (.whl e y) ⟨⟨⟨we, by omega⟩, gy.1⟩, by show y.dep + 1 ≤ _; omega, by show e.len + 2 + y.len + 1 ≤ _; omega⟩ rfl (.cons (.str _) (.cons (te.mono (kp3.tk1 hb2)) (.cons ty .nil))) hb3 ((kp1.trans kp2).trans kp3)
    · -- try, clean
      refine ⟨_, rfl, _, rfl, _, rfl, _, _, rfl, rfl, _, rfl, _, rfl, sub turn hand hb1 s1 fun v1 y l2 H2 gy ty hb2 kp2 => ?_⟩
      have s2 := s1.mono kp2
      have y2 := gy.2.1; have y3 := gy.2.2
      refine r_if (pb_lt rfl) (fun _ => ?_) fun _ => ?_
      · refine ⟨_, rfl, b, l2, 2, rfl, hb2, by decide, by decide, fun x l3 H3 x0 x1 hb3 kp3 => ⟨_, _, rfl, rfl, ?_⟩⟩
        have s3 := s2.mono kp3
        refine ⟨_, rfl, _, rfl, _, rfl, by omega, by omega, fun D hD => ?_⟩
        refine lc_draw (K := K) (l := l3) hdD (HdOk cs nk turn (d + 1) (Bd d)) _ ?hn2 hb3 hD ?hw2 ?_ ?_
        case hn2 => omega
        case hw2 => exact fun _ => rfl
        · intro i H4 l4 hi hb4 kp4 Q' dr
          exact ⟨_, rfl, _, rfl, _, rfl, _, _, rfl, rfl, _, rfl, b, sh, l4, cs, nk, d, turn, by show [V.ref b, .ref sh, V.int (((d + 1 : Nat) : Int) - 1), .bl turn] = _; rw [show (((d + 1 : Nat) : Int) - 1) = (d : Int) by omega], hb4, s3.mono kp4, by omega, dr⟩
        · intro items us l4 H4 hl hg hD4 ht hb4 kp4
          refine ⟨D, us, rfl, .inl ⟨SqL.of hD4, fun p hp => ⟨(by show 3 ≤ sizeLine; decide), ?_⟩⟩⟩
          have hl3 : items.length ≤ 2 := by omega
          have len := Hds.len_ofL (n := Bd d) fun s hs => (hg s hs).2.2
          have : items.length * (Bd d + 4) ≤ 2 * (Bd d + 4) := Nat.mul_le_mul_right _ hl3
          refine Drawn.mk q (.tri y (Hds.ofL items)) ⟨⟨gy.1, Hds.wf_ofL fun s hs => (hg s hs).1⟩, ?_, ?_⟩ rfl (.cons (.str _) (.cons (((ty.mono (kp3.tk1 hb2)).mono (kp4.tk1 hb3)).mono (Tk.new hp)) (.cons (.tup (.inl (.inl upd_same)) ?_) .nil))) (box_new hb4 hp) ((((kp1.trans kp2).trans kp3).trans kp4).trans (Kp.new hp))
          · show max y.dep (Hds.ofL items).dep + 1 ≤ d + 1 + 1
            have := Hds.dep_ofL (n := d + 1) fun s hs => (hg s hs).2.1
            omega
          · show y.len + 1 + (Hds.ofL items).len ≤ Bd (d + 1)
            omega
          · rw [Hds.ds_ofL]
            exact ht.mono (Tk.new hp)
      · refine ⟨_, rfl, _, rfl, _, rfl, _, rfl, _, _, rfl, rfl, _, rfl, _, rfl, sub turn hand hb2 s2 fun v2 z l3 H3 gz tz hb3 kp3 => ⟨(by show 3 ≤ sizeLine; decide), ?_⟩⟩
        have z2 := gz.2.1; have z3 := gz.2.2
        exact Drawn.mk q (.cln y z) ⟨⟨gy.1, gz.1⟩, by show max y.dep z.dep + 1 ≤ _; omega, by show y.len + 2 + z.len + 1 ≤ _; omega⟩ rfl (.cons (.str _) (.cons (ty.mono (kp3.tk1 hb2)) (.cons tz .nil))) hb3 ((kp1.trans kp2).trans kp3)
  -- kind 4, a row of simple ones
  refine ⟨_, rfl, rfl, _, rfl, ifB (fun _ => ?_) fun _ => rest l1 H1 hb1 kp1 s1⟩
  refine ⟨_, rfl, b, l1, 3, rfl, hb1, by decide, by decide, fun x l2 H2 x0 x1 hb2 kp2 => ⟨rfl, _, rfl, ifB (fun _ => ?_) fun _ => rest l2 H2 hb2 (kp1.trans kp2) (s1.mono kp2)⟩⟩
  refine ⟨_, rfl, b, l2, 7, rfl, hb2, by decide, by decide, fun y l3 H3 y0 y1 hb3 kp3 => ⟨_, rfl, by omega, by omega, fun D hD => ?_⟩⟩
  have s3 := (s1.mono kp2).mono kp3
  refine lc_draw (K := K) (l := l3) Sm.d (StmtOk cs nk turn hand 1 11) _ ?hn hb3 hD ?hw ?_ ?_
  case hn => omega
  case hw => exact fun _ => rfl
  · intro i H4 l4 hi hb4 kp4 Q' dr
    exact ⟨_, rfl, _, rfl, _, rfl, _, rfl, b, sh, l4, cs, nk, turn, hand, rfl, hb4, s3.mono kp4, dr⟩
  · intro items us l4 H4 hl hg hD4 ht hb4 kp4
    refine ⟨D, us, rfl, .inl ⟨SqL.of hD4, fun p hp => ⟨(by show 2 ≤ sizeLine; decide), ?_⟩⟩⟩
    have hl6 : items.length ≤ 6 := by omega
    have len := Sms.len_ofL (n := 11) fun s hs => (hg s hs).2.2
    have : items.length * 11 ≤ 6 * 11 := Nat.mul_le_mul_right _ hl6
    refine Drawn.mk q (.row (Sms.ofL items)) ⟨Sms.wf_ofL fun s hs => (hg s hs).1, ?_, ?_⟩ rfl (.cons (.str _) (.cons (.tup (.inl (.inl upd_same)) ?_) .nil)) (box_new hb4 hp) ((((kp1.trans kp2).trans kp3).trans kp4).trans (Kp.new hp))
    · show (Sms.ofL items).dep + 1 ≤ d + 1 + 1
      have := Sms.dep_ofL (n := 1) fun s hs => (hg s hs).2.1
      omega
    · show (Sms.ofL items).len ≤ Bd (d + 1)
      omega
    · rw [Sms.ds_ofL]
      exact ht.mono (Tk.new hp)
/-! ### programs -/
structure PgOk (p : Pg) : Prop where
  wf : p.Wf
  small : p.Small 5 1890
  k4 : p.kinds.length ≤ 4
  f4 : p.funs.length ≤ 4
def spProgram (K : PySem.W.Frag) : Sp := fun vs H Q _ => ∃ (b : Addr) (l : List Int), vs = [.ref b] ∧ H b = some (.lst (l.map V.int)) ∧ Drawn K b H Q Pg.d PgOk
abbrev N_law_program : List Str := ["_law_box", "_law_kinds_here", "_law_shape", "_law_k", "_law_functions", "_law_many", "_law_parts"]
theorem rd_law_program (vs : List V) (H : Hp) (Q : VK) (E : XK) (h : spProgram K vs H Q E) : t_law_program K spKinds spTake (spStmt K 4) { nx := fun _ H' => Q .non H', rt := Q } (start N_law_program vs) H := by
  obtain ⟨b, l, rfl, hb, q⟩ := h
  refine ⟨_, rfl, b, l, 4, rfl, hb, by decide, by decide, fun a ks l1 H1 wk k0 k4 ha _ hb1 kp1 => ?_⟩
  have ab : a ≠ b := ne_of ha hb1 (by intro z; cases z)
  refine ⟨_, rfl, b, l1, 4, rfl, hb1, by decide, by decide, fun n l2 H2 n0 n1 hb2 kp2 => ⟨_, _, rfl, rfl, ?_⟩⟩
  refine ⟨_, rfl, by omega, by omega, fun c hc => ?_⟩
  have cb : c ≠ b := fun e => by rw [e, hb2] at hc; cases hc
  refine lc_draw (K := K) (l := l2) (fun n : Nat => PyData.int (n : Int)) (fun n : Nat => n ≤ 3) _ ?hn hb2 hc ?hw ?_ ?_
  case hn => omega
  case hw => exact fun _ => rfl
  · intro i H3 l3 hi hb3 kp3 Q' dr
    refine ⟨_, rfl, b, l3, 4, rfl, hb3, by decide, by decide, fun x l4 H4 x0 x1 hb4 kp4 => ?_⟩
    obtain ⟨k, rfl⟩ : ∃ k : Nat, x = (k : Int) := ⟨x.toNat, by omega⟩
    exact dr _ k l4 H4 (by show k ≤ 3; omega) (.int _) hb4 kp4
  · intro cs cvs l3 H3 hl hg hc3 ht hb3 kp3
    have ecs : cvs = cs.map fun n : Nat => V.int (n : Int) := by
      clear hl hg hc3
      induction cs generalizing cvs with
      | nil => exact ht.nilE
      | cons x r ih =>
        obtain ⟨v, us, rfl, h1, h2⟩ := TpAll.consE ht
        rw [h1.intE, ih us h2]; rfl
    subst ecs
    have ha3 := kp3 _ _ (kp2 _ _ ha ab) ab
    refine ⟨_, rfl, a, _, rfl, .inr (SqT.of ha3), (by show 2 ≤ sizeLine; decide), fun sh hsh => ?_⟩
    rw [List.length_map]
    have hc4 : L2.upd H3 sh (.lst [.ref c, .int (ks.length : Int)]) c = some (.lst (cs.map fun n : Nat => V.int (n : Int))) := by rw [upd_ne (ne_of_none hc3 hsh)]; exact hc3
    have hb4 := box_new (o := .lst [.ref c, .int (ks.length : Int)]) hb3 hsh
    have shb : sh ≠ b := fun e => by rw [e, hb3] at hsh; cases hsh
    have shA : ShAt (L2.upd H3 sh (.lst [.ref c, .int (ks.length : Int)])) b sh cs ks.length := ⟨⟨c, upd_same, hc4, cb⟩, shb, k0, by omega, by omega, by omega, hg⟩
    have ha4 : L2.upd H3 sh (.lst [.ref c, .int (ks.length : Int)]) a = some (.tup (ks.map kindV)) := by rw [upd_ne (ne_of_none ha3 hsh)]; exact ha3
    have kp4 : Kp (Bx b) H (L2.upd H3 sh (.lst [.ref c, .int (ks.length : Int)])) := ((kp1.trans kp2).trans kp3).trans (Kp.new hsh)
    refine ⟨(by show 0 ≤ sizeLine; decide), fun F hF => ?_⟩
    have Fb : F ≠ b := fun e => by rw [e, hb4] at hF; cases hF
    have Fsh : F ≠ sh := fun e => by rw [e, upd_same] at hF; cases hF
    have Fc : F ≠ c := fun e => by rw [e, hc4] at hF; cases hF
    have Fa : F ≠ a := fun e => by rw [e, ha4] at hF; cases hF
    have shA5 : ShAt (L2.upd (L2.upd H3 sh (.lst [.ref c, .int (ks.length : Int)])) F (.lst [])) b sh cs ks.length := shA.mono (Kp.new hF)
    obtain ⟨c', hx1, hx2, _⟩ := shA5.ex
    refine rd_ixL (j := 0) rfl (SqL.of hx1) rfl ⟨_, rfl, ⟨_, SqL.of hx2⟩, for_list (K := K) (a := c') (xs := cs.map fun n : Nat => V.int (n : Int))
      (fun i σ H' => ∃ (fs : List (Nat × Sm)) (fvs : List V) (l' : List Int) (v3 v5 v6 : Option V), σ = [some (.ref b), some (.ref a), some (.ref sh), v3, some (.ref F), v5, v6] ∧ fs.map (·.1) = cs.take i ∧
        (∀ f ∈ fs, f.2.Wf cs ks.length false false ∧ f.2.dep ≤ 5 ∧ f.2.len ≤ 1890) ∧ H' F = some (.lst fvs) ∧ TpAll K H' fvs (fs.map funD) ∧ H' b = some (.lst (l'.map V.int)) ∧ Kp (Bx b) (L2.upd H3 sh (.lst [.ref c, .int (ks.length : Int)])) H' ∧ H' c' = some (.lst (cs.map fun n : Nat => V.int (n : Int))))
      ⟨[], [], l3, none, none, none, rfl, rfl, (by simp), upd_same, .nil, box_new hb4 hF, Kp.new hF, hx2⟩ (fun i σ H' _ ⟨_, _, _, _, _, _, _, _, _, _, _, _, _, h⟩ => SqL.of h) ?_ ?_⟩
    · rintro i y σ H5 hy ⟨fs, fvs, l5, v3, v5, v6, rfl, hf1, hf2, hF5, ht5, hb5, kp5, hc5⟩
      have shA6 := shA.mono kp5
      rw [List.getElem?_map] at hy
      cases ei : cs[i]? with
      | none => rw [ei] at hy; cases hy
      | some m =>
        rw [ei] at hy
        obtain rfl : V.int (m : Int) = y := Option.some.inj hy
        refine ⟨_, rfl, b, l5, 3, rfl, hb5, by decide, by decide, fun x l6 H6 x0 x1 hb6 kp6 => ⟨_, _, rfl, rfl, ?_⟩⟩
        have F6 := kp6 _ _ hF5 Fb
        refine ⟨_, rfl, by omega, by omega, fun D hD => ?_⟩
        have DF : F ≠ D := ne_of_none F6 hD
        refine lc_draw (K := K) (l := l6) Sm.d (StmtOk cs ks.length false false 4 (Bd 3)) _ ?hn hb6 hD ?hw ?_ ?_
        case hn => omega
        case hw => exact fun _ => rfl
        · intro i7 H7 l7 hi hb7 kp7 Q' dr
          exact ⟨_, rfl, _, rfl, b, sh, l7, cs, ks.length, 3, false, false, rfl, hb7, (shA6.mono kp6).mono kp7, by decide, dr⟩
        · intro items us l7 H7 hl7 hg7 hD7 ht7 hb7 kp7
          have F7 := kp7 _ _ F6 Fb
          refine ⟨_, rfl, .inl ⟨rfl, _, SqL.of F7⟩, _, rfl, _, rfl, D, us, rfl, .inl ⟨SqL.of hD7, fun p hp => ⟨(by show 2 ≤ sizeLine; decide), fun p2 hp2 => ⟨(by show 2 ≤ sizeLine; decide), fun p3 hp3 => ?_⟩⟩⟩⟩
          have hb8 := box_new (o := .tup us) hb7 hp
          have hb9 := box_new (o := .tup [.str "row", .ref p]) hb8 hp2
          have hb10 := box_new (o := .tup [.int (m : Int), .ref p2]) hb9 hp3
          have F8 : L2.upd (L2.upd (L2.upd H7 p (.tup us)) p2 (.tup [.str "row", .ref p])) p3 (.tup [.int (m : Int), .ref p2]) F = some (.lst fvs) := by
            have e1 := ne_of_none F7 hp
            have z1 : L2.upd H7 p (.tup us) F = some (.lst fvs) := by rw [upd_ne e1]; exact F7
            have e2 := ne_of_none z1 hp2
            have z2 : L2.upd (L2.upd H7 p (.tup us)) p2 (.tup [.str "row", .ref p]) F = some (.lst fvs) := by rw [upd_ne e2]; exact z1
            rw [upd_ne (ne_of_none z2 hp3)]; exact z2
          have kpX : Kp (Bx b) H5 (L2.upd (L2.upd (L2.upd H7 p (.tup us)) p2 (.tup [.str "row", .ref p])) p3 (.tup [.int (m : Int), .ref p2])) := (((kp6.trans kp7).trans (Kp.new hp)).trans (Kp.new hp2)).trans (Kp.new hp3)
          have tkX : Tk H5 (L2.upd (L2.upd (L2.upd H7 p (.tup us)) p2 (.tup [.str "row", .ref p])) p3 (.tup [.int (m : Int), .ref p2])) := kpX.tk1 hb5
          have tB : TpAll K (L2.upd (L2.upd H7 p (.tup us)) p2 (.tup [.str "row", .ref p])) [.int (m : Int), .ref p2] [.int (m : Int), (Sm.row (Sms.ofL items)).d] := by
            refine .cons (.int _) (.cons (Tp.mk hp2 (.cons (.str _) (.cons (Tp.mk hp ?_) .nil))) .nil)
            rw [Sms.ds_ofL]; exact ht7
          have len := Sms.len_ofL (n := 630) fun s hs => (hg7 s hs).2.2
          have dep := Sms.dep_ofL (n := 4) fun s hs => (hg7 s hs).2.1
          have : items.length * 630 ≤ 3 * 630 := Nat.mul_le_mul_right _ (by omega)
          have fl : fvs.length = i := by
            have e1 := ht5.length
            have e2 : fs.length = (cs.take i).length := by rw [← hf1, List.length_map]
            have := (List.getElem?_eq_some_iff.mp ei).1
            rw [List.length_map] at e1
            rw [List.length_take] at e2
            omega
          have ilt := (List.getElem?_eq_some_iff.mp ei).1
          refine ⟨F, fvs, .ref p3, rfl, rfl, F8, sz_lt1 (by omega), fs ++ [(m, .row (Sms.ofL items))], fvs ++ [.ref p3], l7, _, _, _, rfl, ?_, ?_, upd_same, ?_, ?_, ?_, ?_⟩
          · rw [List.map_append, hf1, List.take_succ, ei]; rfl
          · intro f hf
            rcases List.mem_append.mp hf with z | z
            · exact hf2 f z
            · obtain rfl : f = (m, .row (Sms.ofL items)) := by simpa using z
              exact ⟨Sms.wf_ofL fun s hs => (hg7 s hs).1, by show (Sms.ofL items).dep + 1 ≤ 5; omega, by show (Sms.ofL items).len ≤ 1890; omega⟩
          · rw [List.map_append]
            exact ((ht5.mono tkX).snoc (Tp.mk hp3 tB)).mono (Tk.lst F8)
          · rw [upd_ne Fb.symm]; exact hb10
          · exact (kp5.trans kpX).late hF
          · have cF : c' ≠ F := by
              rintro rfl
              rw [upd_same] at hx2
              have := Option.some.inj hx2
              injection this with e
              have hz := shA.c0
              cases cs with
              | nil => simp at hz
              | cons _ _ => cases e
            have cb' : c' ≠ b := by
              obtain ⟨c2, _, _, h3⟩ := shA5.ex
              assumption
            rw [upd_ne cF]; exact kpX _ _ hc5 cb'
    · rintro σ H5 ⟨fs, fvs, l5, v3, v5, v6, rfl, hf1, hf2, hF5, ht5, hb5, kp5, hc5⟩
      rw [List.length_map, List.take_of_length_le (Nat.le_refl _)] at hf1
      have ha5 := kp5 _ _ ha4 ab
      refine ⟨_, rfl, _, rfl, F, fvs, rfl, .inl ⟨SqL.of hF5, fun p hp => ⟨(by show 2 ≤ sizeLine; decide), ?_⟩⟩⟩
      have hcs : Pg.cs ⟨ks, fs⟩ = cs := hf1
      have lf : fs.length = cs.length := by rw [← hf1, List.length_map]
      refine Drawn.mk q (⟨ks, fs⟩ : Pg) ⟨⟨wk, k0, by show ks.length ≤ 8; omega, by show 0 < fs.length; omega, by show fs.length ≤ 8; omega, fun f hf => hg f.1 (by rw [← hf1]; exact List.mem_map_of_mem hf), fun f hf => by rw [hcs]; exact (hf2 f hf).1⟩, ⟨fun f hf => (hf2 f hf).2.1, fun f hf => (hf2 f hf).2.2⟩, by show ks.length ≤ 4; omega, by show fs.length ≤ 4; omega⟩ rfl ?_ (box_new hb5 hp) ((kp4.trans kp5).trans (Kp.new hp))
      exact .cons (.tup (.inl (.inl (by rw [upd_ne (ne_of_none ha5 hp)]; exact ha5))) (tp_kinds ks)) (.cons (Tp.mk hp ht5) .nil)
end
end Lp

/-! Lc: rows, code, tables, as data; the two ways of filling in what is behind. -/
namespace Lp
open PySem PySem.Spec PyProof.Rows L2

inductive Rw where
  | num (n : Int)
  | var (k : Nat)
  | op (o : BOp)
  | say
  | set (k : Nat)
  | unless (q : Int)
  | go (z : Int)
  | turn
  | leap (q D : Int)
  | ret
  | rais (kd : Nat) (m : Int)
  | again
  | call (f n : Nat) (m : Int)
  | hand (b x : Int) (kd : Option Nat) (D : Int)
  | settled
  | mend
  | cup (b x D : Int)
  | resume
  deriving DecidableEq
def Rw.d : Rw → PyData
  | .num n => .tuple [.str "num", .int n]
  | .var k => .tuple [.str "var", .int (k : Int)]
  | .op o => .tuple [.str o.s]
  | .say => .tuple [.str "say"]
  | .set k => .tuple [.str "set", .int (k : Int)]
  | .unless q => .tuple [.str "unless", .int q]
  | .go z => .tuple [.str "go", .int z]
  | .turn => .tuple [.str "turn"]
  | .leap q D => .tuple [.str "leap", .int q, .int D]
  | .ret => .tuple [.str "return"]
  | .rais kd m => .tuple [.str "raise", .int (kd : Int), .int m]
  | .again => .tuple [.str "again"]
  | .call f n m => .tuple [.str "call", .int (f : Int), .int (n : Int), .int m]
  | .hand b x kd D => .tuple [.str "handler", .int b, .int x, kindD kd, .int D]
  | .settled => .tuple [.str "settled"]
  | .mend => .tuple [.str "mend"]
  | .cup b x D => .tuple [.str "cleanup", .int b, .int x, .int D]
  | .resume => .tuple [.str "resume"]
def Ex.code : Ex → List Rw
  | .num n => [.num n]
  | .var k => [.var k]
  | .bin o a b => a.code ++ b.code ++ [.op o]
def exsCode : List Ex → List Rw
  | [] => []
  | e :: r => e.code ++ exsCode r
/-- the innermost while: its top, the place behind, its depth -/
abbrev Tn : Type := Int × Int × Int
mutual
def Sm.code (base D : Int) (tn : Tn) : Sm → List Rw
  | .say e => e.code ++ [.say]
  | .set k e => e.code ++ [.set k]
  | .row ps => ps.code base D tn
  | .ife e s t => e.code ++ [.unless (base + e.len + 1 + s.len + 1)] ++ s.code (base + e.len + 1) D tn ++ [.go (base + e.len + 1 + s.len + 1 + t.len)] ++ t.code (base + e.len + 1 + s.len + 1) D tn
  | .whl e s => e.code ++ [.unless (base + e.len + 2 + s.len + 1), .turn] ++ s.code (base + e.len + 2) D (base, base + e.len + 2 + s.len + 1, D) ++ [.go base]
  | .brk => [.leap tn.2.1 tn.2.2]
  | .cnt => [.leap tn.1 tn.2.2]
  | .ret e => e.code ++ [.ret]
  | .call k f ps m => exsCode ps ++ [.call f ps.length m, .set k]
  | .rais kd e m => e.code ++ [.rais kd m]
  | .again => [.again]
  | .tri s hs => s.code base D tn ++ [.go (base + s.len + 1 + hs.len)] ++ hs.code base (base + s.len) (base + s.len + 1 + hs.len) (base + s.len + 1) D tn
  | .cln s c => s.code base D tn ++ [.mend, .cup base (base + s.len + 1) D] ++ c.code (base + s.len + 2) (D + 1) tn ++ [.resume]
def Sms.code (base D : Int) (tn : Tn) : Sms → List Rw
  | .nil => []
  | .cons s r => s.code base D tn ++ r.code (base + s.len) D tn
/-- handlers of the stretch b, x, from the place at_ on; z: the place behind all -/
def Hds.code (b x z at_ D : Int) (tn : Tn) : Hds → List Rw
  | .nil => []
  | .cons k sl t r => [.hand b x k D, .set sl] ++ t.code (at_ + 2) (D + 1) tn ++ [.settled, .go z] ++ r.code b x z (at_ + 2 + t.len + 2) D tn
end
theorem Ex.code_len : ∀ e : Ex, e.code.length = e.len
  | .num _ => rfl
  | .var _ => rfl
  | .bin _ a b => by simp [Ex.code, Ex.len, Ex.code_len a, Ex.code_len b]; omega
theorem exsCode_len : ∀ ps : List Ex, (exsCode ps).length = exsLen ps
  | [] => rfl
  | e :: r => by simp [exsCode, exsLen, Ex.code_len, exsCode_len r]
mutual
theorem Sm.code_len : ∀ (s : Sm) (base D : Int) (tn : Tn), (s.code base D tn).length = s.len
  | .say e, _, _, _ => by simp [Sm.code, Sm.len, Ex.code_len]
  | .set _ e, _, _, _ => by simp [Sm.code, Sm.len, Ex.code_len]
  | .row ps, _, _, _ => by simp [Sm.code, Sm.len, Sms.code_len ps]
  | .ife e s t, _, _, _ => by simp [Sm.code, Sm.len, Ex.code_len, Sm.code_len s, Sm.code_len t]; omega
  | .whl e s, _, _, _ => by simp [Sm.code, Sm.len, Ex.code_len, Sm.code_len s]; omega
  | .brk, _, _, _ => rfl
  | .cnt, _, _, _ => rfl
  | .ret e, _, _, _ => by simp [Sm.code, Sm.len, Ex.code_len]
  | .call _ _ ps _, _, _, _ => by simp [Sm.code, Sm.len, exsCode_len]
  | .rais _ e _, _, _, _ => by simp [Sm.code, Sm.len, Ex.code_len]
  | .again, _, _, _ => rfl
  | .tri s hs, _, _, _ => by simp [Sm.code, Sm.len, Sm.code_len s, Hds.code_len hs]; omega
  | .cln s c, _, _, _ => by simp [Sm.code, Sm.len, Sm.code_len s, Sm.code_len c]; omega
theorem Sms.code_len : ∀ (ps : Sms) (base D : Int) (tn : Tn), (ps.code base D tn).length = ps.len
  | .nil, _, _, _ => rfl
  | .cons s r, _, _, _ => by simp [Sms.code, Sms.len, Sm.code_len s, Sms.code_len r]
theorem Hds.code_len : ∀ (hs : Hds) (b x z at_ D : Int) (tn : Tn), (hs.code b x z at_ D tn).length = hs.len
  | .nil, _, _, _, _, _, _ => rfl
  | .cons k sl t r, _, _, _, _, _, _ => by simp [Hds.code, Hds.len, Sm.code_len t, Hds.code_len r]; omega
end

/-! ### no place is below nought, but where it is handed in -/
def Nng : Rw → Prop
  | .unless q => 0 ≤ q
  | .go z => 0 ≤ z
  | .leap q _ => 0 ≤ q
  | _ => True
theorem Ex.nng : ∀ (e : Ex), ∀ r ∈ e.code, ∀ w D z, r ≠ .leap w D ∧ r ≠ .go z
  | .num _, r, h, w, D, z => by simp [Ex.code] at h; subst h; simp
  | .var _, r, h, w, D, z => by simp [Ex.code] at h; subst h; simp
  | .bin o a b, r, h, w, D, z => by
    simp [Ex.code] at h
    rcases h with h | h | h
    · exact Ex.nng a r h w D z
    · exact Ex.nng b r h w D z
    · subst h; simp
theorem exsCode_nng : ∀ (ps : List Ex), ∀ r ∈ exsCode ps, ∀ w D z, r ≠ .leap w D ∧ r ≠ .go z
  | [], r, h, _, _, _ => by simp [exsCode] at h
  | e :: ps, r, h, w, D, z => by
    rcases List.mem_append.mp (show r ∈ e.code ++ exsCode ps from h) with h | h
    · exact Ex.nng e r h w D z
    · exact exsCode_nng ps r h w D z

/-! ### the law's way: a mark below nought, filled in behind by a look at each row -/
def subL (w z D : Int) (r : Rw) : Rw := if r = .leap w D then .leap z D else r
def subG (z : Int) (r : Rw) : Rw := if r = .go (-1) then .go z else r
theorem map_idL {w z D : Int} {l : List Rw} (h : ∀ r ∈ l, ∀ w D z, r ≠ .leap w D ∧ r ≠ .go z) : l.map (subL w z D) = l := by
  have : l.map (subL w z D) = l.map id := List.map_congr_left fun r hr => by
    unfold subL
    rw [if_neg (h r hr w D 0).1]; rfl
  rw [this, List.map_id]
theorem map_idG {z : Int} {l : List Rw} (h : ∀ r ∈ l, ∀ w D z, r ≠ .leap w D ∧ r ≠ .go z) : l.map (subG z) = l := by
  have : l.map (subG z) = l.map id := List.map_congr_left fun r hr => by
    unfold subG
    rw [if_neg (h r hr 0 0 (-1)).2]; rfl
  rw [this, List.map_id]
mutual
theorem Sm.subL {w z p D0 : Int} (hw : w < 0) (hp : 0 ≤ p) : ∀ (s : Sm) (base D : Int), 0 ≤ base → (s.code base D (p, w, D0)).map (subL w z D0) = s.code base D (p, z, D0)
  | .say e, _, _, _ => by simp [Sm.code, map_idL (Ex.nng e)]; rfl
  | .set _ e, _, _, _ => by simp [Sm.code, map_idL (Ex.nng e)]; rfl
  | .row ps, base, D, h => Sms.subL hw hp ps base D h
  | .ife e s t, base, D, h => by
    simp only [Sm.code, List.map_append, List.map_cons, List.map_nil, map_idL (Ex.nng e)]
    rw [Sm.subL hw hp s _ _ (by omega), Sm.subL hw hp t _ _ (by omega)]; rfl
  | .whl e s, base, D, h => by
    simp only [Sm.code, List.map_append, List.map_cons, List.map_nil, map_idL (Ex.nng e)]
    rw [Sm.subL_id hw s _ _ _ _ _ (by omega) h (by omega)]; rfl
  | .brk, _, _, _ => by simp [Sm.code, Lp.subL]
  | .cnt, _, _, _ => by
    have : p ≠ w := by omega
    simp [Sm.code, Lp.subL, this]
  | .ret e, _, _, _ => by simp [Sm.code, map_idL (Ex.nng e)]; rfl
  | .call _ _ ps _, _, _, _ => by simp [Sm.code, map_idL (exsCode_nng ps)]; exact ⟨rfl, rfl⟩
  | .rais _ e _, _, _, _ => by simp [Sm.code, map_idL (Ex.nng e)]; rfl
  | .again, _, _, _ => rfl
  | .tri s hs, base, D, h => by
    simp only [Sm.code, List.map_append, List.map_cons, List.map_nil]
    rw [Sm.subL hw hp s _ _ h, Hds.subL hw hp hs _ _ _ _ _ (by omega)]; rfl
  | .cln s c, base, D, h => by
    simp only [Sm.code, List.map_append, List.map_cons, List.map_nil]
    rw [Sm.subL hw hp s _ _ h, Sm.subL hw hp c _ _ (by omega)]; rfl
theorem Sms.subL {w z p D0 : Int} (hw : w < 0) (hp : 0 ≤ p) : ∀ (ps : Sms) (base D : Int), 0 ≤ base → (ps.code base D (p, w, D0)).map (subL w z D0) = ps.code base D (p, z, D0)
  | .nil, _, _, _ => rfl
  | .cons s r, base, D, h => by
    simp only [Sms.code, List.map_append]
    rw [Sm.subL hw hp s _ _ h, Sms.subL hw hp r _ _ (by omega)]
theorem Hds.subL {w z p D0 : Int} (hw : w < 0) (hp : 0 ≤ p) : ∀ (hs : Hds) (b x y at_ D : Int), 0 ≤ at_ → (hs.code b x y at_ D (p, w, D0)).map (subL w z D0) = hs.code b x y at_ D (p, z, D0)
  | .nil, _, _, _, _, _, _ => rfl
  | .cons k sl t r, b, x, y, at_, D, h => by
    simp only [Hds.code, List.map_append, List.map_cons, List.map_nil]
    rw [Sm.subL hw hp t _ _ (by omega), Hds.subL hw hp r _ _ _ _ _ (by omega)]; rfl
theorem Sm.subL_id {w z D0 : Int} (hw : w < 0) : ∀ (s : Sm) (base D p q Dq : Int), 0 ≤ base → 0 ≤ p → 0 ≤ q → (s.code base D (p, q, Dq)).map (Lp.subL w z D0) = s.code base D (p, q, Dq)
  | .say e, _, _, _, _, _, _, _, _ => by simp [Sm.code, map_idL (Ex.nng e)]; rfl
  | .set _ e, _, _, _, _, _, _, _, _ => by simp [Sm.code, map_idL (Ex.nng e)]; rfl
  | .row ps, base, D, p, q, Dq, h, hp, hq => Sms.subL_id hw ps base D p q Dq h hp hq
  | .ife e s t, base, D, p, q, Dq, h, hp, hq => by
    simp only [Sm.code, List.map_append, List.map_cons, List.map_nil, map_idL (Ex.nng e)]
    rw [Sm.subL_id hw s _ _ _ _ _ (by omega) hp hq, Sm.subL_id hw t _ _ _ _ _ (by omega) hp hq]; rfl
  | .whl e s, base, D, p, q, Dq, h, hp, hq => by
    simp only [Sm.code, List.map_append, List.map_cons, List.map_nil, map_idL (Ex.nng e)]
    rw [Sm.subL_id hw s _ _ _ _ _ (by omega) h (by omega)]; rfl
  | .brk, _, _, p, q, Dq, h, hp, hq => by
    have : q ≠ w := by omega
    simp [Sm.code, Lp.subL, this]
  | .cnt, _, _, p, q, Dq, h, hp, hq => by
    have : p ≠ w := by omega
    simp [Sm.code, Lp.subL, this]
  | .ret e, _, _, _, _, _, _, _, _ => by simp [Sm.code, map_idL (Ex.nng e)]; rfl
  | .call _ _ ps _, _, _, _, _, _, _, _, _ => by simp [Sm.code, map_idL (exsCode_nng ps)]; exact ⟨rfl, rfl⟩
  | .rais _ e _, _, _, _, _, _, _, _, _ => by simp [Sm.code, map_idL (Ex.nng e)]; rfl
  | .again, _, _, _, _, _, _, _, _ => rfl
  | .tri s hs, base, D, p, q, Dq, h, hp, hq => by
    simp only [Sm.code, List.map_append, List.map_cons, List.map_nil]
    rw [Sm.subL_id hw s _ _ _ _ _ h hp hq, Hds.subL_id hw hs _ _ _ _ _ _ _ _ (by omega) hp hq]; rfl
  | .cln s c, base, D, p, q, Dq, h, hp, hq => by
    simp only [Sm.code, List.map_append, List.map_cons, List.map_nil]
    rw [Sm.subL_id hw s _ _ _ _ _ h hp hq, Sm.subL_id hw c _ _ _ _ _ (by omega) hp hq]; rfl
theorem Sms.subL_id {w z D0 : Int} (hw : w < 0) : ∀ (ps : Sms) (base D p q Dq : Int), 0 ≤ base → 0 ≤ p → 0 ≤ q → (ps.code base D (p, q, Dq)).map (Lp.subL w z D0) = ps.code base D (p, q, Dq)
  | .nil, _, _, _, _, _, _, _, _ => rfl
  | .cons s r, base, D, p, q, Dq, h, hp, hq => by
    simp only [Sms.code, List.map_append]
    rw [Sm.subL_id hw s _ _ _ _ _ h hp hq, Sms.subL_id hw r _ _ _ _ _ (by omega) hp hq]
theorem Hds.subL_id {w z D0 : Int} (hw : w < 0) : ∀ (hs : Hds) (b x y at_ D p q Dq : Int), 0 ≤ at_ → 0 ≤ p → 0 ≤ q → (hs.code b x y at_ D (p, q, Dq)).map (Lp.subL w z D0) = hs.code b x y at_ D (p, q, Dq)
  | .nil, _, _, _, _, _, _, _, _, _, _, _ => rfl
  | .cons k sl t r, b, x, y, at_, D, p, q, Dq, h, hp, hq => by
    simp only [Hds.code, List.map_append, List.map_cons, List.map_nil]
    rw [Sm.subL_id hw t _ _ _ _ _ (by omega) hp hq, Hds.subL_id hw r _ _ _ _ _ _ _ _ (by omega) hp hq]; rfl
end
mutual
theorem Sm.subG {y : Int} : ∀ (s : Sm) (base D : Int) (tn : Tn), 0 ≤ base → (s.code base D tn).map (subG y) = s.code base D tn
  | .say e, _, _, _, _ => by simp [Sm.code, map_idG (Ex.nng e)]; rfl
  | .set _ e, _, _, _, _ => by simp [Sm.code, map_idG (Ex.nng e)]; rfl
  | .row ps, base, D, tn, h => Sms.subG ps base D tn h
  | .ife e s t, base, D, tn, h => by
    simp only [Sm.code, List.map_append, List.map_cons, List.map_nil, map_idG (Ex.nng e)]
    rw [Sm.subG s _ _ _ (by omega), Sm.subG t _ _ _ (by omega)]
    rw [show Lp.subG y (.go (base + e.len + 1 + s.len + 1 + t.len)) = .go (base + e.len + 1 + s.len + 1 + t.len) from if_neg (by simp; omega)]; rfl
  | .whl e s, base, D, tn, h => by
    simp only [Sm.code, List.map_append, List.map_cons, List.map_nil, map_idG (Ex.nng e)]
    rw [Sm.subG s _ _ _ (by omega)]
    rw [show Lp.subG y (.go base) = .go base from if_neg (by simp; omega)]; rfl
  | .brk, _, _, _, _ => rfl
  | .cnt, _, _, _, _ => rfl
  | .ret e, _, _, _, _ => by simp [Sm.code, map_idG (Ex.nng e)]; rfl
  | .call _ _ ps _, _, _, _, _ => by simp [Sm.code, map_idG (exsCode_nng ps)]; exact ⟨rfl, rfl⟩
  | .rais _ e _, _, _, _, _ => by simp [Sm.code, map_idG (Ex.nng e)]; rfl
  | .again, _, _, _, _ => rfl
  | .tri s hs, base, D, tn, h => by
    simp only [Sm.code, List.map_append, List.map_cons, List.map_nil]
    rw [Sm.subG s _ _ _ h, Hds.subG hs _ _ _ _ _ _ (by omega) (by omega)]
    rw [show Lp.subG y (.go (base + s.len + 1 + hs.len)) = .go (base + s.len + 1 + hs.len) from if_neg (by simp; omega)]
  | .cln s c, base, D, tn, h => by
    simp only [Sm.code, List.map_append, List.map_cons, List.map_nil]
    rw [Sm.subG s _ _ _ h, Sm.subG c _ _ _ (by omega)]; rfl
theorem Sms.subG {y : Int} : ∀ (ps : Sms) (base D : Int) (tn : Tn), 0 ≤ base → (ps.code base D tn).map (subG y) = ps.code base D tn
  | .nil, _, _, _, _ => rfl
  | .cons s r, base, D, tn, h => by
    simp only [Sms.code, List.map_append]
    rw [Sm.subG s _ _ _ h, Sms.subG r _ _ _ (by omega)]
theorem Hds.subG {y : Int} : ∀ (hs : Hds) (b x z at_ D : Int) (tn : Tn), 0 ≤ at_ → 0 ≤ z → (hs.code b x z at_ D tn).map (subG y) = hs.code b x z at_ D tn
  | .nil, _, _, _, _, _, _, _, _ => rfl
  | .cons k sl t r, b, x, z, at_, D, tn, h, hz => by
    simp only [Hds.code, List.map_append, List.map_cons, List.map_nil]
    rw [Sm.subG t _ _ _ (by omega), Hds.subG r _ _ _ _ _ _ (by omega) hz]
    rw [show Lp.subG y (.go z) = .go z from if_neg (by simp; omega)]; rfl
end
/-- handlers with the mark -1, filled in -/
theorem Hds.fill {y : Int} : ∀ (hs : Hds) (b x at_ D : Int) (tn : Tn), 0 ≤ at_ → (hs.code b x (-1) at_ D tn).map (Lp.subG y) = hs.code b x y at_ D tn
  | .nil, _, _, _, _, _, _ => rfl
  | .cons k sl t r, b, x, at_, D, tn, h => by
    simp only [Hds.code, List.map_append, List.map_cons, List.map_nil]
    rw [Sm.subG t _ _ _ (by omega), Hds.fill r _ _ _ _ _ (by omega)]
    rw [show Lp.subG y (.go (-1)) = .go y from if_pos rfl]; rfl

/-! ### the program's way: places of the breaks, filled in behind -/
mutual
def Sm.bks (base : Int) : Sm → List Int
  | .row ps => ps.bks base
  | .ife e s t => s.bks (base + e.len + 1) ++ t.bks (base + e.len + 1 + s.len + 1)
  | .brk => [base]
  | .tri s hs => s.bks base ++ hs.bks (base + s.len + 1)
  | .cln s c => s.bks base ++ c.bks (base + s.len + 2)
  | _ => []
def Sms.bks (base : Int) : Sms → List Int
  | .nil => []
  | .cons s r => s.bks base ++ r.bks (base + s.len)
def Hds.bks (at_ : Int) : Hds → List Int
  | .nil => []
  | .cons _ _ t r => t.bks (at_ + 2) ++ r.bks (at_ + 2 + t.len + 2)
end
def fillAt (row : Rw) (ps : List Int) (l : List Rw) : List Rw := ps.foldl (fun l p => l.set p.toNat row) l
theorem fillAt_app (row : Rw) (ps qs : List Int) (l : List Rw) : fillAt row (ps ++ qs) l = fillAt row qs (fillAt row ps l) := by
  unfold fillAt; rw [List.foldl_append]
mutual
theorem Sm.fill {p z D0 : Int} : ∀ (s : Sm) (base D : Int) (pre post : List Rw), (pre.length : Int) = base →
    fillAt (.leap z D0) (s.bks base) (pre ++ s.code base D (p, 0, D0) ++ post) = pre ++ s.code base D (p, z, D0) ++ post
  | .say e, _, _, _, _, _ => rfl
  | .set _ e, _, _, _, _, _ => rfl
  | .row ps, base, D, pre, post, h => Sms.fill ps base D pre post h
  | .ife e s t, base, D, pre, post, h => by
    have h1 := Sm.fill (p := p) (z := z) (D0 := D0) s (base + e.len + 1) D (pre ++ e.code ++ [.unless (base + e.len + 1 + s.len + 1)]) ([.go (base + e.len + 1 + s.len + 1 + t.len)] ++ t.code (base + e.len + 1 + s.len + 1) D (p, 0, D0) ++ post) (by simp [Ex.code_len]; omega)
    have h2 := Sm.fill (p := p) (z := z) (D0 := D0) t (base + e.len + 1 + s.len + 1) D (pre ++ e.code ++ [.unless (base + e.len + 1 + s.len + 1)] ++ s.code (base + e.len + 1) D (p, z, D0) ++ [.go (base + e.len + 1 + s.len + 1 + t.len)]) post (by simp [Ex.code_len, Sm.code_len]; omega)
    simp only [Sm.bks, Sm.code, fillAt_app, List.append_assoc] at h1 h2 ⊢
    rw [h1, h2]
  | .whl e s, _, _, _, _, _ => rfl
  | .brk, base, D, pre, post, h => by
    have : base.toNat = pre.length := by omega
    simp [Sm.bks, Sm.code, fillAt, this]
  | .cnt, _, _, _, _, _ => rfl
  | .ret e, _, _, _, _, _ => rfl
  | .call _ _ ps _, _, _, _, _, _ => rfl
  | .rais _ e _, _, _, _, _, _ => rfl
  | .again, _, _, _, _, _ => rfl
  | .tri s hs, base, D, pre, post, h => by
    have h1 := Sm.fill (p := p) (z := z) (D0 := D0) s base D pre ([.go (base + s.len + 1 + hs.len)] ++ hs.code base (base + s.len) (base + s.len + 1 + hs.len) (base + s.len + 1) D (p, 0, D0) ++ post) h
    have h2 := Hds.fillB (p := p) (z := z) (D0 := D0) hs base (base + s.len) (base + s.len + 1 + hs.len) (base + s.len + 1) D (pre ++ s.code base D (p, z, D0) ++ [.go (base + s.len + 1 + hs.len)]) post (by simp [Sm.code_len]; omega)
    simp only [Sm.bks, Sm.code, fillAt_app, List.append_assoc] at h1 h2 ⊢
    rw [h1, h2]
  | .cln s c, base, D, pre, post, h => by
    have h1 := Sm.fill (p := p) (z := z) (D0 := D0) s base D pre ([.mend, .cup base (base + s.len + 1) D] ++ c.code (base + s.len + 2) (D + 1) (p, 0, D0) ++ [.resume] ++ post) h
    have h2 := Sm.fill (p := p) (z := z) (D0 := D0) c (base + s.len + 2) (D + 1) (pre ++ s.code base D (p, z, D0) ++ [.mend, .cup base (base + s.len + 1) D]) ([.resume] ++ post) (by simp [Sm.code_len]; omega)
    simp only [Sm.bks, Sm.code, fillAt_app, List.append_assoc] at h1 h2 ⊢
    rw [h1, h2]
theorem Sms.fill {p z D0 : Int} : ∀ (ps : Sms) (base D : Int) (pre post : List Rw), (pre.length : Int) = base →
    fillAt (.leap z D0) (ps.bks base) (pre ++ ps.code base D (p, 0, D0) ++ post) = pre ++ ps.code base D (p, z, D0) ++ post
  | .nil, _, _, _, _, _ => rfl
  | .cons s r, base, D, pre, post, h => by
    have h1 := Sm.fill (p := p) (z := z) (D0 := D0) s base D pre (r.code (base + s.len) D (p, 0, D0) ++ post) h
    have h2 := Sms.fill (p := p) (z := z) (D0 := D0) r (base + s.len) D (pre ++ s.code base D (p, z, D0)) post (by simp [Sm.code_len]; omega)
    simp only [Sms.bks, Sms.code, fillAt_app, List.append_assoc] at h1 h2 ⊢
    rw [h1, h2]
theorem Hds.fillB {p z D0 : Int} : ∀ (hs : Hds) (b x y at_ D : Int) (pre post : List Rw), (pre.length : Int) = at_ →
    fillAt (.leap z D0) (hs.bks at_) (pre ++ hs.code b x y at_ D (p, 0, D0) ++ post) = pre ++ hs.code b x y at_ D (p, z, D0) ++ post
  | .nil, _, _, _, _, _, _, _, _ => rfl
  | .cons k sl t r, b, x, y, at_, D, pre, post, h => by
    have h1 := Sm.fill (p := p) (z := z) (D0 := D0) t (at_ + 2) (D + 1) (pre ++ [.hand b x k D, .set sl]) ([.settled, .go y] ++ r.code b x y (at_ + 2 + t.len + 2) D (p, 0, D0) ++ post) (by simp; omega)
    have h2 := Hds.fillB (p := p) (z := z) (D0 := D0) r b x y (at_ + 2 + t.len + 2) D (pre ++ [.hand b x k D, .set sl] ++ t.code (at_ + 2) (D + 1) (p, z, D0) ++ [.settled, .go y]) post (by simp [Sm.code_len]; omega)
    simp only [Hds.bks, Hds.code, fillAt_app, List.append_assoc] at h1 h2 ⊢
    rw [h1, h2]
end

/-! ### tables -/
structure Tb where
  b : Int
  x : Int
  kd : Option (Option Nat)   -- some: a handler of that kind; none: a cleanup
  p : Int
  D : Int
  deriving DecidableEq
def Tb.d (t : Tb) : PyData := .tuple [.int t.b, .int t.x, .str (match t.kd with | some _ => "handler" | none => "cleanup"), (match t.kd with | some k => kindD k | none => .none), .int t.p, .int t.D]
def tbOf (p : Int) : Rw → List Tb
  | .hand b x k D => [⟨b, x, some k, p, D⟩]
  | .cup b x D => [⟨b, x, none, p, D⟩]
  | _ => []
def tabAt (p : Int) : List Rw → List Tb
  | [] => []
  | r :: rs => tbOf p r ++ tabAt (p + 1) rs
theorem tabAt_app : ∀ (l m : List Rw) (p : Int), tabAt p (l ++ m) = tabAt p l ++ tabAt (p + l.length) m
  | [], m, p => by simp [tabAt]
  | r :: l, m, p => by
    show tbOf p r ++ tabAt (p + 1) (l ++ m) = (tbOf p r ++ tabAt (p + 1) l) ++ _
    rw [tabAt_app l m (p + 1), List.append_assoc]
    have : p + 1 + (l.length : Int) = p + ((r :: l).length : Int) := by simp; omega
    rw [this]
theorem tabAt_len : ∀ (l : List Rw) (p : Int), (tabAt p l).length ≤ l.length
  | [], _ => Nat.le_refl _
  | r :: l, p => by
    have := tabAt_len l (p + 1)
    have h2 : (tbOf p r).length ≤ 1 := by cases r <;> simp [tbOf]
    simp [tabAt]; omega
/-- a function's code, a program's -/
structure Fc where
  many : Nat
  rows : List Rw
def Fc.tab (f : Fc) : List Tb := tabAt 0 f.rows
def Fc.d (f : Fc) : PyData := .tuple [.int (f.many : Int), .tuple (f.rows.map Rw.d), .tuple (f.tab.map Tb.d)]
def bodyRows (s : Sm) : List Rw := s.code 0 0 (0, 0, 0) ++ [.num 0, .ret]
def Pg.code (p : Pg) : List Fc := p.funs.map fun f => ⟨f.1, bodyRows f.2⟩
def codeD (c : List Fc) : PyData := .tuple (c.map Fc.d)

/-! ### rows as data are told apart -/
theorem eqvAll_len {xs ys : List PyData} (h : xs.length ≠ ys.length) : PyData.eqvAll xs ys = false := by
  induction xs generalizing ys with
  | nil => cases ys with
    | nil => exact absurd rfl h
    | cons _ _ => rfl
  | cons x xs ih => cases ys with
    | nil => rfl
    | cons y ys =>
      have := ih (ys := ys) (by simpa using h)
      simp [PyData.eqvAll, this]
theorem Rw.eqv_leap (r : Rw) (w D : Int) : PyData.eqv r.d (Rw.leap w D).d = decide (r = .leap w D) := by
  cases r <;> simp [Rw.d, PyData.eqv, PyData.eqvAll]
  all_goals first
    | rfl
    | (intro h; exact absurd h (by decide))
theorem Rw.eqv_go (r : Rw) (z : Int) : PyData.eqv r.d (Rw.go z).d = decide (r = .go z) := by
  cases r <;> simp [Rw.d, PyData.eqv, PyData.eqvAll]
  all_goals first
    | rfl
    | (intro h; exact absurd h (by decide))
end Lp

/-! Le: for i, x in enumerate(t), t a tuple. -/
namespace Lp
open PySem PySem.Spec PyProof.Rows L2

set_option maxHeartbeats 4000000 in
theorem meets_en1 {v : Value} {ob : Obj} {Hd : Heap → Prop} (B : Begins v ob Hd) :
    Meets (Builtin.«enumerate.__new__» ⟨[.type "enumerate", v], []⟩) (fun _ R s => Hd s.heap ∧
      R (.ok (.ret (.ref (s.heap.push ob).objs.size))) { s with heap := (s.heap.push ob).push { cls := .type "enumerate", data := .fields #[.none, .bool false, .ref s.heap.objs.size, rawInt 0, .none, .none] } }) := by
  refine .of_wp fun P w A R s h => ?_
  obtain ⟨hp, gn, dr, tk, os⟩ := s
  obtain ⟨h1, h2⟩ := h
  have sub := sub_enumerate
  have it1 : ∀ {A2 : Around} {E2 Q2 : Value → Shared → Prop}, Q2 (.ref hp.objs.size) ⟨hp.push ob, gn, dr, tk, os⟩ → wpAny (model P w) A2 (pyIter v) Q2 E2 ⟨hp, gn, dr, tk, os⟩ := fun q => B.iter P w _ _ ⟨hp, gn, dr, tk, os⟩ _ h1 q
  wp_walk using it1
  refine wpAny_stack_any fun z => wpAny_pure ?_
  split
  · rename_i c _ _ _ _ _
    cases (c == Value.type "enumerate") <;>
      (wp_walk using it1
       exact ⟨_, rfl, h2⟩)
  · (wp_walk using it1
     exact ⟨_, rfl, h2⟩)
theorem call_en1 {P : Program} {w : World} {A : Around} {E : Value → Shared → Prop} {s : Shared} {a : Addr} {items : Array Value} {Q : Value → Shared → Prop} (hT : s.heap.IsTuple a items)
    (h : ∀ h', IsEnum h' (s.heap.objs.size + 1) s.heap.objs.size 0 .none → h'.IsTupleIter s.heap.objs.size a 0 → (∀ b o, s.heap.get? b = some o → h'.get? b = some o) → Q (.ref (s.heap.objs.size + 1)) { s with heap := h' }) :
    wpAny (model P w) A (call (.type "enumerate") [.ref a]) Q E s := by
  refine callType_new F.called_enumerate (by decide) (F.typeCall_enumerate_1 _) (F.newCall_enumerate_1 _) (fun o => F.args_object_init_2 o _) F.entry_enumerate_new (meets_en1 (begins_tuple a items)) ⟨hT, ?_⟩
  let o1 : Obj := { cls := .type "tuple_iterator", data := .fields #[.ref a, .int 0 0] }
  let o2 : Obj := { cls := .type "enumerate", data := .fields #[.none, .bool false, .ref s.heap.objs.size, rawInt 0, .none, .none] }
  have sz1 : (s.heap.push o1).objs.size = s.heap.objs.size + 1 := Heap.size_push ..
  show _ ∧ Q (.ref (s.heap.push o1).objs.size) _
  rw [show (s.heap.push { cls := .type "tuple_iterator", data := .fields #[.ref a, .int 0 0] }).objs.size = s.heap.objs.size + 1 from sz1]
  have ge : ((s.heap.push o1).push o2).get? (s.heap.objs.size + 1) = some o2 := by
    rw [← sz1]
    exact Heap.get?_push_size _ rfl
  refine ⟨⟨_, ge, rfl⟩, h _ ge ⟨o1, Heap.get?_push_of_some _ (Heap.get?_push_size _ rfl), rfl, rfl⟩ fun b o q => Heap.get?_push_of_some _ (Heap.get?_push_of_some _ q)⟩
/-- the tuple at a, each item in a new pair -/
def IteT (K : PySem.W.Frag) (a : Addr) : It :=
  ⟨fun i H => ∃ (xs : List V) (x : V), SqT K H a xs ∧ xs[i]? = some x, fun i H v H' => ∃ T x, v = .ref T ∧ H T = none ∧ H' = upd H T (.tup [.int (i : Nat), x]) ∧ ∀ xs, SqT K H a xs → xs[i]? = some x, fun i H => ∃ xs : List V, SqT K H a xs ∧ xs.length ≤ i⟩
theorem turn_enT {P : Program} {w : World} {K : PySem.W.Frag} {elts : List Expr} {kk : Nat} {tpos : Pos} (a e it : Addr) :
    Turn P w K (.Tuple elts kk tpos) (IteT K a) [e, it] e (fun i h => (∃ old, IsEnum h e it ((i : Nat) : Int) old) ∧ h.IsTupleIter it a i ∧ e ≠ it) where
  mem := List.mem_cons_self
  obj := by
    rintro i h ⟨⟨old, he⟩, ⟨o, ho, hc, hd⟩, _⟩ b hb
    rcases List.mem_cons.mp hb with rfl | hb
    · exact ⟨_, he, fun v q => nomatch q⟩
    · rw [List.mem_singleton.mp hb]
      exact ⟨o, ho, fun v q => by rw [hd] at q; cases q⟩
  keep := by
    rintro i h h' ⟨⟨old, he⟩, hi, ne⟩ k
    exact ⟨⟨old, k e List.mem_cons_self _ he⟩, hi.at fun o q => k it (List.mem_cons_of_mem _ List.mem_cons_self) o q, ne⟩
  item := by
    rintro X rfl rfl rfl calm i pins s σ H E I hf ⟨⟨old, he⟩, hit, ne⟩ ⟨xs, x, hq, hx⟩
    obtain ⟨its, rv, tp, hz⟩ := I.tuple hq
    obtain ⟨u, hu, ru⟩ := rv.get hx
    have tp' : s.heap.IsTuple a its.toArray := tp
    have a_it : a ≠ it := by
      rintro rfl
      obtain ⟨o, ho, hc, _⟩ := tp'
      obtain ⟨o2, ho2, hc2, _⟩ := hit
      rw [ho] at ho2; cases ho2
      rw [hc] at hc2
      exact absurd hc2 (by simp)
    have a_e : e ≠ a := by
      rintro rfl
      obtain ⟨o, ho, hc, _⟩ := tp'
      have he' : s.heap.get? e = some _ := he
      rw [ho] at he'
      have hc2 := congrArg (fun z : Option Obj => z.map (·.cls)) he'
      simp only [Option.map_some] at hc2
      rw [hc] at hc2
      exact absurd (Option.some.inj hc2) (by simp)
    have hel : e < s.heap.objs.size := Heap.lt_size he
    have hil : it < s.heap.objs.size := by obtain ⟨_, q, _⟩ := hit; exact Heap.lt_size q
    have hin : X.A.in1.handled = none := I.ok.hd calm
    have hlt : i < its.toArray.size := by
      have := (List.getElem?_eq_some_iff.mp hu).1
      simpa using this
    refine wpAny_pyNext_enum_itemC (Draws.tuple hin it a a_it its.toArray) he ⟨hit, tp'⟩ hlt ne (by simp [ne, a_e]) fun y h' tk hy ho st hT hsz hk => ?_
    have ey : y = u := by
      have h1 : its[i]? = some y := by simpa using hy
      rw [hu] at h1
      exact (Option.some.inj h1).symm
    subst ey
    refine ⟨_, rfl, wpAny_letOwnedTupleGo_enum (s := { s with heap := h', toks := tk + 1 }) ho fun h'' he' sb => ?_⟩
    have hT2 : h''.get? s.heap.objs.size = some { cls := .type "tuple", data := .seq #[.int i tk, y] } := (sb.2 _ (Nat.ne_of_gt hel)).trans hT
    have nw : ObjOk X.prog X.w (upd H s.heap.objs.size (.tup [.int (i : Nat), x])) h'' s.heap.objs.size (.tup [.int (i : Nat), x]) :=
      ⟨by show 2 ≤ sizeLine; decide, [.int i tk, y], .cons ⟨_, rfl⟩ (.cons ru .nil), ⟨_, hT2, rfl, _, rfl⟩⟩
    have I1 : Inv X pins σ (upd H s.heap.objs.size (.tup [.int (i : Nat), x])) { s with heap := h'', toks := tk + 1 } := by
      refine I.turnedNew (ch := [e, it]) (fun b o hb q => ?_) hf (Nat.le_refl _) nw
      have b1 : b ≠ e := fun z => hb (by simp [z])
      have b2 : b ≠ it := fun z => hb (by simp [z])
      exact (sb.2 b b1).trans (hk b o b1 b2 q)
    refine ⟨.ref s.heap.objs.size, _, I1, rfl, ⟨_, x, rfl, I.hok.fresh (Nat.le_refl _), rfl, fun ys hy => by rw [I.tuple_inj hy hq]; exact hx⟩, ⟨⟨y, ?_⟩, st.1.at fun o q => (sb.2 it (Ne.symm ne)).trans q, ne⟩, fun b hb => ?_⟩
    · rw [show ((i + 1 : Nat) : Int) = (i : Int) + 1 by omega]
      exact he'
    · have lt : b < s.heap.objs.size := by
        rcases List.mem_cons.mp hb with rfl | z
        · exact hel
        · rw [List.mem_singleton.mp z]; exact hil
      rw [upd_ne (Nat.ne_of_lt lt)]
      exact (hf b hb).1
  done := by
    rintro X rfl rfl rfl calm i pins s σ H E I hf ⟨⟨old, he⟩, hit, ne⟩ ⟨xs, hq, hx⟩
    obtain ⟨its, rv, tp, hz⟩ := I.tuple hq
    have tp' : s.heap.IsTuple a its.toArray := tp
    obtain ⟨f0, f1, f2, f3, f4, f5⟩ := hf it (by simp)
    have hin : X.A.in1.handled = none := I.ok.hd calm
    have a_it : a ≠ it := by
      rintro rfl
      obtain ⟨o, ho, hc, _⟩ := tp'
      obtain ⟨o2, ho2, hc2, _⟩ := hit
      rw [ho] at ho2; cases ho2
      rw [hc] at hc2
      exact absurd hc2 (by simp)
    have big : its.toArray.size ≤ i := by
      have := rv.length
      simp; omega
    have none_ : its.toArray[i]? = none := Array.getElem?_eq_none big
    refine wpAny_pyNext_enum_endD (n := i) (fp := [it, a]) (P := fun _ _ => True) (St := fun j h => j = i ∧ h.IsTupleIter it a j ∧ h.IsTuple a its.toArray) ?_ he ⟨rfl, hit, tp'⟩ fun h' eb => ⟨rfl, I.turned (t' := s.toks) (fun b o hb q => eb b o hb q) f0 f1 f3 f4 f5⟩
    have D := Draws.tuple (prog := X.prog) (w := X.w) hin it a a_it its.toArray
    exact ⟨fun j h st => D.live j h st.2, fun j h h' st hk => ⟨st.1, D.frame j h h' st.2 hk⟩, fun j s Q E hj st _ => absurd st.1 (Nat.ne_of_lt hj), fun s Q E st hE => wpAny_nextOf_tuple_end hin st.2.1 st.2.2 none_ hE⟩
  self := fun A i s Q E st h => let ⟨⟨_, he⟩, _⟩ := st; wpAny_pyIter_enum he h
def iEnT (K : PySem.W.Frag) (ta : TA) : TI := fun σ H R => ta σ H fun vs H1 => ∃ a xs, vs = [.ref a] ∧ SqT K H1 a xs ∧ R (IteT K a) H1
theorem pi_enT {X : Cx} {e : Expr} {ta : TA} {p pos tpos : Pos} {elts : List Expr} {kk : Nat} (hg : Gl X "enumerate") (hm : X.mg "enumerate" = none) (ha : PA X [e] ta) (hs : starEach [e] X.env = [(false, eval e X.env)] := by rfl) :
    PI X (.Tuple elts kk tpos) (.Call (.Name "enumerate" p) [e] [] pos) (iEnT X.K ta) := by
  constructor
  intro pins s σ H R I h
  refine Call_ (ld_blt I hg hm boot_enumerate (PyProof.Rows.callWith_type1 (thn (ha.run pos pins s σ H _ I h) fun us s1 ⟨vs, H1, I1, r1, a, xs, ex, hq, q⟩ => ?_) hs rfl))
  subst ex
  cases r1 with
  | cons r rr =>
    cases rr
    cases r
    obtain ⟨its, rv, tp, hz⟩ := I1.tuple hq
    refine call_en1 (show s1.heap.IsTuple a its.toArray from tp) fun h' he hit hk => wpAny_pyIter_enum he ?_
    have I2 : Inv X pins σ H1 { s1 with heap := h' } := I1.kept (t' := s1.toks) hk
    refine ⟨_, [s1.heap.objs.size + 1, s1.heap.objs.size], _, _, H1, rfl, I2, turn_enT a (s1.heap.objs.size + 1) s1.heap.objs.size, ⟨⟨.none, he⟩, hit, Nat.succ_ne_self _⟩, fun b hb => ?_, q⟩
    have le : s1.heap.objs.size ≤ b := by
      rcases List.mem_cons.mp hb with rfl | z
      · exact Nat.le_succ _
      · rw [List.mem_singleton.mp z]; exact Nat.le_refl _
    exact I1.fpOk le (I1.hok.fresh le)
/-- the loop: Pv by the turn, the slots, the heap; each turn brings a new pair at T -/
theorem for_enT {K : PySem.W.Frag} {a : Addr} {xs : List V} {g : TG} {tb : TS} {D : Ends} {σ : L2.St} {H : Hp} (Pv : Nat → L2.St → Hp → Prop) (h0 : Pv 0 σ H) (hl : ∀ i σ H, i ≤ xs.length → Pv i σ H → SqT K H a xs)
    (hs : ∀ i x σ H T, xs[i]? = some x → Pv i σ H → H T = none → g (.ref T) σ (upd H T (.tup [.int ((i : Nat) : Int), x])) fun σ2 H2 => tb { D with nx := Pv (i + 1), ct := Pv (i + 1), bk := D.nx } σ2 H2) (hd : ∀ σ H, Pv xs.length σ H → D.nx σ H) :
    ∃ W : Nat → Nat → L2.St → Hp → Prop, (∃ m, W 0 m σ H) ∧ ∀ i m σ H, W i m σ H →
      ((IteT K a).stop i H ∧ D.nx σ H) ∨ ((IteT K a).go i H ∧ ∃ N : L2.St → Hp → Prop, (∀ σ' H', N σ' H' → ∃ m', m' < m ∧ W (i + 1) m' σ' H') ∧ ∀ x H', (IteT K a).yld i H x H' → g x σ H' fun σ2 H2 => tb { D with nx := N, ct := N, bk := D.nx } σ2 H2) := by
  refine ⟨fun i m σ H => m = xs.length - i ∧ i ≤ xs.length ∧ Pv i σ H, ⟨xs.length, rfl, Nat.zero_le _, h0⟩, ?_⟩
  rintro i m σ H ⟨rfl, hi, p⟩
  have hq := hl i σ H hi p
  by_cases lt : i < xs.length
  · refine .inr ⟨⟨xs, xs[i], hq, List.getElem?_eq_getElem lt⟩, Pv (i + 1), fun σ' H' p' => ⟨xs.length - (i + 1), by omega, rfl, lt, p'⟩, ?_⟩
    rintro v H' ⟨T, x, rfl, hT, rfl, hx⟩
    exact hs i x σ H T (hx xs hq) p hT
  · have e : i = xs.length := by omega
    subst e
    exact .inl ⟨⟨xs, hq, Nat.le_refl _⟩, hd σ H p⟩
end Lp

/-! L4a: the law's own coding, and its look at two things alike. -/
namespace Lp
open PySem PySem.Spec PyProof.Rows L2
def t_law_alike (K : PySem.W.Frag) (sp_law_alike : Sp) : TS :=
  tSeq (tIfS (tTest (tOp rIsN (tVar 1) (tC .non))) (tRet (tOp rIsN (tVar 0) (tC .non))) (tNext)) (tSeq (tIfS (tB (tCB (rIsi K) (tCons (tVar 1) (tCons (tC (.ty "bool")) (tNil))))) (tRet (tAndV (tCB (rIsi K) (tCons (tVar 0) (tCons (tC (.ty "bool")) (tNil)))) (tOp rEq (tVar 0) (tVar 1)))) (tNext)) (tSeq (tIfS (tB (tCB (rIsi K) (tCons (tVar 1) (tCons (tC (.ty "int")) (tNil))))) (tRet (tAndV (tCB (rIsi K) (tCons (tVar 0) (tCons (tC (.ty "int")) (tNil)))) (tAndV (tNotV (tCB (rIsi K) (tCons (tVar 0) (tCons (tC (.ty "bool")) (tNil))))) (tOp rEq (tVar 0) (tVar 1))))) (tNext)) (tSeq (tIfS (tB (tCB (rIsi K) (tCons (tVar 1) (tCons (tC (.ty "str")) (tNil))))) (tRet (tAndV (tCB (rIsi K) (tCons (tVar 0) (tCons (tC (.ty "str")) (tNil)))) (tOp rEq (tVar 0) (tVar 1)))) (tNext)) (tSeq (tIfS (tOr (tTest (tOp rNe (tCB (rIsi K) (tCons (tVar 1) (tCons (tC (.ty "tuple")) (tNil)))) (tCB (rIsi K) (tCons (tVar 0) (tCons (tC (.ty "tuple")) (tNil)))))) (tTest (tOp rNe (tCB (rIsi K) (tCons (tVar 1) (tCons (tC (.ty "list")) (tNil)))) (tCB (rIsi K) (tCons (tVar 0) (tCons (tC (.ty "list")) (tNil))))))) (tRet (tC (.bl false))) (tNext)) (tSeq (tIfS (tTest (tOp rNe (tCB (rLenQ K) (tCons (tVar 0) (tNil))) (tCB (rLenQ K) (tCons (tVar 1) (tNil))))) (tRet (tC (.bl false))) (tNext)) (tSeq (tFor (iRng1 (tCons (tCB (rLenQ K) (tCons (tVar 1) (tNil))) (tNil))) (gName 2) (tIfS (tNot (tB (tCall sp_law_alike [] E0 (tCons (tOp (rIx K) (tVar 0) (tVar 2)) (tCons (tOp (rIx K) (tVar 1) (tVar 2)) (tNil)))))) (tRet (tC (.bl false))) (tNext))) (tRet (tC (.bl true)))))))))

def t_law_part_code (K : PySem.W.Frag) (sp_law_part_code : Sp) : TS :=
  tSeq (tIfS (tTest (tOp (rIn K false) (tOp (rIxT K) (tVar 0) (tC (.int 0))) (tTup (tCons (tC (.str "num")) (tCons (tC (.str "var")) (tNil)))))) (tRet (tLst (tCons (tVar 0) (tNil)))) (tNext)) (tRet (tOp rCat (tOp rCat (tCall sp_law_part_code [] E0 (tCons (tOp (rIxT K) (tVar 0) (tC (.int 1))) (tNil))) (tCall sp_law_part_code [] E0 (tCons (tOp (rIxT K) (tVar 0) (tC (.int 2))) (tNil)))) (tLst (tCons (tTup (tCons (tOp (rIxT K) (tVar 0) (tC (.int 0))) (tNil))) (tNil)))))

def t_law_loop_code (K : PySem.W.Frag) (sp_law_part_code : Sp) (sp_law_code : Sp) : TS :=
  tSeq (tAsg (tCall sp_law_part_code [] E0 (tCons (tOp (rIxT K) (tVar 0) (tC (.int 1))) (tNil))) (gName 3)) (tSeq (tAsg (tOp rAdI (tOp rAdI (tVar 1) (tCB (rLenQ K) (tCons (tVar 3) (tNil)))) (tC (.int 2))) (gName 4)) (tSeq (tAsg (tCall sp_law_code [] E0 (tCons (tOp (rIxT K) (tVar 0) (tC (.int 2))) (tCons (tVar 4) (tCons (tVar 2) (tCons (tTup (tCons (tVar 1) (tCons (tOp rSbI (tUn rNeg (tC (.int 1))) (tVar 1)) (tCons (tVar 2) (tNil))))) (tNil)))))) (gName 5)) (tSeq (tAsg (tOp rAdI (tOp rAdI (tVar 4) (tCB (rLenQ K) (tCons (tVar 5) (tNil)))) (tC (.int 1))) (gName 6)) (tSeq (tAsg (tLc (iList K (tVar 5)) (gName 7) (tYes) (tOp (rIxL K) (tLst (tCons (tVar 7) (tCons (tTup (tCons (tC (.str "leap")) (tCons (tVar 6) (tCons (tVar 2) (tNil))))) (tNil)))) (tCB rInt1 (tCons (tOp (rEqD K) (tVar 7) (tTup (tCons (tC (.str "leap")) (tCons (tOp rSbI (tUn rNeg (tC (.int 1))) (tVar 1)) (tCons (tVar 2) (tNil)))))) (tNil)))) [7]) (gName 5)) (tRet (tOp rCat (tOp rCat (tOp rCat (tVar 3) (tLst (tCons (tTup (tCons (tC (.str "unless")) (tCons (tVar 6) (tNil)))) (tCons (tTup (tCons (tC (.str "turn")) (tNil))) (tNil))))) (tVar 5)) (tLst (tCons (tTup (tCons (tC (.str "go")) (tCons (tVar 1) (tNil)))) (tNil)))))))))

def t_law_try_code (K : PySem.W.Frag) (sp_law_code : Sp) : TS :=
  tSeq (tAsg (tCall sp_law_code [] E0 (tCons (tOp (rIxT K) (tVar 0) (tC (.int 1))) (tCons (tVar 1) (tCons (tVar 2) (tCons (tVar 3) (tNil)))))) (gName 4)) (tSeq (tAsg (tOp rAdI (tVar 1) (tCB (rLenQ K) (tCons (tVar 4) (tNil)))) (gName 5)) (tSeq (tAsg (tOp rCat (tVar 4) (tLst (tCons (tTup (tCons (tC (.str "go")) (tCons (tUn rNeg (tC (.int 1))) (tNil)))) (tNil)))) (gName 6)) (tSeq (tFor (iTup K (tOp (rIxT K) (tVar 0) (tC (.int 2)))) (gName 7) (tSeq (tAsg (tOp rCat (tVar 6) (tLst (tCons (tTup (tCons (tC (.str "handler")) (tCons (tVar 1) (tCons (tVar 5) (tCons (tOp (rIxT K) (tVar 7) (tC (.int 0))) (tCons (tVar 2) (tNil))))))) (tCons (tTup (tCons (tC (.str "set")) (tCons (tOp (rIxT K) (tVar 7) (tC (.int 1))) (tNil)))) (tNil))))) (gName 6)) (tSeq (tAsg (tOp rCat (tVar 6) (tCall sp_law_code [] E0 (tCons (tOp (rIxT K) (tVar 7) (tC (.int 2))) (tCons (tOp rAdI (tVar 1) (tCB (rLenQ K) (tCons (tVar 6) (tNil)))) (tCons (tOp rAdI (tVar 2) (tC (.int 1))) (tCons (tVar 3) (tNil))))))) (gName 6)) (tAsg (tOp rCat (tVar 6) (tLst (tCons (tTup (tCons (tC (.str "settled")) (tNil))) (tCons (tTup (tCons (tC (.str "go")) (tCons (tUn rNeg (tC (.int 1))) (tNil)))) (tNil))))) (gName 6))))) (tSeq (tAsg (tOp rAdI (tVar 1) (tCB (rLenQ K) (tCons (tVar 6) (tNil)))) (gName 8)) (tRet (tLc (iList K (tVar 6)) (gName 9) (tYes) (tOp (rIxL K) (tLst (tCons (tVar 9) (tCons (tTup (tCons (tC (.str "go")) (tCons (tVar 8) (tNil)))) (tNil)))) (tCB rInt1 (tCons (tOp (rEqD K) (tVar 9) (tTup (tCons (tC (.str "go")) (tCons (tUn rNeg (tC (.int 1))) (tNil))))) (tNil)))) [9]))))))

def t_law_if_code (K : PySem.W.Frag) (sp_law_part_code : Sp) (sp_law_code : Sp) : TS :=
  tSeq (tAsg (tCall sp_law_part_code [] E0 (tCons (tOp (rIxT K) (tVar 0) (tC (.int 1))) (tNil))) (gName 4)) (tSeq (tAsg (tCall sp_law_code [] E0 (tCons (tOp (rIxT K) (tVar 0) (tC (.int 2))) (tCons (tOp rAdI (tOp rAdI (tVar 1) (tCB (rLenQ K) (tCons (tVar 4) (tNil)))) (tC (.int 1))) (tCons (tVar 2) (tCons (tVar 3) (tNil)))))) (gName 5)) (tSeq (tAsg (tOp rAdI (tOp rAdI (tOp rAdI (tVar 1) (tCB (rLenQ K) (tCons (tVar 4) (tNil)))) (tCB (rLenQ K) (tCons (tVar 5) (tNil)))) (tC (.int 2))) (gName 6)) (tSeq (tAsg (tCall sp_law_code [] E0 (tCons (tOp (rIxT K) (tVar 0) (tC (.int 3))) (tCons (tVar 6) (tCons (tVar 2) (tCons (tVar 3) (tNil)))))) (gName 7)) (tRet (tOp rCat (tOp rCat (tOp rCat (tOp rCat (tVar 4) (tLst (tCons (tTup (tCons (tC (.str "unless")) (tCons (tVar 6) (tNil)))) (tNil)))) (tVar 5)) (tLst (tCons (tTup (tCons (tC (.str "go")) (tCons (tOp rAdI (tVar 6) (tCB (rLenQ K) (tCons (tVar 7) (tNil)))) (tNil)))) (tNil)))) (tVar 7))))))

def t_law_clean_code (K : PySem.W.Frag) (sp_law_code : Sp) : TS :=
  tSeq (tAsg (tOp rCat (tCall sp_law_code [] E0 (tCons (tOp (rIxT K) (tVar 0) (tC (.int 1))) (tCons (tVar 1) (tCons (tVar 2) (tCons (tVar 3) (tNil)))))) (tLst (tCons (tTup (tCons (tC (.str "mend")) (tNil))) (tNil)))) (gName 4)) (tSeq (tAsg (tOp rAdI (tVar 1) (tCB (rLenQ K) (tCons (tVar 4) (tNil)))) (gName 5)) (tSeq (tAsg (tCall sp_law_code [] E0 (tCons (tOp (rIxT K) (tVar 0) (tC (.int 2))) (tCons (tOp rAdI (tVar 5) (tC (.int 1))) (tCons (tOp rAdI (tVar 2) (tC (.int 1))) (tCons (tVar 3) (tNil)))))) (gName 6)) (tRet (tOp rCat (tOp rCat (tOp rCat (tVar 4) (tLst (tCons (tTup (tCons (tC (.str "cleanup")) (tCons (tVar 1) (tCons (tVar 5) (tCons (tVar 2) (tNil)))))) (tNil)))) (tVar 6)) (tLst (tCons (tTup (tCons (tC (.str "resume")) (tNil))) (tNil)))))))

def t_law_plain_code (K : PySem.W.Frag) (sp_law_part_code : Sp) : TS :=
  tSeq (tAsg (tOp (rIxT K) (tVar 0) (tC (.int 0))) (gName 2)) (tSeq (tIfS (tTest (tOp rEq (tVar 2) (tC (.str "break")))) (tRet (tLst (tCons (tTup (tCons (tC (.str "leap")) (tCons (tOp (rIxT K) (tVar 1) (tC (.int 1))) (tCons (tOp (rIxT K) (tVar 1) (tC (.int 2))) (tNil))))) (tNil)))) (tNext)) (tSeq (tIfS (tTest (tOp rEq (tVar 2) (tC (.str "continue")))) (tRet (tLst (tCons (tTup (tCons (tC (.str "leap")) (tCons (tOp (rIxT K) (tVar 1) (tC (.int 0))) (tCons (tOp (rIxT K) (tVar 1) (tC (.int 2))) (tNil))))) (tNil)))) (tNext)) (tSeq (tIfS (tTest (tOp rEq (tVar 2) (tC (.str "again")))) (tRet (tLst (tCons (tVar 0) (tNil)))) (tNext)) (tSeq (tIfS (tTest (tOp rEq (tVar 2) (tC (.str "set")))) (tRet (tOp rCat (tCall sp_law_part_code [] E0 (tCons (tOp (rIxT K) (tVar 0) (tC (.int 2))) (tNil))) (tLst (tCons (tTup (tCons (tC (.str "set")) (tCons (tOp (rIxT K) (tVar 0) (tC (.int 1))) (tNil)))) (tNil))))) (tNext)) (tSeq (tIfS (tTest (tOp rEq (tVar 2) (tC (.str "raise")))) (tRet (tOp rCat (tCall sp_law_part_code [] E0 (tCons (tOp (rIxT K) (tVar 0) (tC (.int 2))) (tNil))) (tLst (tCons (tTup (tCons (tC (.str "raise")) (tCons (tOp (rIxT K) (tVar 0) (tC (.int 1))) (tCons (tOp (rIxT K) (tVar 0) (tC (.int 3))) (tNil))))) (tNil))))) (tNext)) (tSeq (tIfS (tTest (tOp rEq (tVar 2) (tC (.str "call")))) (tSeq (tAsg (tLst (tNil)) (gName 3)) (tSeq (tFor (iTup K (tOp (rIxT K) (tVar 0) (tC (.int 3)))) (gName 4) (tAsg (tOp rCat (tVar 3) (tCall sp_law_part_code [] E0 (tCons (tVar 4) (tNil)))) (gName 3))) (tRet (tOp rCat (tVar 3) (tLst (tCons (tTup (tCons (tC (.str "call")) (tCons (tOp (rIxT K) (tVar 0) (tC (.int 2))) (tCons (tCB (rLenQ K) (tCons (tOp (rIxT K) (tVar 0) (tC (.int 3))) (tNil))) (tCons (tOp (rIxT K) (tVar 0) (tC (.int 4))) (tNil)))))) (tCons (tTup (tCons (tC (.str "set")) (tCons (tOp (rIxT K) (tVar 0) (tC (.int 1))) (tNil)))) (tNil)))))))) (tNext)) (tRet (tOp rCat (tCall sp_law_part_code [] E0 (tCons (tOp (rIxT K) (tVar 0) (tC (.int 1))) (tNil))) (tLst (tCons (tTup (tCons (tVar 2) (tNil))) (tNil)))))))))))

def t_law_code (K : PySem.W.Frag) (sp_law_code : Sp) (sp_law_if_code : Sp) (sp_law_loop_code : Sp) (sp_law_try_code : Sp) (sp_law_clean_code : Sp) (sp_law_plain_code : Sp) : TS :=
  tSeq (tAsg (tOp (rIxT K) (tVar 0) (tC (.int 0))) (gName 4)) (tSeq (tIfS (tTest (tOp rEq (tVar 4) (tC (.str "row")))) (tSeq (tAsg (tLst (tNil)) (gName 5)) (tSeq (tFor (iTup K (tOp (rIxT K) (tVar 0) (tC (.int 1)))) (gName 6) (tAsg (tOp rCat (tVar 5) (tCall sp_law_code [] E0 (tCons (tVar 6) (tCons (tOp rAdI (tVar 1) (tCB (rLenQ K) (tCons (tVar 5) (tNil)))) (tCons (tVar 2) (tCons (tVar 3) (tNil))))))) (gName 5))) (tRet (tVar 5)))) (tNext)) (tSeq (tIfS (tTest (tOp rEq (tVar 4) (tC (.str "if")))) (tRet (tCall sp_law_if_code [] E0 (tCons (tVar 0) (tCons (tVar 1) (tCons (tVar 2) (tCons (tVar 3) (tNil))))))) (tNext)) (tSeq (tIfS (tTest (tOp rEq (tVar 4) (tC (.str "while")))) (tRet (tCall sp_law_loop_code [] E0 (tCons (tVar 0) (tCons (tVar 1) (tCons (tVar 2) (tNil)))))) (tNext)) (tSeq (tIfS (tTest (tOp rEq (tVar 4) (tC (.str "try")))) (tRet (tCall sp_law_try_code [] E0 (tCons (tVar 0) (tCons (tVar 1) (tCons (tVar 2) (tCons (tVar 3) (tNil))))))) (tNext)) (tSeq (tIfS (tTest (tOp rEq (tVar 4) (tC (.str "clean")))) (tRet (tCall sp_law_clean_code [] E0 (tCons (tVar 0) (tCons (tVar 1) (tCons (tVar 2) (tCons (tVar 3) (tNil))))))) (tNext)) (tRet (tCall sp_law_plain_code [] E0 (tCons (tVar 0) (tCons (tVar 3) (tNil))))))))))

def t_law_table (K : PySem.W.Frag) : TS :=
  tSeq (tAsg (tLst (tNil)) (gName 1)) (tSeq (tFor (iRng1 (tCons (tCB (rLenQ K) (tCons (tVar 0) (tNil))) (tNil))) (gName 2) (tSeq (tAsg (tOp (rIxT K) (tVar 0) (tVar 2)) (gName 3)) (tSeq (tIfS (tTest (tOp rEq (tOp (rIxT K) (tVar 3) (tC (.int 0))) (tC (.str "handler")))) (tDrop (tBM K "list" rAppend (tVar 1) (tCons (tTup (tCons (tOp (rIxT K) (tVar 3) (tC (.int 1))) (tCons (tOp (rIxT K) (tVar 3) (tC (.int 2))) (tCons (tC (.str "handler")) (tCons (tOp (rIxT K) (tVar 3) (tC (.int 3))) (tCons (tVar 2) (tCons (tOp (rIxT K) (tVar 3) (tC (.int 4))) (tNil)))))))) (tNil)))) (tNext)) (tIfS (tTest (tOp rEq (tOp (rIxT K) (tVar 3) (tC (.int 0))) (tC (.str "cleanup")))) (tDrop (tBM K "list" rAppend (tVar 1) (tCons (tTup (tCons (tOp (rIxT K) (tVar 3) (tC (.int 1))) (tCons (tOp (rIxT K) (tVar 3) (tC (.int 2))) (tCons (tC (.str "cleanup")) (tCons (tC .non) (tCons (tVar 2) (tCons (tOp (rIxT K) (tVar 3) (tC (.int 3))) (tNil)))))))) (tNil)))) (tNext))))) (tRet (tCB (rTupOf K) (tCons (tVar 1) (tNil)))))

def t_law_coded (K : PySem.W.Frag) (sp_law_code : Sp) (sp_law_table : Sp) : TS :=
  tSeq (tAsg (tLst (tNil)) (gName 1)) (tSeq (tFor (iTup K (tOp (rIxT K) (tVar 0) (tC (.int 1)))) (gName 2) (tSeq (tAsg (tCB (rTupOf K) (tCons (tOp rCat (tCall sp_law_code [] E0 (tCons (tOp (rIxT K) (tVar 2) (tC (.int 1))) (tCons (tC (.int 0)) (tCons (tC (.int 0)) (tCons (tC .non) (tNil)))))) (tLst (tCons (tTup (tCons (tC (.str "num")) (tCons (tC (.int 0)) (tNil)))) (tCons (tTup (tCons (tC (.str "return")) (tNil))) (tNil))))) (tNil))) (gName 3)) (tDrop (tBM K "list" rAppend (tVar 1) (tCons (tTup (tCons (tOp (rIxT K) (tVar 2) (tC (.int 0))) (tCons (tVar 3) (tCons (tCall sp_law_table [] E0 (tCons (tVar 3) (tNil))) (tNil))))) (tNil)))))) (tRet (tCB (rTupOf K) (tCons (tVar 1) (tNil)))))

/-! ### alike -/
mutual
/-- the longest list or tuple within -/
def wid : PyData → Nat
  | .list xs => max xs.length (widAll xs)
  | .tuple xs => max xs.length (widAll xs)
  | .none | .bool _ | .int _ | .str _ | .dict _ => 0
def widAll : List PyData → Nat
  | [] => 0
  | x :: xs => max (wid x) (widAll xs)
end
theorem wid_mem : ∀ {ds : List PyData} {d : PyData}, d ∈ ds → wid d ≤ widAll ds ∧ d.depth ≤ PyData.depthAll ds
  | [], _, h => by cases h
  | e :: r, d, h => by
    rcases List.mem_cons.mp h with rfl | h
    · simp [widAll, PyData.depthAll]; omega
    · have := wid_mem h
      simp [widAll, PyData.depthAll]; omega
def spAlike (K : PySem.W.Frag) (n : Nat) : Sp := fun vs H Q _ => ∃ (x y : V) (d : PyData), vs = [x, y] ∧ Dp K H x d ∧ Dp K H y d ∧ d.depth < n ∧ wid d ≤ 1000000 ∧ Q (.bl true) H
theorem spAlike_zero {K : PySem.W.Frag} (vs : List V) (H : Hp) (Q : VK) (E : XK) : ¬ spAlike K 0 vs H Q E := by
  rintro ⟨x, y, d, _, _, _, h, _⟩
  omega
section
variable {K : PySem.W.Frag} {H : Hp} {a : Addr} {xs : List V}
theorem tyL (h : SqL K H a xs) : TyX K H (.ref a) (.type "list") := by
  rcases h with (h | ⟨o, h⟩) | ⟨o, its, n, hk, hc, _⟩
  · exact .base (.lst h)
  · exact .base (.frz h)
  · exact .kList hk hc
theorem tyT (h : SqT K H a xs) : TyX K H (.ref a) (.type "tuple") := by
  rcases h with (h | ⟨o, h⟩) | ⟨o, its, n, hk, hc, _⟩
  · exact .base (.tup h)
  · exact .fTuple h
  · exact .kTuple hk hc
theorem kit_bb : PySem.W.kitOne K (.type "bool") (.type "bool") = some true := kit_ty (by decide +kernel)
theorem kit_ib : PySem.W.kitOne K (.type "int") (.type "bool") = some false := kit_ty (by decide +kernel)
theorem kit_sb : PySem.W.kitOne K (.type "str") (.type "bool") = some false := kit_ty (by decide +kernel)
theorem kit_lb : PySem.W.kitOne K (.type "list") (.type "bool") = some false := kit_ty (by decide +kernel)
theorem kit_tb : PySem.W.kitOne K (.type "tuple") (.type "bool") = some false := kit_ty (by decide +kernel)
theorem kit_ii : PySem.W.kitOne K (.type "int") (.type "int") = some true := kit_ty (by decide +kernel)
theorem kit_si : PySem.W.kitOne K (.type "str") (.type "int") = some false := kit_ty (by decide +kernel)
theorem kit_li : PySem.W.kitOne K (.type "list") (.type "int") = some false := kit_ty (by decide +kernel)
theorem kit_ti : PySem.W.kitOne K (.type "tuple") (.type "int") = some false := kit_ty (by decide +kernel)
theorem kit_ss : PySem.W.kitOne K (.type "str") (.type "str") = some true := kit_ty (by decide +kernel)
theorem kit_ls : PySem.W.kitOne K (.type "list") (.type "str") = some false := kit_ty (by decide +kernel)
theorem kit_ts : PySem.W.kitOne K (.type "tuple") (.type "str") = some false := kit_ty (by decide +kernel)
theorem kit_tt : PySem.W.kitOne K (.type "tuple") (.type "tuple") = some true := kit_ty (by decide +kernel)
theorem kit_lt : PySem.W.kitOne K (.type "list") (.type "tuple") = some false := kit_ty (by decide +kernel)
theorem kit_tl : PySem.W.kitOne K (.type "tuple") (.type "list") = some false := kit_ty (by decide +kernel)
theorem kit_ll : PySem.W.kitOne K (.type "list") (.type "list") = some true := kit_ty (by decide +kernel)
/-- isinstance of what stands in a slot -/
theorem rIs {σ : L2.St} {i : Nat} {x : V} {t n : String} {b : Bool} {Q : VK} (hs : σ[i]? = some (some x)) (ty : TyX K H x (.type t)) (k : PySem.W.kitOne K (.type t) (.type n) = some b) (q : Q (.bl b) H) :
    tCB (rIsi K) (tCons (tVar i) (tCons (tC (.ty n)) tNil)) σ H Q := ⟨_, hs, x, .ty n, _, _, b, rfl, .ty n, ty, k, q⟩
theorem dpAll_length : ∀ {vs : List V} {ds : List PyData}, DpAll K H vs ds → vs.length = ds.length
  | _, [], h => by cases h; rfl
  | _, d :: ds, h => by
    cases h with
    | cons h1 h2 => simp [dpAll_length h2]
theorem dpAll_get : ∀ {vs : List V} {ds : List PyData} {i : Nat} {d : PyData}, DpAll K H vs ds → ds[i]? = some d → ∃ v, vs[i]? = some v ∧ Dp K H v d
  | _, [], i, d, h, e => by simp at e
  | _, d0 :: ds, 0, d, h, e => by
    cases h with
    | cons h1 h2 => simp at e; subst e; exact ⟨_, rfl, h1⟩
  | _, d0 :: ds, i + 1, d, h, e => by
    cases h with
    | cons h1 h2 =>
      obtain ⟨v, e', t⟩ := dpAll_get (i := i) (d := d) h2 (by simpa using e)
      exact ⟨v, by simpa using e', t⟩
end
abbrev N_law_alike : List Str := ["_law_found", "_law_due", "_law_k"]
theorem rd_alike {K : PySem.W.Frag} {n : Nat} (vs : List V) (H : Hp) (Q : VK) (E : XK) (h : spAlike K (n + 1) vs H Q E) : t_law_alike K (spAlike K n) { nx := fun _ H' => Q .non H', rt := Q } (start N_law_alike vs) H := by
  obtain ⟨x, y, d, rfl, hx, hy, hd, hw, q⟩ := h
  -- what is walked at the end: the places of two lists, two tuples
  have walk : ∀ (a b : Addr) (us ws : List V) (ds : List PyData) (s1 : SqL K H a us ∨ SqT K H a us) (s2 : SqL K H b ws ∨ SqT K H b ws), DpAll K H us ds → DpAll K H ws ds → PyData.depthAll ds < n → widAll ds ≤ 1000000 → ds.length ≤ 1000000 →
      (tSeq (tIfS (tTest (tOp rNe (tCB (rLenQ K) (tCons (tVar 0) (tNil))) (tCB (rLenQ K) (tCons (tVar 1) (tNil))))) (tRet (tC (.bl false))) (tNext)) (tSeq (tFor (iRng1 (tCons (tCB (rLenQ K) (tCons (tVar 1) (tNil))) (tNil))) (gName 2) (tIfS (tNot (tB (tCall (spAlike K n) [] E0 (tCons (tOp (rIx K) (tVar 0) (tVar 2)) (tCons (tOp (rIx K) (tVar 1) (tVar 2)) (tNil)))))) (tRet (tC (.bl false))) (tNext))) (tRet (tC (.bl true))))) { nx := fun _ H' => Q .non H', rt := Q } [some (.ref a), some (.ref b), none] H := by
    intro a b us ws ds s1 s2 h1 h2 hdep hwid hlen
    have l1 := dpAll_length h1; have l2 := dpAll_length h2
    refine ⟨_, rfl, a, us, rfl, s1, _, rfl, b, ws, rfl, s2, rfl, _, rfl, ifF (by rw [dT (by rw [l1, l2])]; rfl) ?_⟩
    refine ⟨_, rfl, b, ws, rfl, s2, _, rfl, by omega, by omega, for_range (lo := 0) (n := ((ws.length : Int)).toNat) (fun i σ H' => H' = H ∧ ∃ v, σ = [some (.ref a), some (.ref b), v]) ⟨rfl, none, rfl⟩ ?_ ?_⟩
    · rintro i σ H' hi ⟨rfl, v, rfl⟩
      have hi2 : i < ds.length := by omega
      have ed : ds[i]? = some ds[i] := List.getElem?_eq_getElem hi2
      obtain ⟨u, hu, du⟩ := dpAll_get h1 ed
      obtain ⟨w, hw', dw⟩ := dpAll_get h2 ed
      have hm := wid_mem (List.getElem_mem hi2)
      have e0 : (0 : Int) + (i : Int) = (i : Int) := by omega
      refine ⟨_, rfl, _, rfl, ?_⟩
      rw [e0]
      have ix1 : ∀ {Q' : VK}, Q' u H' → rIx K (.ref a) (.int (i : Int)) H' Q' := fun {Q'} q' => by
        rcases s1 with s | s
        · exact .inl ⟨a, us, _, u, rfl, rfl, s, atI_nat hu, q'⟩
        · exact .inr (.inl ⟨a, us, _, u, rfl, rfl, s, atI_nat hu, q'⟩)
      have ix2 : ∀ {Q' : VK}, Q' w H' → rIx K (.ref b) (.int (i : Int)) H' Q' := fun {Q'} q' => by
        rcases s2 with s | s
        · exact .inl ⟨b, ws, _, w, rfl, rfl, s, atI_nat hw', q'⟩
        · exact .inr (.inl ⟨b, ws, _, w, rfl, rfl, s, atI_nat hw', q'⟩)
      refine ix1 ⟨_, rfl, _, rfl, ix2 ⟨u, w, ds[i], rfl, du, dw, by omega, by omega, true, rfl, ifF rfl ?_⟩⟩
      exact ⟨rfl, _, rfl⟩
    · rintro σ H' ⟨rfl, v, rfl⟩
      exact q
  cases hx with
  | non =>
    cases hy
    refine ⟨_, rfl, rfl, _, rfl, ifT rfl ⟨_, rfl, rfl, q⟩⟩
  | bl b =>
    cases hy
    refine ⟨_, rfl, rfl, _, rfl, ifF rfl (rIs rfl (.base (.bl _)) kit_bb ⟨_, rfl, ifT rfl (rIs rfl (.base (.bl _)) kit_bb ⟨_, rfl, ifT rfl ⟨_, rfl, _, rfl, rfl, ?_⟩⟩)⟩)⟩
    rw [dT rfl]; exact q
  | int i =>
    cases hy
    refine ⟨_, rfl, rfl, _, rfl, ifF rfl (rIs rfl (.base (.int _)) kit_ib ⟨_, rfl, ifF rfl (rIs rfl (.base (.int _)) kit_ii ⟨_, rfl, ifT rfl (rIs rfl (.base (.int _)) kit_ii ⟨_, rfl, ifT rfl (rIs rfl (.base (.int _)) kit_ib ⟨_, rfl, _, rfl, ifT rfl ⟨_, rfl, _, rfl, rfl, ?_⟩⟩)⟩)⟩)⟩)⟩
    rw [dT rfl]; exact q
  | str z =>
    cases hy
    refine ⟨_, rfl, rfl, _, rfl, ifF rfl (rIs rfl (.base (.str _)) kit_sb ⟨_, rfl, ifF rfl (rIs rfl (.base (.str _)) kit_si ⟨_, rfl, ifF rfl (rIs rfl (.base (.str _)) kit_ss ⟨_, rfl, ifT rfl (rIs rfl (.base (.str _)) kit_ss ⟨_, rfl, ifT rfl ⟨_, rfl, _, rfl, rfl, ?_⟩⟩)⟩)⟩)⟩)⟩
    rw [dT rfl]; exact q
  | @lst a us ds s1 h1 =>
    cases hy with
    | @lst b ws _ s2 h2 =>
      have hd' : PyData.depthAll ds + 1 < n + 1 := by simpa [PyData.depth] using hd
      have hw' : max ds.length (widAll ds) ≤ 1000000 := by simpa [wid] using hw
      refine ⟨_, rfl, rfl, _, rfl, ifF rfl (rIs rfl (tyL s2) kit_lb ⟨_, rfl, ifF rfl (rIs rfl (tyL s2) kit_li ⟨_, rfl, ifF rfl (rIs rfl (tyL s2) kit_ls ⟨_, rfl, ifF rfl ?_⟩)⟩)⟩)⟩
      refine rIs rfl (tyL s2) kit_lt (rIs rfl (tyL s1) kit_lt ⟨rfl, _, rfl, ifF rfl (rIs rfl (tyL s2) kit_ll (rIs rfl (tyL s1) kit_ll ⟨rfl, _, rfl, ifF rfl ?_⟩))⟩)
      exact walk a b us ws ds (.inl s1) (.inl s2) h1 h2 (by omega) (by omega) (by omega)
  | @tup a us ds s1 h1 =>
    cases hy with
    | @tup b ws _ s2 h2 =>
      have hd' : PyData.depthAll ds + 1 < n + 1 := by simpa [PyData.depth] using hd
      have hw' : max ds.length (widAll ds) ≤ 1000000 := by simpa [wid] using hw
      refine ⟨_, rfl, rfl, _, rfl, ifF rfl (rIs rfl (tyT s2) kit_tb ⟨_, rfl, ifF rfl (rIs rfl (tyT s2) kit_ti ⟨_, rfl, ifF rfl (rIs rfl (tyT s2) kit_ts ⟨_, rfl, ifF rfl ?_⟩)⟩)⟩)⟩
      refine rIs rfl (tyT s2) kit_tt (rIs rfl (tyT s1) kit_tt ⟨rfl, _, rfl, ifF rfl (rIs rfl (tyT s2) kit_tl (rIs rfl (tyT s1) kit_tl ⟨rfl, _, rfl, ifF rfl ?_⟩))⟩)
      exact walk a b us ws ds (.inr s1) (.inr s2) h1 h2 (by omega) (by omega) (by omega)
/-! ### new lists of rows -/
/-- a new list of these; all stands -/
def NewL (K : PySem.W.Frag) (H : Hp) (Q : VK) (ds : List PyData) : Prop := ∀ (r : Addr) (vs : List V) (H' : Hp), H r = none → H' r = some (.lst vs) → TpAll K H' vs ds → Same H H' → Q (.ref r) H'
section
variable {K : PySem.W.Frag} {H H1 : Hp} {Q : VK}
theorem NewL.mono {ds : List PyData} (q : NewL K H Q ds) (s : Same H H1) : NewL K H1 Q ds := fun r vs H' hr h t s' => q r vs H' (s.free hr) h t (s.trans s')
theorem Same.new {p : Addr} {o : HO} (h : H p = none) : Same H (upd H p o) := fun b u e => by rw [upd_ne (ne_of_none e h)]; exact e
theorem sqSameL {a : Addr} {xs : List V} (s : Same H H1) (h : SqL K H a xs) : SqL K H1 a xs := s.seq h
/-- two lists in a row -/
theorem cat_new {a b : Addr} {xs ys : List V} {ds es : List PyData} (ha : H a = some (.lst xs)) (hb : H b = some (.lst ys)) (tx : TpAll K H xs ds) (ty : TpAll K H ys es) (hz : ds.length + es.length ≤ 1000000) (q : NewL K H Q (ds ++ es)) : rCat (.ref a) (.ref b) H Q := by
  refine ⟨a, b, xs, ys, rfl, rfl, ha, hb, ?_, fun p hp => ?_⟩
  · rw [tx.length, ty.length]; exact sz_le1 hz
  · exact q p _ _ hp upd_same ((tx.app ty).mono (Tk.new hp)) (Same.new hp)
/-- a comprehension over a list, all stands -/
theorem lc_same {Qd : Hp → Prop} {a D : Addr} {xs : List V} {ds es : List PyData} {te : TE} {slot : Nat} {σ : L2.St} (hs : SqL K H1 a xs) (ht : TpAll K H1 xs ds) (hl : es.length = ds.length) (hD : H1 D = none) (hz : ds.length < 1000000)
    (hw : ∀ x, wipe ((wipe σ [slot]).set slot x) [slot] = wipe σ [slot])
    (step : ∀ (i : Nat) (x : V) (d e : PyData) (H2 : Hp), ds[i]? = some d → es[i]? = some e → Same H1 H2 → Tp K H2 x d → ∀ Q' : VK, (∀ y H3, Same H2 H3 → Tp K H3 y e → Q' y H3) → te ((wipe σ [slot]).set slot (some x)) H2 Q')
    (fin : ∀ (vs : List V) (H' : Hp), H' D = some (.lst vs) → TpAll K H' vs es → Same H1 H' → Qd H') :
    ∃ W : Nat → Nat → Hp → Prop, (∃ m, W 0 m (upd H1 D (.lst []))) ∧ ∀ i m H, W i m H →
      ((Itl K a).stop i H ∧ Qd H) ∨ ((Itl K a).go i H ∧ ∃ Nx : Hp → Prop, (∀ H', Nx H' → ∃ m', m' < m ∧ W (i + 1) m' H') ∧ ∀ x H', (Itl K a).yld i H x H' → gName slot x (wipe σ [slot]) H' fun σ2 H2 => wipe σ2 [slot] = wipe σ [slot] ∧ tYes σ2 H2 fun c H3 =>
        if c = true then te σ2 H3 fun y H4 => ∃ acc, H4 D = some (.lst acc) ∧ acc.length < sizeLine ∧ Nx (upd H4 D (.lst (acc ++ [y]))) else Nx H3) := by
  have lx := ht.length
  refine lc_list (K := K) (a := a) (xs := xs) (Qd := Qd) (fun i H' => ∃ vs, H' D = some (.lst vs) ∧ TpAll K H' vs (es.take i) ∧ Same H1 H')
    ⟨[], upd_same, .nil, Same.new hD⟩ (fun i H' _ ⟨_, _, _, s⟩ => s.seq hs) ?_ ?_
  · rintro i x H2 hx ⟨vs, hv, tv, s2⟩
    obtain ⟨d, hd, td⟩ := ht.get hx
    have hi : i < es.length := by rw [hl]; exact (List.getElem?_eq_some_iff.mp hd).1
    have he : es[i]? = some es[i] := List.getElem?_eq_getElem hi
    refine ⟨hw _, ?_⟩
    show te ((wipe σ [slot]).set slot (some x)) H2 fun y H4 => ∃ acc, H4 D = some (.lst acc) ∧ acc.length < sizeLine ∧ _
    refine step i x d es[i] H2 hd he s2 (td.mono (Tk.same s2)) _ fun y H3 s3 t3 => ?_
    have hv3 := s3 D _ hv
    refine ⟨vs, hv3, ?_, vs ++ [y], upd_same, ?_, fun b u e => by rw [upd_ne (ne_of_none e hD)]; exact s3 b u (s2 b u e)⟩
    · have := tv.length
      rw [List.length_take] at this
      exact sz_lt1 (by omega)
    · rw [List.take_succ, he]
      exact ((tv.mono (Tk.same s3)).snoc t3).mono (Tk.lst hv3)
  · rintro H' ⟨vs, hv, tv, s2⟩
    rw [List.take_of_length_le (by omega)] at tv
    exact fin vs H' hv tv s2
end
/-! ### parts one by one -/
section
variable {K : PySem.W.Frag} {H : Hp} {xs : List V} {i : Nat} {x : V}
theorem drop_at (hx : xs[i]? = some x) : xs.drop i = x :: xs.drop (i + 1) := by
  have hi := (List.getElem?_eq_some_iff.mp hx).1
  rw [List.drop_eq_getElem_cons hi, (List.getElem?_eq_some_iff.mp hx).2]
theorem sms_at {r : Sms} (ht : TpAll K H (xs.drop i) r.ds) (hx : xs[i]? = some x) : ∃ s r', r = .cons s r' ∧ Tp K H x s.d ∧ TpAll K H (xs.drop (i + 1)) r'.ds := by
  rw [drop_at hx] at ht
  cases r with
  | nil => cases ht
  | cons s r' =>
    cases ht with
    | cons h1 h2 => exact ⟨s, r', rfl, h1, h2⟩
theorem sms_end {r : Sms} (ht : TpAll K H (xs.drop xs.length) r.ds) : r = .nil := by
  rw [List.drop_length] at ht
  cases r with
  | nil => rfl
  | cons s r' => cases ht
theorem hds_at {r : Hds} (ht : TpAll K H (xs.drop i) r.ds) (hx : xs[i]? = some x) : ∃ k sl t r', r = .cons k sl t r' ∧ Tp K H x (.tuple [kindD k, .int (sl : Int), t.d]) ∧ TpAll K H (xs.drop (i + 1)) r'.ds := by
  rw [drop_at hx] at ht
  cases r with
  | nil => cases ht
  | cons k sl t r' =>
    cases ht with
    | cons h1 h2 => exact ⟨k, sl, t, r', rfl, h1, h2⟩
theorem hds_end {r : Hds} (ht : TpAll K H (xs.drop xs.length) r.ds) : r = .nil := by
  rw [List.drop_length] at ht
  cases r with
  | nil => rfl
  | cons k sl t r' => cases ht
theorem exs_at {r : List Ex} (ht : TpAll K H (xs.drop i) (r.map Ex.d)) (hx : xs[i]? = some x) : ∃ e r', r = e :: r' ∧ Tp K H x e.d ∧ TpAll K H (xs.drop (i + 1)) (r'.map Ex.d) := by
  rw [drop_at hx] at ht
  cases r with
  | nil => cases ht
  | cons e r' =>
    cases ht with
    | cons h1 h2 => exact ⟨e, r', rfl, h1, h2⟩
theorem exs_end {r : List Ex} (ht : TpAll K H (xs.drop xs.length) (r.map Ex.d)) : r = [] := by
  rw [List.drop_length] at ht
  cases r with
  | nil => rfl
  | cons e r' => cases ht
end
/-! ### _law_part_code -/
def spPartCode (K : PySem.W.Frag) (n : Nat) : Sp := fun vs H Q _ => ∃ (v : V) (e : Ex), vs = [v] ∧ Tp K H v e.d ∧ e.dep ≤ n ∧ e.len ≤ 100000 ∧ NewL K H Q (e.code.map Rw.d)
theorem spPartCode_zero {K : PySem.W.Frag} (vs : List V) (H : Hp) (Q : VK) (E : XK) : ¬ spPartCode K 0 vs H Q E := by
  rintro ⟨v, e, _, _, h, _⟩
  cases e <;> simp [Ex.dep] at h
section
variable {K : PySem.W.Frag}
abbrev N_law_part_code : List Str := ["_law_part_here"]
theorem rd_part_code {n : Nat} (vs : List V) (H : Hp) (Q : VK) (E : XK) (h : spPartCode K (n + 1) vs H Q E) : t_law_part_code K (spPartCode K n) { nx := fun _ H' => Q .non H', rt := Q } (start N_law_part_code vs) H := by
  obtain ⟨v, e, rfl, ht, hd, hz, q⟩ := h
  have leaf : ∀ (a : Addr) (x0 x1 : V), v = .ref a → SqT K H a [x0, x1] → (x0 = .str "num" ∨ x0 = .str "var") → e.code.map Rw.d = [e.d] → t_law_part_code K (spPartCode K n) { nx := fun _ H' => Q .non H', rt := Q } (start N_law_part_code [v]) H := by
    rintro a x0 x1 rfl hT hx he
    refine rd_ixT (j := 0) rfl hT rfl ⟨(by show 2 ≤ sizeLine; decide), fun p hp => ⟨p, _, rfl, .inr (SqT.of upd_same), ?_⟩⟩
    have f1 : flatV x0 = true := by rcases hx with rfl | rfl <;> rfl
    have f2 : inV x0 ([.str "num", .str "var"] : List V) = true := by rcases hx with rfl | rfl <;> rfl
    refine ⟨f1, rfl, true, by rw [if_neg Bool.false_ne_true, f2], ifT rfl ?_⟩
    refine ⟨_, rfl, (by show 1 ≤ sizeLine; decide), fun r hr => ?_⟩
    have s1 : Same H (L2.upd H p (.tup [.str "num", .str "var"])) := Same.new hp
    refine q r _ _ (s1.free hr) upd_same ?_ (s1.trans (Same.new hr))
    rw [he]
    exact .cons ((ht.mono (Tk.same s1)).mono (Tk.new hr)) .nil
  cases e with
  | num k =>
    obtain ⟨a, x0, x1, rfl, hT, h0, h1⟩ := ht.tup2
    exact leaf a x0 x1 rfl hT (.inl h0.strE) rfl
  | var k =>
    obtain ⟨a, x0, x1, rfl, hT, h0, h1⟩ := ht.tup2
    exact leaf a x0 x1 rfl hT (.inr h0.strE) rfl
  | bin o e1 e2 =>
    obtain ⟨a, x0, x1, x2, rfl, hT, h0, h1, h2⟩ := ht.tup3
    cases h0.strE
    have hd' : max e1.dep e2.dep + 1 ≤ n + 1 := hd
    have hz' : e1.len + e2.len + 1 ≤ 100000 := hz
    refine rd_ixT (j := 0) rfl hT rfl ⟨(by show 2 ≤ sizeLine; decide), fun p hp => ⟨p, _, rfl, .inr (SqT.of upd_same), rfl, rfl, false, ?_, ifF rfl ?_⟩⟩
    · rw [if_neg Bool.false_ne_true]; cases o <;> rfl
    have s1 : Same H (L2.upd H p (.tup [.str "num", .str "var"])) := Same.new hp
    refine rd_ixT (j := 1) rfl (s1.sqT hT) rfl ⟨_, e1, rfl, h1.mono (Tk.same s1), by omega, by omega, fun r1 us H1 hr1 hl1 t1 s2 => ?_⟩
    have s12 := s1.trans s2
    refine rd_ixT (j := 2) rfl (s12.sqT hT) rfl ⟨_, e2, rfl, h2.mono (Tk.same s12), by omega, by omega, fun r2 ws H2 hr2 hl2 t2 s3 => ?_⟩
    refine cat_new (K := K) (s3 _ _ hl1) hl2 (t1.mono (Tk.same s3)) t2 (by rw [List.length_map, List.length_map, Ex.code_len, Ex.code_len]; omega) fun r3 ys H3 hr3 hl3 t3 s4 => ?_
    have s14 := (s12.trans s3).trans s4
    refine rd_ixT (j := 0) rfl (s14.sqT hT) rfl ⟨(by show 1 ≤ sizeLine; decide), fun p2 hp2 => ⟨(by show 1 ≤ sizeLine; decide), fun p3 hp3 => ?_⟩⟩
    have s5 : Same H3 (L2.upd (L2.upd H3 p2 (.tup [.str o.s])) p3 (.lst [.ref p2])) := (Same.new hp2).trans (Same.new hp3)
    refine cat_new (K := K) (ds := e1.code.map Rw.d ++ e2.code.map Rw.d) (es := [(Rw.op o).d]) (s5 _ _ hl3) upd_same (t3.mono (Tk.same s5)) (.cons ((Tp.mk hp2 (.cons (.str _) .nil)).mono (Tk.new hp3)) .nil) (by simp [Ex.code_len]; omega) ?_
    rw [show e1.code.map Rw.d ++ e2.code.map Rw.d ++ [(Rw.op o).d] = (Ex.bin o e1 e2).code.map Rw.d by simp [Ex.code]]
    exact q.mono (s14.trans s5)
/-! ### _law_code and what it calls -/
/-- the turn as it is handed: None, or three numbers -/
def tnD : Option Tn → PyData
  | none => .none
  | some t => .tuple [.int t.1, .int t.2.1, .int t.2.2]
def tnOf : Option Tn → Tn
  | none => (0, 0, 0)
  | some t => t
/-- what may be coded: breaks where there is a while, at most so deep and so long; from a place on -/
structure CodeOk (s : Sm) (n : Nat) (tn : Option Tn) (base : Int) : Prop where
  wf : ∃ cs nk hand, s.Wf cs nk tn.isSome hand
  dep : s.dep ≤ n
  len : s.len ≤ 100000
  b0 : 0 ≤ base
  tn0 : ∀ t, tn = some t → 0 ≤ t.1
def spCode (n : Nat) : Sp := fun vs H Q _ => ∃ (v tv : V) (s : Sm) (base D : Int) (tn : Option Tn), vs = [v, .int base, .int D, tv] ∧ Tp K H v s.d ∧ Tp K H tv (tnD tn) ∧ CodeOk s n tn base ∧ NewL K H Q ((s.code base D (tnOf tn)).map Rw.d)
theorem spCode_zero (vs : List V) (H : Hp) (Q : VK) (E : XK) : ¬ spCode (K := K) 0 vs H Q E := by
  rintro ⟨v, tv, s, base, D, tn, _, _, _, h, _⟩
  have := h.dep
  cases s <;> simp [Sm.dep] at this
def spIfCode (n : Nat) : Sp := fun vs H Q _ => ∃ (v tv : V) (e : Ex) (s t : Sm) (base D : Int) (tn : Option Tn), vs = [v, .int base, .int D, tv] ∧ Tp K H v (Sm.ife e s t).d ∧ Tp K H tv (tnD tn) ∧ CodeOk (.ife e s t) (n + 1) tn base ∧ NewL K H Q (((Sm.ife e s t).code base D (tnOf tn)).map Rw.d)
def spLoopCode (n : Nat) : Sp := fun vs H Q _ => ∃ (v : V) (e : Ex) (s : Sm) (base D : Int) (tn : Option Tn), vs = [v, .int base, .int D] ∧ Tp K H v (Sm.whl e s).d ∧ CodeOk (.whl e s) (n + 1) tn base ∧ NewL K H Q (((Sm.whl e s).code base D (tnOf tn)).map Rw.d)
def spTryCode (n : Nat) : Sp := fun vs H Q _ => ∃ (v tv : V) (s : Sm) (hs : Hds) (base D : Int) (tn : Option Tn), vs = [v, .int base, .int D, tv] ∧ Tp K H v (Sm.tri s hs).d ∧ Tp K H tv (tnD tn) ∧ CodeOk (.tri s hs) (n + 1) tn base ∧ NewL K H Q (((Sm.tri s hs).code base D (tnOf tn)).map Rw.d)
def spCleanCode (n : Nat) : Sp := fun vs H Q _ => ∃ (v tv : V) (s c : Sm) (base D : Int) (tn : Option Tn), vs = [v, .int base, .int D, tv] ∧ Tp K H v (Sm.cln s c).d ∧ Tp K H tv (tnD tn) ∧ CodeOk (.cln s c) (n + 1) tn base ∧ NewL K H Q (((Sm.cln s c).code base D (tnOf tn)).map Rw.d)
def Sm.plain : Sm → Bool
  | .row _ | .ife _ _ _ | .whl _ _ | .tri _ _ | .cln _ _ => false
  | _ => true
def spPlainCode : Sp := fun vs H Q _ => ∃ (v tv : V) (s : Sm) (n : Nat) (base D : Int) (tn : Option Tn), vs = [v, tv] ∧ Tp K H v s.d ∧ Tp K H tv (tnD tn) ∧ s.plain = true ∧ CodeOk s n tn base ∧ NewL K H Q ((s.code base D (tnOf tn)).map Rw.d)
theorem Sm.dep_pos : ∀ s : Sm, 1 ≤ s.dep := fun s => by cases s <;> simp [Sm.dep]
theorem ite_int {c : Bool} : (if c = true then (1 : Int) else 0) = if c then 1 else 0 := by cases c <;> rfl
abbrev N_law_if_code : List Str := ["_law_one", "_law_base", "_law_depth", "_law_turn", "_law_head", "_law_yes", "_law_here", "_law_no"]
theorem rd_if_code {n : Nat} (vs : List V) (H : Hp) (Q : VK) (E : XK) (h : spIfCode (K := K) n vs H Q E) : t_law_if_code K (spPartCode K 6) (spCode (K := K) n) { nx := fun _ H' => Q .non H', rt := Q } (start N_law_if_code vs) H := by
  obtain ⟨v, tv, e, s, t, base, D, tn, rfl, ht, htn, ok, q⟩ := h
  obtain ⟨cs, nk, hand, ⟨we, de⟩, ws, wt⟩ := ok.wf
  have hd : max s.dep t.dep + 1 ≤ n + 1 := ok.dep
  have hl : e.len + 1 + s.len + 1 + t.len ≤ 100000 := ok.len
  have b0 := ok.b0
  obtain ⟨a, x0, x1, x2, x3, rfl, hT, h0, h1, h2, h3⟩ := ht.tup4
  refine rd_ixT (j := 1) rfl hT rfl ⟨_, e, rfl, h1, by omega, by omega, fun r1 us H1 hr1 hl1 t1 s1 => ?_⟩
  have lu : (us.length : Int) = e.len := by rw [t1.length, List.length_map, Ex.code_len]
  refine rd_ixT (j := 2) rfl (s1.sqT hT) rfl ⟨_, rfl, _, rfl, r1, us, rfl, .inl (SqL.of hl1), _, _, rfl, rfl, _, _, rfl, rfl, _, rfl, _, rfl, ?_⟩
  refine ⟨x2, tv, s, base + us.length + 1, D, tn, rfl, h2.mono (Tk.same s1), htn.mono (Tk.same s1), ⟨⟨cs, nk, hand, ws⟩, by omega, by omega, by omega, ok.tn0⟩, fun r2 ws' H2 hr2 hl2 t2 s2 => ?_⟩
  have s12 := s1.trans s2
  have hl1' := s2 _ _ hl1
  have lw : (ws'.length : Int) = s.len := by rw [t2.length, List.length_map, Sm.code_len]
  refine ⟨_, rfl, _, rfl, r1, us, rfl, .inl (SqL.of hl1'), _, _, rfl, rfl, _, rfl, r2, ws', rfl, .inl (SqL.of hl2), _, _, rfl, rfl, _, _, rfl, rfl, ?_⟩
  refine rd_ixT (j := 3) rfl (s12.sqT hT) rfl ⟨_, rfl, _, rfl, _, rfl, ?_⟩
  refine ⟨x3, tv, t, base + us.length + ws'.length + 2, D, tn, rfl, h3.mono (Tk.same s12), htn.mono (Tk.same s12), ⟨⟨cs, nk, hand, wt⟩, by omega, by omega, by omega, ok.tn0⟩, fun r3 zs H3 hr3 hl3 t3 s3 => ?_⟩
  have lz : (zs.length : Int) = t.len := by rw [t3.length, List.length_map, Sm.code_len]
  have e1 : base + us.length + 1 = base + e.len + 1 := by omega
  have e2 : base + us.length + ws'.length + 2 = base + e.len + 1 + s.len + 1 := by omega
  rw [e1] at t2; rw [e2] at t3
  have hl1'' := s3 _ _ hl1'
  have hl2' := s3 _ _ hl2
  -- head + [("unless", here)]
  refine ⟨_, rfl, _, rfl, (by show 2 ≤ sizeLine; decide), fun p hp => ⟨(by show 1 ≤ sizeLine; decide), fun p2 hp2 => ?_⟩⟩
  have sA : Same H3 (L2.upd (L2.upd H3 p (.tup [.str "unless", .int (base + us.length + ws'.length + 2)])) p2 (.lst [.ref p])) := (Same.new hp).trans (Same.new hp2)
  refine cat_new (K := K) (ds := e.code.map Rw.d) (es := [(Rw.unless (base + us.length + ws'.length + 2)).d]) (sA _ _ hl1'') upd_same ((t1.mono (Tk.same (s2.trans s3))).mono (Tk.same sA)) (.cons ((Tp.mk hp (.cons (.str _) (.cons (.int _) .nil))).mono (Tk.new hp2)) .nil) (by rw [List.length_map, Ex.code_len]; simp; omega) fun r4 ws4 H4 hr4 hl4 t4 s4 => ?_
  have s34 := sA.trans s4
  refine ⟨_, rfl, cat_new (K := K) hl4 (s34 _ _ hl2') t4 ((t2.mono (Tk.same s3)).mono (Tk.same s34)) (by simp [Ex.code_len, Sm.code_len]; omega) fun r5 ws5 H5 hr5 hl5 t5 s5 => ?_⟩
  have s35 := s34.trans s5
  refine ⟨_, rfl, _, rfl, r3, zs, rfl, .inl (SqL.of (s35 _ _ hl3)), _, _, rfl, rfl, (by show 2 ≤ sizeLine; decide), fun p3 hp3 => ⟨(by show 1 ≤ sizeLine; decide), fun p4 hp4 => ?_⟩⟩
  have sB : Same H5 (L2.upd (L2.upd H5 p3 (.tup [.str "go", .int (base + us.length + ws'.length + 2 + zs.length)])) p4 (.lst [.ref p3])) := (Same.new hp3).trans (Same.new hp4)
  refine cat_new (K := K) (es := [(Rw.go (base + us.length + ws'.length + 2 + zs.length)).d]) (sB _ _ hl5) upd_same (t5.mono (Tk.same sB)) (.cons ((Tp.mk hp3 (.cons (.str _) (.cons (.int _) .nil))).mono (Tk.new hp4)) .nil) (by simp [Ex.code_len, Sm.code_len]; omega) fun r6 ws6 H6 hr6 hl6 t6 s6 => ?_
  have s36 := (s35.trans sB).trans s6
  refine ⟨_, rfl, cat_new (K := K) hl6 (s36 _ _ hl3) t6 (t3.mono (Tk.same s36)) (by simp [Ex.code_len, Sm.code_len]; omega) ?_⟩
  have e3 : base + us.length + ws'.length + 2 + zs.length = base + e.len + 1 + s.len + 1 + t.len := by omega
  rw [e3, e2]
  rw [show e.code.map Rw.d ++ [(Rw.unless (base + e.len + 1 + s.len + 1)).d] ++ (s.code (base + e.len + 1) D (tnOf tn)).map Rw.d ++ [(Rw.go (base + e.len + 1 + s.len + 1 + t.len)).d] ++ (t.code (base + e.len + 1 + s.len + 1) D (tnOf tn)).map Rw.d = ((Sm.ife e s t).code base D (tnOf tn)).map Rw.d by simp [Sm.code]]
  exact q.mono ((s12.trans s3).trans s36)
theorem shaped_rw (r : Rw) : SeqAt.shaped r.d = true := by
  cases r with
  | op o => cases o <;> decide +kernel
  | hand b x kd D => cases kd <;> simp [SeqAt.shaped, Rw.d, kindD, PyData.canLay0, PyData.canLayAll0, PyData.depth, PyData.depthAll] <;> decide +kernel
  | _ => simp [SeqAt.shaped, Rw.d, PyData.canLay0, PyData.canLayAll0, PyData.depth, PyData.depthAll] <;> decide +kernel
/-- [row, other][int(row == mark)] where all three are rows -/
theorem pick_row {σ : L2.St} {H2 : Hp} {x : V} {r r' mk : Rw} {i : Nat} {tb tm : TE} {Q' : VK} (hx : σ[i]? = some (some x)) (tx : Tp K H2 x r.d)
    (hb : ∀ (H3 : Hp) (Q2 : VK), Same H2 H3 → (∀ p H4, Same H3 H4 → Tp K H4 (.ref p) r'.d → Q2 (.ref p) H4) → tb σ H3 Q2)
    (hm : ∀ (H3 : Hp) (Q2 : VK), Same H2 H3 → (∀ p H4, Same H3 H4 → Tp K H4 (.ref p) mk.d → Q2 (.ref p) H4) → tm σ H3 Q2) (eqv : PyData.eqv r.d mk.d = decide (r = mk))
    (q : ∀ y H3, Same H2 H3 → Tp K H3 y (if r = mk then r' else r).d → Q' y H3) :
    tOp (rIxL K) (tLst (tCons (tVar i) (tCons tb tNil))) (tCB rInt1 (tCons (tOp (rEqD K) (tVar i) tm) tNil)) σ H2 Q' := by
  refine ⟨_, hx, hb H2 _ (Same.refl _) fun p H3 s3 t3 => ⟨(by show 2 ≤ sizeLine; decide), fun l hl => ?_⟩⟩
  have s4 : Same H2 (L2.upd H3 l (.lst [x, .ref p])) := s3.trans (Same.new hl)
  refine ⟨_, hx, hm _ _ s4 fun p2 H5 s5 t5 => ⟨r.d, mk.d, (tx.mono (Tk.same (s4.trans s5))).dp, t5.dp, shaped_rw r, shaped_rw mk, .inr ⟨_, rfl, ?_⟩⟩⟩
  rw [eqv]
  have hl5 := s5 l _ upd_same
  by_cases c : r = mk
  · rw [if_pos (dT c)]
    have z := q (.ref p) H5 (s4.trans s5)
    rw [if_pos c] at z
    exact ⟨l, _, 1, .ref p, rfl, rfl, SqL.of hl5, rfl, z (t3.mono (Tk.same ((Same.new hl).trans s5)))⟩
  · rw [if_neg (by rw [dF c]; decide)]
    have z := q x H5 (s4.trans s5)
    rw [if_neg c] at z
    exact ⟨l, _, 0, x, rfl, rfl, SqL.of hl5, rfl, z (tx.mono (Tk.same (s4.trans s5)))⟩
abbrev N_law_loop_code : List Str := ["_law_one", "_law_base", "_law_depth", "_law_head", "_law_start", "_law_inner", "_law_leave", "_law_row"]
theorem rd_loop_code {n : Nat} (vs : List V) (H : Hp) (Q : VK) (E : XK) (h : spLoopCode (K := K) n vs H Q E) : t_law_loop_code K (spPartCode K 6) (spCode (K := K) n) { nx := fun _ H' => Q .non H', rt := Q } (start N_law_loop_code vs) H := by
  obtain ⟨v, e, s, base, D, tn, rfl, ht, ok, q⟩ := h
  obtain ⟨cs, nk, hand, ⟨we, de⟩, ws⟩ := ok.wf
  have hd : s.dep + 1 ≤ n + 1 := ok.dep
  have hl : e.len + 2 + s.len + 1 ≤ 100000 := ok.len
  have b0 := ok.b0
  obtain ⟨a, x0, x1, x2, rfl, hT, h0, h1, h2⟩ := ht.tup3
  refine rd_ixT (j := 1) rfl hT rfl ⟨_, e, rfl, h1, by omega, by omega, fun r1 us H1 hr1 hl1 t1 s1 => ?_⟩
  have lu : (us.length : Int) = e.len := by rw [t1.length, List.length_map, Ex.code_len]
  refine ⟨_, rfl, _, rfl, r1, us, rfl, .inl (SqL.of hl1), _, _, rfl, rfl, _, _, rfl, rfl, ?_⟩
  refine rd_ixT (j := 2) rfl (s1.sqT hT) rfl ⟨_, rfl, _, rfl, _, rfl, _, rfl, _, rfl, _, _, rfl, rfl, _, rfl, (by show 3 ≤ sizeLine; decide), fun p hp => ?_⟩
  have sp : Same H1 (L2.upd H1 p (.tup [.int base, .int (-1 - base), .int D])) := Same.new hp
  have eS : base + us.length + 2 = base + e.len + 2 := by omega
  refine ⟨x2, .ref p, s, base + us.length + 2, D, some (base, -1 - base, D), rfl, (h2.mono (Tk.same s1)).mono (Tk.same sp), Tp.mk hp (.cons (.int _) (.cons (.int _) (.cons (.int _) .nil))), ⟨⟨cs, nk, hand, ws⟩, by omega, by omega, by omega, fun t z => by cases z; exact b0⟩, fun r2 ws' H2 hr2 hl2 t2 s2 => ?_⟩
  rw [eS] at t2
  have s12 := (s1.trans sp).trans s2
  have lw : (ws'.length : Int) = s.len := by rw [t2.length, List.length_map, Sm.code_len]
  refine ⟨_, rfl, _, rfl, r2, ws', rfl, .inl (SqL.of hl2), _, _, rfl, rfl, _, _, rfl, rfl, ?_⟩
  -- the look at each row
  have eZ : base + us.length + 2 + ws'.length + 1 = base + e.len + 2 + s.len + 1 := by omega
  refine ⟨_, rfl, r2, rfl, ⟨_, SqL.of hl2⟩, fun L hL => ?_⟩
  refine lc_same (K := K) (es := ((s.code (base + e.len + 2) D (base, base + e.len + 2 + s.len + 1, D)).map Rw.d)) (SqL.of hl2) t2 (by simp [Sm.code_len]) hL (by simp [Sm.code_len]; omega) ?hw ?_ ?_
  case hw => exact fun _ => rfl
  · intro i x d f H3 hd hf s3 tx Q' q'
    rw [List.getElem?_map] at hd hf
    have hfill := Sm.subL (w := -1 - base) (z := base + e.len + 2 + s.len + 1) (p := base) (D0 := D) (by omega) b0 s (base + e.len + 2) D (by omega)
    rw [← hfill, List.getElem?_map] at hf
    cases er : (s.code (base + e.len + 2) D (tnOf (some (base, -1 - base, D))))[i]? with
    | none => rw [er] at hd; cases hd
    | some r =>
      have er' : (s.code (base + e.len + 2) D (base, -1 - base, D))[i]? = some r := er
      rw [er] at hd; rw [er'] at hf
      obtain rfl : r.d = d := Option.some.inj hd
      obtain rfl : (subL (-1 - base) (base + e.len + 2 + s.len + 1) D r).d = f := Option.some.inj hf
      refine pick_row (r := r) (r' := .leap (base + e.len + 2 + s.len + 1) D) (mk := .leap (-1 - base) D) rfl tx ?_ ?_ (Rw.eqv_leap _ _ _) q'
      · intro H4 Q2 s4 k
        refine ⟨_, rfl, _, rfl, (by show 3 ≤ sizeLine; decide), fun p3 hp3 => k p3 _ (Same.new hp3) ?_⟩
        rw [← eZ]
        exact Tp.mk hp3 (.cons (.str _) (.cons (.int _) (.cons (.int _) .nil)))
      · intro H4 Q2 s4 k
        exact ⟨_, rfl, _, rfl, _, _, rfl, rfl, _, rfl, (by show 3 ≤ sizeLine; decide), fun p3 hp3 => k p3 _ (Same.new hp3) (Tp.mk hp3 (.cons (.str _) (.cons (.int _) (.cons (.int _) .nil))))⟩
  · intro zs H3 hL3 tz s3
    have s13 := s12.trans s3
    have hl1' := ((sp.trans s2).trans s3) _ _ hl1
    refine ⟨_, rfl, _, rfl, (by show 2 ≤ sizeLine; decide), fun p1 hp1 => ⟨(by show 1 ≤ sizeLine; decide), fun p2 hp2 => ⟨(by show 2 ≤ sizeLine; decide), fun p3 hp3 => ?_⟩⟩⟩
    have sA : Same H3 (L2.upd (L2.upd (L2.upd H3 p1 (.tup [.str "unless", .int (base + us.length + 2 + ws'.length + 1)])) p2 (.tup [.str "turn"])) p3 (.lst [.ref p1, .ref p2])) := ((Same.new hp1).trans (Same.new hp2)).trans (Same.new hp3)
    have tA : TpAll K (L2.upd (L2.upd (L2.upd H3 p1 (.tup [.str "unless", .int (base + us.length + 2 + ws'.length + 1)])) p2 (.tup [.str "turn"])) p3 (.lst [.ref p1, .ref p2])) [.ref p1, .ref p2] [(Rw.unless (base + us.length + 2 + ws'.length + 1)).d, Rw.turn.d] :=
      .cons (((Tp.mk hp1 (.cons (.str _) (.cons (.int _) .nil))).mono (Tk.new hp2)).mono (Tk.new hp3)) (.cons ((Tp.mk hp2 (.cons (.str _) .nil)).mono (Tk.new hp3)) .nil)
    refine cat_new (K := K) (sA _ _ hl1') upd_same ((t1.mono (Tk.same ((sp.trans s2).trans s3))).mono (Tk.same sA)) tA (by simp [Ex.code_len]; omega) fun r4 ws4 H4 hr4 hl4 t4 s4 => ?_
    have s34 := sA.trans s4
    refine ⟨_, rfl, cat_new (K := K) hl4 (s34 _ _ hL3) t4 (tz.mono (Tk.same s34)) (by simp [Ex.code_len, Sm.code_len]; omega) fun r5 ws5 H5 hr5 hl5 t5 s5 => ?_⟩
    refine ⟨_, rfl, (by show 2 ≤ sizeLine; decide), fun p4 hp4 => ⟨(by show 1 ≤ sizeLine; decide), fun p5 hp5 => ?_⟩⟩
    have sB : Same H5 (L2.upd (L2.upd H5 p4 (.tup [.str "go", .int base])) p5 (.lst [.ref p4])) := (Same.new hp4).trans (Same.new hp5)
    refine cat_new (K := K) (es := [(Rw.go base).d]) (sB _ _ hl5) upd_same (t5.mono (Tk.same sB)) (.cons ((Tp.mk hp4 (.cons (.str _) (.cons (.int _) .nil))).mono (Tk.new hp5)) .nil) (by simp [Ex.code_len, Sm.code_len]; omega) ?_
    rw [eZ, show e.code.map Rw.d ++ [(Rw.unless (base + e.len + 2 + s.len + 1)).d, Rw.turn.d] ++ (s.code (base + e.len + 2) D (base, base + e.len + 2 + s.len + 1, D)).map Rw.d ++ [(Rw.go base).d] = ((Sm.whl e s).code base D (tnOf tn)).map Rw.d by simp [Sm.code]]
    exact q.mono (((s13.trans s34).trans s5).trans sB)
abbrev N_law_clean_code : List Str := ["_law_one", "_law_base", "_law_depth", "_law_turn", "_law_inner", "_law_end", "_law_last"]
theorem rd_clean_code {n : Nat} (vs : List V) (H : Hp) (Q : VK) (E : XK) (h : spCleanCode (K := K) n vs H Q E) : t_law_clean_code K (spCode (K := K) n) { nx := fun _ H' => Q .non H', rt := Q } (start N_law_clean_code vs) H := by
  obtain ⟨v, tv, s, c, base, D, tn, rfl, ht, htn, ok, q⟩ := h
  obtain ⟨cs, nk, hand, ws, wc⟩ := ok.wf
  have hd : max s.dep c.dep + 1 ≤ n + 1 := ok.dep
  have hl : s.len + 2 + c.len + 1 ≤ 100000 := ok.len
  have b0 := ok.b0
  obtain ⟨a, x0, x1, x2, rfl, hT, h0, h1, h2⟩ := ht.tup3
  refine rd_ixT (j := 1) rfl hT rfl ⟨_, rfl, _, rfl, _, rfl, ?_⟩
  refine ⟨x1, tv, s, base, D, tn, rfl, h1, htn, ⟨⟨cs, nk, hand, ws⟩, by omega, by omega, b0, ok.tn0⟩, fun r1 us H1 hr1 hl1 t1 s1 => ?_⟩
  have lu : (us.length : Int) = s.len := by rw [t1.length, List.length_map, Sm.code_len]
  refine ⟨(by show 1 ≤ sizeLine; decide), fun p1 hp1 => ⟨(by show 1 ≤ sizeLine; decide), fun p2 hp2 => ?_⟩⟩
  have sA : Same H1 (L2.upd (L2.upd H1 p1 (.tup [.str "mend"])) p2 (.lst [.ref p1])) := (Same.new hp1).trans (Same.new hp2)
  refine cat_new (K := K) (es := [Rw.mend.d]) (sA _ _ hl1) upd_same (t1.mono (Tk.same sA)) (.cons ((Tp.mk hp1 (.cons (.str _) .nil)).mono (Tk.new hp2)) .nil) (by simp [Sm.code_len]; omega) fun r2 ws2 H2 hr2 hl2 t2 s2 => ?_
  have s12 := (s1.trans sA).trans s2
  have lw : (ws2.length : Int) = s.len + 1 := by rw [t2.length]; simp [Sm.code_len]
  refine ⟨_, rfl, _, rfl, r2, ws2, rfl, .inl (SqL.of hl2), _, _, rfl, rfl, ?_⟩
  refine rd_ixT (j := 2) rfl (s12.sqT hT) rfl ⟨_, rfl, _, _, rfl, rfl, _, rfl, _, _, rfl, rfl, _, rfl, ?_⟩
  have eB : base + ws2.length + 1 = base + s.len + 2 := by omega
  refine ⟨x2, tv, c, base + ws2.length + 1, D + 1, tn, rfl, h2.mono (Tk.same s12), htn.mono (Tk.same s12), ⟨⟨cs, nk, hand, wc⟩, by omega, by omega, by omega, ok.tn0⟩, fun r3 ws3 H3 hr3 hl3 t3 s3 => ?_⟩
  rw [eB] at t3
  refine ⟨_, rfl, _, rfl, _, rfl, _, rfl, (by show 4 ≤ sizeLine; decide), fun p3 hp3 => ⟨(by show 1 ≤ sizeLine; decide), fun p4 hp4 => ?_⟩⟩
  have sB : Same H3 (L2.upd (L2.upd H3 p3 (.tup [.str "cleanup", .int base, .int (base + ws2.length), .int D])) p4 (.lst [.ref p3])) := (Same.new hp3).trans (Same.new hp4)
  refine cat_new (K := K) (es := [(Rw.cup base (base + ws2.length) D).d]) (sB _ _ (s3 _ _ hl2)) upd_same ((t2.mono (Tk.same s3)).mono (Tk.same sB)) (.cons ((Tp.mk hp3 (.cons (.str _) (.cons (.int _) (.cons (.int _) (.cons (.int _) .nil))))).mono (Tk.new hp4)) .nil) (by simp [Sm.code_len]; omega) fun r4 ws4 H4 hr4 hl4 t4 s4 => ?_
  have s34 := sB.trans s4
  refine ⟨_, rfl, cat_new (K := K) hl4 (s34 _ _ hl3) t4 (t3.mono (Tk.same s34)) (by simp [Sm.code_len]; omega) fun r5 ws5 H5 hr5 hl5 t5 s5 => ?_⟩
  refine ⟨(by show 1 ≤ sizeLine; decide), fun p5 hp5 => ⟨(by show 1 ≤ sizeLine; decide), fun p6 hp6 => ?_⟩⟩
  have sC : Same H5 (L2.upd (L2.upd H5 p5 (.tup [.str "resume"])) p6 (.lst [.ref p5])) := (Same.new hp5).trans (Same.new hp6)
  refine cat_new (K := K) (es := [Rw.resume.d]) (sC _ _ hl5) upd_same (t5.mono (Tk.same sC)) (.cons ((Tp.mk hp5 (.cons (.str _) .nil)).mono (Tk.new hp6)) .nil) (by simp [Sm.code_len]; omega) ?_
  have eX : base + ws2.length = base + s.len + 1 := by omega
  rw [eX, show (s.code base D (tnOf tn)).map Rw.d ++ [Rw.mend.d] ++ [(Rw.cup base (base + s.len + 1) D).d] ++ (c.code (base + s.len + 2) (D + 1) (tnOf tn)).map Rw.d ++ [Rw.resume.d] = ((Sm.cln s c).code base D (tnOf tn)).map Rw.d by simp [Sm.code]]
  exact q.mono ((((s12.trans s3).trans s34).trans s5).trans sC)
abbrev N_law_try_code : List Str := ["_law_one", "_law_base", "_law_depth", "_law_turn", "_law_inner", "_law_end", "_law_rows", "_law_handler_here", "_law_leave", "_law_row"]
theorem rd_try_code {n : Nat} (vs : List V) (H : Hp) (Q : VK) (E : XK) (h : spTryCode (K := K) n vs H Q E) : t_law_try_code K (spCode (K := K) n) { nx := fun _ H' => Q .non H', rt := Q } (start N_law_try_code vs) H := by
  obtain ⟨v, tv, s, hs, base, D, tn, rfl, ht, htn, ok, q⟩ := h
  obtain ⟨cs, nk, hand, ws, wh⟩ := ok.wf
  have hd : max s.dep hs.dep + 1 ≤ n + 1 := ok.dep
  have hl : s.len + 1 + hs.len ≤ 100000 := ok.len
  have b0 := ok.b0
  obtain ⟨a, x0, x1, x2, rfl, hT, h0, h1, h2⟩ := ht.tup3
  obtain ⟨ah, hxs, rfl, hTh, hth⟩ := h2.tupE
  refine rd_ixT (j := 1) rfl hT rfl ⟨_, rfl, _, rfl, _, rfl, ?_⟩
  refine ⟨x1, tv, s, base, D, tn, rfl, h1, htn, ⟨⟨cs, nk, hand, ws⟩, by omega, by omega, b0, ok.tn0⟩, fun r1 us H1 hr1 hl1 t1 s1 => ?_⟩
  have lu : (us.length : Int) = s.len := by rw [t1.length, List.length_map, Sm.code_len]
  refine ⟨_, rfl, _, rfl, r1, us, rfl, .inl (SqL.of hl1), _, _, rfl, rfl, _, rfl, _, rfl, (by show 2 ≤ sizeLine; decide), fun p1 hp1 => ⟨(by show 1 ≤ sizeLine; decide), fun p2 hp2 => ?_⟩⟩
  have sA : Same H1 (L2.upd (L2.upd H1 p1 (.tup [.str "go", .int (-1)])) p2 (.lst [.ref p1])) := (Same.new hp1).trans (Same.new hp2)
  refine cat_new (K := K) (es := [(Rw.go (-1)).d]) (sA _ _ hl1) upd_same (t1.mono (Tk.same sA)) (.cons ((Tp.mk hp1 (.cons (.str _) (.cons (.int _) .nil))).mono (Tk.new hp2)) .nil) (by simp [Sm.code_len]; omega) fun r2 ws2 H2 hr2 hl2 t2 s2 => ?_
  have s12 := (s1.trans sA).trans s2
  have eX : base + us.length = base + s.len := by omega
  -- the handlers, one by one
  refine rd_ixT (j := 2) rfl (s12.sqT hT) rfl ⟨ah, rfl, ⟨_, s12.sqT hTh⟩, for_tup (K := K) (a := ah) (xs := hxs) (fun i σ H' => ∃ (r : Hds) (pre : List Rw) (rr : Addr) (rv : List V) (v7 : Option V),
      σ = [some (.ref a), some (.int base), some (.int D), some tv, some (.ref r1), some (.int (base + us.length)), some (.ref rr), v7, none, none] ∧ Same H H' ∧ H' rr = some (.lst rv) ∧ TpAll K H' rv (((s.code base D (tnOf tn)) ++ [Rw.go (-1)] ++ pre).map Rw.d) ∧
      TpAll K H' (hxs.drop i) r.ds ∧ r.Wf cs nk tn.isSome ∧ r.dep ≤ n ∧ pre.length + r.len = hs.len ∧ pre ++ r.code base (base + s.len) (-1) (base + s.len + 1 + pre.length) D (tnOf tn) = hs.code base (base + s.len) (-1) (base + s.len + 1) D (tnOf tn))
    ⟨hs, [], r2, ws2, none, rfl, s12, hl2, by rw [List.append_nil, List.map_append]; exact t2, by rw [List.drop_zero]; exact hth.mono (Tk.same s12), wh, by omega, by simp, by simp⟩ (fun i σ H' _ ⟨_, _, _, _, _, _, s', _⟩ => s'.sqT hTh) ?_ ?_⟩
  · rintro i x σ H3 hx ⟨r, pre, rr, rv, v7, rfl, s3, hrr, trv, tr, wr, dr, lr, er⟩
    obtain ⟨k, sl, t, r', rfl, tx, tr'⟩ := hds_at tr hx
    obtain ⟨ax, y0, y1, y2, rfl, hTx, k0, k1, k2⟩ := tx.tup3
    cases k1.intE
    obtain ⟨wk, wsl, wt, wr'⟩ : (∀ j, k = some j → j < nk) ∧ sl < 8 ∧ t.Wf cs nk tn.isSome true ∧ r'.Wf cs nk tn.isSome := wr
    have dr2 : max t.dep r'.dep ≤ n := dr
    have lr2 : pre.length + (2 + t.len + 2 + r'.len) = hs.len := lr
    have lrv : (rv.length : Int) = s.len + 1 + pre.length := by rw [trv.length]; simp [Sm.code_len]; omega
    -- the two rows ahead
    refine ⟨_, rfl, _, rfl, _, rfl, rd_ixT (j := 0) rfl hTx rfl ⟨_, rfl, (by show 5 ≤ sizeLine; decide), fun p3 hp3 => ?_⟩⟩
    have sx1 : Same H3 (L2.upd H3 p3 (.tup [.str "handler", .int base, .int (base + us.length), y0, .int D])) := Same.new hp3
    refine rd_ixT (j := 1) rfl (sx1.sqT hTx) rfl ⟨(by show 2 ≤ sizeLine; decide), fun p4 hp4 => ⟨(by show 2 ≤ sizeLine; decide), fun p5 hp5 => ?_⟩⟩
    have sB : Same H3 (L2.upd (L2.upd (L2.upd H3 p3 (.tup [.str "handler", .int base, .int (base + us.length), y0, .int D])) p4 (.tup [.str "set", .int (sl : Int)])) p5 (.lst [.ref p3, .ref p4])) := (sx1.trans (Same.new hp4)).trans (Same.new hp5)
    have tB : TpAll K (L2.upd (L2.upd (L2.upd H3 p3 (.tup [.str "handler", .int base, .int (base + us.length), y0, .int D])) p4 (.tup [.str "set", .int (sl : Int)])) p5 (.lst [.ref p3, .ref p4])) [.ref p3, .ref p4] [(Rw.hand base (base + s.len) k D).d, (Rw.set sl).d] := by
      rw [← eX]
      exact .cons (((Tp.mk hp3 (.cons (.str _) (.cons (.int _) (.cons (.int _) (.cons k0 (.cons (.int _) .nil)))))).mono (Tk.new hp4)).mono (Tk.new hp5)) (.cons ((Tp.mk hp4 (.cons (.str _) (.cons (.int _) .nil))).mono (Tk.new hp5)) .nil)
    refine cat_new (K := K) (sB _ _ hrr) upd_same (trv.mono (Tk.same sB)) tB (by simp [Sm.code_len]; omega) fun r4 ws4 H4 hr4 hl4 t4 s4 => ?_
    have s34 := sB.trans s4
    have l4 : (ws4.length : Int) = s.len + 1 + pre.length + 2 := by rw [t4.length]; simp [Sm.code_len]; omega
    -- the handler's own
    refine ⟨_, rfl, rd_ixT (j := 2) rfl (s34.sqT hTx) rfl ⟨_, rfl, _, rfl, r4, ws4, rfl, .inl (SqL.of hl4), _, _, rfl, rfl, _, rfl, _, _, rfl, rfl, _, rfl, ?_⟩⟩
    have eB : base + ws4.length = base + s.len + 1 + pre.length + 2 := by omega
    refine ⟨y2, tv, t, base + ws4.length, D + 1, tn, rfl, k2.mono (Tk.same s34), htn.mono (Tk.same (s3.trans s34)), ⟨⟨cs, nk, true, wt⟩, by omega, by omega, by omega, ok.tn0⟩, fun r5 ws5 H5 hr5 hl5 t5 s5 => ?_⟩
    rw [eB] at t5
    refine cat_new (K := K) (s5 _ _ hl4) hl5 (t4.mono (Tk.same s5)) t5 (by simp [Sm.code_len]; omega) fun r6 ws6 H6 hr6 hl6 t6 s6 => ?_
    refine ⟨_, rfl, (by show 1 ≤ sizeLine; decide), fun p6 hp6 => ⟨_, rfl, (by show 2 ≤ sizeLine; decide), fun p7 hp7 => ⟨(by show 2 ≤ sizeLine; decide), fun p8 hp8 => ?_⟩⟩⟩
    have sC : Same H6 (L2.upd (L2.upd (L2.upd H6 p6 (.tup [.str "settled"])) p7 (.tup [.str "go", .int (-1)])) p8 (.lst [.ref p6, .ref p7])) := ((Same.new hp6).trans (Same.new hp7)).trans (Same.new hp8)
    have tC : TpAll K (L2.upd (L2.upd (L2.upd H6 p6 (.tup [.str "settled"])) p7 (.tup [.str "go", .int (-1)])) p8 (.lst [.ref p6, .ref p7])) [.ref p6, .ref p7] [Rw.settled.d, (Rw.go (-1)).d] :=
      .cons (((Tp.mk hp6 (.cons (.str _) .nil)).mono (Tk.new hp7)).mono (Tk.new hp8)) (.cons ((Tp.mk hp7 (.cons (.str _) (.cons (.int _) .nil))).mono (Tk.new hp8)) .nil)
    refine cat_new (K := K) (sC _ _ hl6) upd_same (t6.mono (Tk.same sC)) tC (by simp [Sm.code_len]; omega) fun r7 ws7 H7 hr7 hl7 t7 s7 => ?_
    have sZ := (((s34.trans s5).trans s6).trans sC).trans s7
    refine ⟨r', pre ++ ([Rw.hand base (base + s.len) k D, Rw.set sl] ++ t.code (base + s.len + 1 + pre.length + 2) (D + 1) (tnOf tn) ++ [Rw.settled, Rw.go (-1)]), r7, ws7, _, rfl, s3.trans sZ, hl7, ?_, tr'.mono (Tk.same sZ), wr', by omega, by simp [Sm.code_len]; omega, ?_⟩
    · rw [show ((s.code base D (tnOf tn)) ++ [Rw.go (-1)] ++ (pre ++ ([Rw.hand base (base + s.len) k D, Rw.set sl] ++ t.code (base + s.len + 1 + pre.length + 2) (D + 1) (tnOf tn) ++ [Rw.settled, Rw.go (-1)]))).map Rw.d = ((s.code base D (tnOf tn)) ++ [Rw.go (-1)] ++ pre).map Rw.d ++ [(Rw.hand base (base + s.len) k D).d, (Rw.set sl).d] ++ (t.code (base + s.len + 1 + pre.length + 2) (D + 1) (tnOf tn)).map Rw.d ++ [Rw.settled.d, (Rw.go (-1)).d] by simp]
      exact t7
    · rw [← er]
      have e9 : base + s.len + 1 + ((pre ++ ([Rw.hand base (base + s.len) k D, Rw.set sl] ++ t.code (base + s.len + 1 + pre.length + 2) (D + 1) (tnOf tn) ++ [Rw.settled, Rw.go (-1)])).length : Int) = base + s.len + 1 + pre.length + 2 + t.len + 2 := by simp [Sm.code_len]; omega
      rw [e9]
      simp [Hds.code]
  · rintro σ H3 ⟨r, pre, rr, rv, v7, rfl, s3, hrr, trv, tr, wr, dr, lr, er⟩
    cases hds_end tr
    have er' : pre = hs.code base (base + s.len) (-1) (base + s.len + 1) D (tnOf tn) := by simpa [Hds.code] using er
    have lr' : pre.length = hs.len := by simpa [Hds.len] using lr
    have lrv : (rv.length : Int) = s.len + 1 + hs.len := by rw [trv.length]; simp [Sm.code_len]; omega
    refine ⟨_, rfl, _, rfl, rr, rv, rfl, .inl (SqL.of hrr), _, _, rfl, rfl, ?_⟩
    have eZ : base + rv.length = base + s.len + 1 + hs.len := by omega
    refine ⟨_, rfl, rr, rfl, ⟨_, SqL.of hrr⟩, fun L hL => ?_⟩
    have hfill : ((s.code base D (tnOf tn)) ++ [Rw.go (-1)] ++ pre).map (subG (base + s.len + 1 + hs.len)) = (Sm.tri s hs).code base D (tnOf tn) := by
      rw [er', List.map_append, List.map_append, Sm.subG s _ _ _ b0, Hds.fill hs _ _ _ _ _ (by omega)]
      rw [show [Rw.go (-1)].map (subG (base + s.len + 1 + hs.len)) = [.go (base + s.len + 1 + hs.len)] from congrArg (fun z => [z]) (if_pos rfl)]
      simp [Sm.code]
    refine lc_same (K := K) (es := ((Sm.tri s hs).code base D (tnOf tn)).map Rw.d) (SqL.of hrr) trv (by simp [Sm.code_len, Sm.len]; omega) hL (by simp [Sm.code_len]; omega) ?hw ?_ ?_
    case hw => exact fun _ => rfl
    · intro i x d f H4 hd hf s4 tx Q' q'
      rw [List.getElem?_map] at hd hf
      rw [← hfill, List.getElem?_map] at hf
      cases er2 : ((s.code base D (tnOf tn)) ++ [Rw.go (-1)] ++ pre)[i]? with
      | none => rw [er2] at hd; cases hd
      | some rw_ =>
        rw [er2] at hd hf
        obtain rfl : rw_.d = d := Option.some.inj hd
        obtain rfl : (subG (base + s.len + 1 + hs.len) rw_).d = f := Option.some.inj hf
        refine pick_row (r := rw_) (r' := .go (base + s.len + 1 + hs.len)) (mk := .go (-1)) rfl tx ?_ ?_ (Rw.eqv_go _ _) q'
        · intro H5 Q2 s5 k
          refine ⟨_, rfl, (by show 2 ≤ sizeLine; decide), fun p3 hp3 => k p3 _ (Same.new hp3) ?_⟩
          rw [← eZ]
          exact Tp.mk hp3 (.cons (.str _) (.cons (.int _) .nil))
        · intro H5 Q2 s5 k
          exact ⟨_, rfl, (by show 2 ≤ sizeLine; decide), fun p3 hp3 => k p3 _ (Same.new hp3) (Tp.mk hp3 (.cons (.str _) (.cons (.int _) .nil)))⟩
    · intro zs H4 hL4 tz s4
      exact q L zs H4 ((s3.free hL)) hL4 tz (s3.trans s4)
abbrev N_law_plain_code : List Str := ["_law_one", "_law_turn", "_law_word", "_law_rows", "_law_part_here"]
/-- an expression's rows, and one more -/
theorem part_and {σ : L2.St} {H : Hp} {Q2 : VK} {e : Ex} {x : V} {r : Rw} {te tr : TE} (te_ : ∀ Q' : VK, Q' x H → te σ H Q') (tx : Tp K H x e.d) (de : e.dep ≤ 5) (hl : e.len ≤ 100000)
    (tr_ : ∀ (H1 : Hp) (Q' : VK), Same H H1 → (∀ p H2, Same H1 H2 → Tp K H2 (.ref p) r.d → Q' (.ref p) H2) → tr σ H1 Q') (q : NewL K H Q2 (e.code.map Rw.d ++ [r.d])) :
    tOp rCat (tCall (spPartCode K 6) [] E0 (tCons te tNil)) (tLst (tCons tr tNil)) σ H Q2 := by
  refine te_ _ ⟨x, e, rfl, tx, by omega, by omega, fun r1 us H1 hr1 hl1 t1 s1 => ?_⟩
  refine tr_ H1 _ s1 fun p H2 s2 tp => ⟨(by show 1 ≤ sizeLine; decide), fun p2 hp2 => ?_⟩
  have s3 : Same H1 (L2.upd H2 p2 (.lst [.ref p])) := s2.trans (Same.new hp2)
  exact cat_new (K := K) (s3 _ _ hl1) upd_same (t1.mono (Tk.same s3)) (.cons (tp.mono (Tk.new hp2)) .nil) (by simp [Ex.code_len]; omega) (q.mono (s1.trans s3))
theorem rd_plain_code (vs : List V) (H : Hp) (Q : VK) (E : XK) (h : spPlainCode (K := K) vs H Q E) : t_law_plain_code K (spPartCode K 6) { nx := fun _ H' => Q .non H', rt := Q } (start N_law_plain_code vs) H := by
  obtain ⟨v, tv, s, n, base, D, tn, rfl, ht, htn, pl, ok, q⟩ := h
  obtain ⟨cs, nk, hand, ws⟩ := ok.wf
  have hl := ok.len
  cases s with
  | row _ => cases pl
  | ife _ _ _ => cases pl
  | whl _ _ => cases pl
  | tri _ _ => cases pl
  | cln _ _ => cases pl
  | brk =>
    obtain ⟨a, x0, rfl, hT, h0⟩ := ht.tup1
    cases h0.strE
    cases tn with
    | none => exact absurd ws (by simp [Sm.Wf])
    | some t =>
      obtain ⟨c, y0, y1, y2, rfl, hTc, k0, k1, k2⟩ := htn.tup3
      cases k0.intE; cases k1.intE; cases k2.intE
      refine rd_ixT (j := 0) rfl hT rfl ?_
      refine r_ifT (pb_is (pb_eqS rfl) rfl) ?_
      refine rd_ixT (j := 1) rfl hTc rfl (rd_ixT (j := 2) rfl hTc rfl ⟨(by show 3 ≤ sizeLine; decide), fun p hp => ⟨(by show 1 ≤ sizeLine; decide), fun p2 hp2 => ?_⟩⟩)
      exact q p2 _ _ ((Same.new hp).free hp2) upd_same (.cons ((Tp.mk hp (.cons (.str _) (.cons (.int _) (.cons (.int _) .nil)))).mono (Tk.new hp2)) .nil) ((Same.new hp).trans (Same.new hp2))
  | cnt =>
    obtain ⟨a, x0, rfl, hT, h0⟩ := ht.tup1
    cases h0.strE
    cases tn with
    | none => exact absurd ws (by simp [Sm.Wf])
    | some t =>
      obtain ⟨c, y0, y1, y2, rfl, hTc, k0, k1, k2⟩ := htn.tup3
      cases k0.intE; cases k1.intE; cases k2.intE
      refine rd_ixT (j := 0) rfl hT rfl (r_ifF (pb_is (pb_eqS rfl) rfl) (r_ifT (pb_is (pb_eqS rfl) rfl) ?_))
      refine rd_ixT (j := 0) rfl hTc rfl (rd_ixT (j := 2) rfl hTc rfl ⟨(by show 3 ≤ sizeLine; decide), fun p hp => ⟨(by show 1 ≤ sizeLine; decide), fun p2 hp2 => ?_⟩⟩)
      exact q p2 _ _ ((Same.new hp).free hp2) upd_same (.cons ((Tp.mk hp (.cons (.str _) (.cons (.int _) (.cons (.int _) .nil)))).mono (Tk.new hp2)) .nil) ((Same.new hp).trans (Same.new hp2))
  | again =>
    obtain ⟨a, x0, rfl, hT, h0⟩ := id ht.tup1
    cases h0.strE
    refine rd_ixT (j := 0) rfl hT rfl (r_ifF (pb_is (pb_eqS rfl) rfl) (r_ifF (pb_is (pb_eqS rfl) rfl) (r_ifT (pb_is (pb_eqS rfl) rfl) ?_)))
    refine ⟨_, rfl, (by show 1 ≤ sizeLine; decide), fun p hp => ?_⟩
    exact q p _ _ hp upd_same (.cons (ht.mono (Tk.new hp)) .nil) (Same.new hp)
  | set k e =>
    obtain ⟨a, x0, x1, x2, rfl, hT, h0, h1, h2⟩ := ht.tup3
    cases h0.strE; cases h1.intE
    have hl' : e.len + 1 ≤ 100000 := hl
    refine rd_ixT (j := 0) rfl hT rfl (r_ifF (pb_is (pb_eqS rfl) rfl) (r_ifF (pb_is (pb_eqS rfl) rfl) (r_ifF (pb_is (pb_eqS rfl) rfl) (r_ifT (pb_is (pb_eqS rfl) rfl) ?_))))
    refine part_and (e := e) (x := x2) (r := .set k) (fun Q' q' => rd_ixT (j := 2) rfl hT rfl q') h2 ws.2.2 (by omega) (fun H1 Q' s1 k1 => rd_ixT (j := 1) rfl (s1.sqT hT) rfl ⟨(by show 2 ≤ sizeLine; decide), fun p hp => k1 p _ (Same.new hp) (Tp.mk hp (.cons (.str _) (.cons (.int _) .nil)))⟩) ?_
    rw [show e.code.map Rw.d ++ [(Rw.set k).d] = ((Sm.set k e).code base D (tnOf tn)).map Rw.d by simp [Sm.code]]
    exact q
  | rais kd e m =>
    obtain ⟨a, x0, x1, x2, x3, rfl, hT, h0, h1, h2, h3⟩ := ht.tup4
    cases h0.strE; cases h1.intE; cases h3.intE
    have hl' : e.len + 1 ≤ 100000 := hl
    refine rd_ixT (j := 0) rfl hT rfl (r_ifF (pb_is (pb_eqS rfl) rfl) (r_ifF (pb_is (pb_eqS rfl) rfl) (r_ifF (pb_is (pb_eqS rfl) rfl) (r_ifF (pb_is (pb_eqS rfl) rfl) (r_ifT (pb_is (pb_eqS rfl) rfl) ?_)))))
    refine part_and (e := e) (x := x2) (r := .rais kd m) (fun Q' q' => rd_ixT (j := 2) rfl hT rfl q') h2 ws.2.1.2 (by omega) (fun H1 Q' s1 k1 => rd_ixT (j := 1) rfl (s1.sqT hT) rfl (rd_ixT (j := 3) rfl (s1.sqT hT) rfl ⟨(by show 3 ≤ sizeLine; decide), fun p hp => k1 p _ (Same.new hp) (Tp.mk hp (.cons (.str _) (.cons (.int _) (.cons (.int _) .nil))))⟩)) ?_
    rw [show e.code.map Rw.d ++ [(Rw.rais kd m).d] = ((Sm.rais kd e m).code base D (tnOf tn)).map Rw.d by simp [Sm.code]]
    exact q
  | say e =>
    obtain ⟨a, x0, x1, rfl, hT, h0, h1⟩ := ht.tup2
    cases h0.strE
    have hl' : e.len + 1 ≤ 100000 := hl
    refine rd_ixT (j := 0) rfl hT rfl (r_ifF (pb_is (pb_eqS rfl) rfl) (r_ifF (pb_is (pb_eqS rfl) rfl) (r_ifF (pb_is (pb_eqS rfl) rfl) (r_ifF (pb_is (pb_eqS rfl) rfl) (r_ifF (pb_is (pb_eqS rfl) rfl) (r_ifF (pb_is (pb_eqS rfl) rfl) ?_))))))
    refine part_and (e := e) (x := x1) (r := .say) (fun Q' q' => rd_ixT (j := 1) rfl hT rfl q') h1 ws.2 (by omega) (fun H1 Q' s1 k1 => ⟨_, rfl, (by show 1 ≤ sizeLine; decide), fun p hp => k1 p _ (Same.new hp) (Tp.mk hp (.cons (.str _) .nil))⟩) ?_
    rw [show e.code.map Rw.d ++ [Rw.say.d] = ((Sm.say e).code base D (tnOf tn)).map Rw.d by simp [Sm.code]]
    exact q
  | ret e =>
    obtain ⟨a, x0, x1, rfl, hT, h0, h1⟩ := ht.tup2
    cases h0.strE
    have hl' : e.len + 1 ≤ 100000 := hl
    refine rd_ixT (j := 0) rfl hT rfl (r_ifF (pb_is (pb_eqS rfl) rfl) (r_ifF (pb_is (pb_eqS rfl) rfl) (r_ifF (pb_is (pb_eqS rfl) rfl) (r_ifF (pb_is (pb_eqS rfl) rfl) (r_ifF (pb_is (pb_eqS rfl) rfl) (r_ifF (pb_is (pb_eqS rfl) rfl) ?_))))))
    refine part_and (e := e) (x := x1) (r := .ret) (fun Q' q' => rd_ixT (j := 1) rfl hT rfl q') h1 ws.2 (by omega) (fun H1 Q' s1 k1 => ⟨_, rfl, (by show 1 ≤ sizeLine; decide), fun p hp => k1 p _ (Same.new hp) (Tp.mk hp (.cons (.str _) .nil))⟩) ?_
    rw [show e.code.map Rw.d ++ [Rw.ret.d] = ((Sm.ret e).code base D (tnOf tn)).map Rw.d by simp [Sm.code]]
    exact q
  | call k f ps m =>
    obtain ⟨a, x0, x1, x2, x3, x4, rfl, hT, h0, h1, h2, h3, h4⟩ := ht.tup5
    cases h0.strE; cases h1.intE; cases h2.intE; cases h4.intE
    obtain ⟨pa, pxs, rfl, hTp, htp⟩ := h3.tupE
    have hl' : exsLen ps + 2 ≤ 100000 := hl
    obtain ⟨_, _, _, wps, _⟩ := ws
    refine rd_ixT (j := 0) rfl hT rfl (r_ifF (pb_is (pb_eqS rfl) rfl) (r_ifF (pb_is (pb_eqS rfl) rfl) (r_ifF (pb_is (pb_eqS rfl) rfl) (r_ifF (pb_is (pb_eqS rfl) rfl) (r_ifF (pb_is (pb_eqS rfl) rfl) (r_ifT (pb_is (pb_eqS rfl) rfl) ?_))))))
    refine ⟨(by show 0 ≤ sizeLine; decide), fun p hp => ?_⟩
    have s0 : Same H (L2.upd H p (.lst [])) := Same.new hp
    refine rd_ixT (j := 3) rfl (s0.sqT hT) rfl ⟨pa, rfl, ⟨_, s0.sqT hTp⟩, for_tup (K := K) (a := pa) (xs := pxs) (fun i σ H' => ∃ (r : List Ex) (pre : List Rw) (rr : Addr) (rv : List V) (v4 : Option V),
        σ = [some (.ref a), some tv, some (.str "call"), some (.ref rr), v4] ∧ Same H H' ∧ H' rr = some (.lst rv) ∧ TpAll K H' rv (pre.map Rw.d) ∧ TpAll K H' (pxs.drop i) (r.map Ex.d) ∧ (∀ e ∈ r, e.dep ≤ 5) ∧ pre.length + exsLen r = exsLen ps ∧ pre ++ exsCode r = exsCode ps)
      ⟨ps, [], p, [], none, rfl, s0, upd_same, .nil, by rw [List.drop_zero]; exact htp.mono (Tk.same s0), fun e he => (wps e he).2, by simp, by simp⟩ (fun i σ H' _ ⟨_, _, _, _, _, _, s', _⟩ => s'.sqT hTp) ?_ ?_⟩
    · rintro i x σ H3 hx ⟨r, pre, rr, rv, v4, rfl, s3, hrr, trv, tr, dr, lr, er⟩
      obtain ⟨e, r', rfl, tx, tr'⟩ := exs_at tr hx
      have lr2 : pre.length + (e.len + exsLen r') = exsLen ps := lr
      refine ⟨_, rfl, _, rfl, x, e, rfl, tx, by have := dr e List.mem_cons_self; omega, by omega, fun r1 us H4 hr1 hl1 t1 s4 => ?_⟩
      refine cat_new (K := K) (s4 _ _ hrr) hl1 (trv.mono (Tk.same s4)) t1 (by simp [Ex.code_len]; omega) fun r2 us2 H5 hr2 hl2 t2 s5 => ?_
      have sZ := s4.trans s5
      exact ⟨r', pre ++ e.code, r2, us2, _, rfl, s3.trans sZ, hl2, by rw [List.map_append]; exact t2, tr'.mono (Tk.same sZ), fun z hz => dr z (List.mem_cons_of_mem _ hz), by simp [Ex.code_len]; omega, by rw [← er]; simp [exsCode]⟩
    · rintro σ H3 ⟨r, pre, rr, rv, v4, rfl, s3, hrr, trv, tr, dr, lr, er⟩
      cases exs_end tr
      have er' : pre = exsCode ps := by simpa [exsCode] using er
      have lp : pxs.length = ps.length := by have := htp.length; rw [List.length_map] at this; exact this
      refine ⟨_, rfl, rd_ixT (j := 2) rfl (s3.sqT hT) rfl (rd_ixT (j := 3) rfl (s3.sqT hT) rfl ⟨pa, pxs, rfl, .inr (s3.sqT hTp), rd_ixT (j := 4) rfl (s3.sqT hT) rfl ⟨(by show 4 ≤ sizeLine; decide), fun p1 hp1 => ?_⟩⟩)⟩
      have s4 : Same H3 (L2.upd H3 p1 (.tup [.str "call", .int (f : Int), .int (pxs.length : Int), .int m])) := Same.new hp1
      refine rd_ixT (j := 1) rfl ((s3.trans s4).sqT hT) rfl ⟨(by show 2 ≤ sizeLine; decide), fun p2 hp2 => ⟨(by show 2 ≤ sizeLine; decide), fun p3 hp3 => ?_⟩⟩
      have s5 : Same H3 (L2.upd (L2.upd (L2.upd H3 p1 (.tup [.str "call", .int (f : Int), .int (pxs.length : Int), .int m])) p2 (.tup [.str "set", .int (k : Int)])) p3 (.lst [.ref p1, .ref p2])) := (s4.trans (Same.new hp2)).trans (Same.new hp3)
      refine cat_new (K := K) (ds := (exsCode ps).map Rw.d) (es := [(Rw.call f ps.length m).d, (Rw.set k).d]) (s5 _ _ hrr) upd_same (by rw [← er']; exact trv.mono (Tk.same s5)) (.cons ?_ (.cons ?_ .nil)) (by simp [exsCode_len]; omega) ?_
      · rw [← lp]
        exact ((Tp.mk hp1 (.cons (.str _) (.cons (.int _) (.cons (.int _) (.cons (.int _) .nil))))).mono (Tk.new hp2)).mono (Tk.new hp3)
      · exact (Tp.mk hp2 (.cons (.str _) (.cons (.int _) .nil))).mono (Tk.new hp3)
      · rw [show (exsCode ps).map Rw.d ++ [(Rw.call f ps.length m).d, (Rw.set k).d] = ((Sm.call k f ps m).code base D (tnOf tn)).map Rw.d by simp [Sm.code]]
        exact q.mono (s3.trans s5)
abbrev N_law_code : List Str := ["_law_one", "_law_base", "_law_depth", "_law_turn", "_law_word", "_law_rows", "_law_part_here"]
theorem rd_code {n : Nat} (vs : List V) (H : Hp) (Q : VK) (E : XK) (h : spCode (K := K) (n + 1) vs H Q E) : t_law_code K (spCode (K := K) n) (spIfCode (K := K) n) (spLoopCode (K := K) n) (spTryCode (K := K) n) (spCleanCode (K := K) n) (spPlainCode (K := K)) { nx := fun _ H' => Q .non H', rt := Q } (start N_law_code vs) H := by
  obtain ⟨v, tv, s, base, D, tn, rfl, ht, htn, ok, q⟩ := h
  have word : ∀ (a : Addr) (xs : List V) (w : Str), v = .ref a → SqT K H a xs → xs[0]? = some (.str w) → (V.str w ≠ .str "row" ∧ V.str w ≠ .str "if" ∧ V.str w ≠ .str "while" ∧ V.str w ≠ .str "try" ∧ V.str w ≠ .str "clean") → s.plain = true → t_law_code K (spCode (K := K) n) (spIfCode (K := K) n) (spLoopCode (K := K) n) (spTryCode (K := K) n) (spCleanCode (K := K) n) (spPlainCode (K := K)) { nx := fun _ H' => Q .non H', rt := Q } (start N_law_code [v, .int base, .int D, tv]) H := by
    rintro a xs w rfl hT hw ⟨n1, n2, n3, n4, n5⟩ pl
    refine rd_ixT (j := 0) rfl hT hw (r_ifF (pb_is (pb_eqS rfl) (dF n1)) (r_ifF (pb_is (pb_eqS rfl) (dF n2)) (r_ifF (pb_is (pb_eqS rfl) (dF n3)) (r_ifF (pb_is (pb_eqS rfl) (dF n4)) (r_ifF (pb_is (pb_eqS rfl) (dF n5)) ?_)))))
    exact ⟨_, rfl, _, rfl, _, tv, s, n + 1, base, D, tn, rfl, ht, htn, pl, ok, q⟩
  cases s with
  | say e =>
    obtain ⟨a, x0, x1, rfl, hT, h0, h1⟩ := id ht.tup2
    cases h0.strE
    exact word a _ "say" rfl hT rfl (by decide) rfl
  | set k e =>
    obtain ⟨a, x0, x1, x2, rfl, hT, h0, h1, h2⟩ := id ht.tup3
    cases h0.strE
    exact word a _ "set" rfl hT rfl (by decide) rfl
  | brk =>
    obtain ⟨a, x0, rfl, hT, h0⟩ := id ht.tup1
    cases h0.strE
    exact word a _ "break" rfl hT rfl (by decide) rfl
  | cnt =>
    obtain ⟨a, x0, rfl, hT, h0⟩ := id ht.tup1
    cases h0.strE
    exact word a _ "continue" rfl hT rfl (by decide) rfl
  | again =>
    obtain ⟨a, x0, rfl, hT, h0⟩ := id ht.tup1
    cases h0.strE
    exact word a _ "again" rfl hT rfl (by decide) rfl
  | ret e =>
    obtain ⟨a, x0, x1, rfl, hT, h0, h1⟩ := id ht.tup2
    cases h0.strE
    exact word a _ "return" rfl hT rfl (by decide) rfl
  | call k f ps m =>
    obtain ⟨a, x0, x1, x2, x3, x4, rfl, hT, h0, h1, h2, h3, h4⟩ := id ht.tup5
    cases h0.strE
    exact word a _ "call" rfl hT rfl (by decide) rfl
  | rais kd e m =>
    obtain ⟨a, x0, x1, x2, x3, rfl, hT, h0, h1, h2, h3⟩ := id ht.tup4
    cases h0.strE
    exact word a _ "raise" rfl hT rfl (by decide) rfl
  | ife e s t =>
    obtain ⟨a, x0, x1, x2, x3, rfl, hT, h0, h1, h2, h3⟩ := id ht.tup4
    cases h0.strE
    refine rd_ixT (j := 0) rfl hT rfl (r_ifF (pb_is (pb_eqS rfl) rfl) (r_ifT (pb_is (pb_eqS rfl) rfl) ?_))
    exact ⟨_, rfl, _, rfl, _, rfl, _, rfl, _, tv, e, s, t, base, D, tn, rfl, ht, htn, ok, q⟩
  | whl e s =>
    obtain ⟨a, x0, x1, x2, rfl, hT, h0, h1, h2⟩ := id ht.tup3
    cases h0.strE
    refine rd_ixT (j := 0) rfl hT rfl (r_ifF (pb_is (pb_eqS rfl) rfl) (r_ifF (pb_is (pb_eqS rfl) rfl) (r_ifT (pb_is (pb_eqS rfl) rfl) ?_)))
    exact ⟨_, rfl, _, rfl, _, rfl, _, e, s, base, D, tn, rfl, ht, ok, q⟩
  | tri s hs =>
    obtain ⟨a, x0, x1, x2, rfl, hT, h0, h1, h2⟩ := id ht.tup3
    cases h0.strE
    refine rd_ixT (j := 0) rfl hT rfl (r_ifF (pb_is (pb_eqS rfl) rfl) (r_ifF (pb_is (pb_eqS rfl) rfl) (r_ifF (pb_is (pb_eqS rfl) rfl) (r_ifT (pb_is (pb_eqS rfl) rfl) ?_))))
    exact ⟨_, rfl, _, rfl, _, rfl, _, rfl, _, tv, s, hs, base, D, tn, rfl, ht, htn, ok, q⟩
  | cln s c =>
    obtain ⟨a, x0, x1, x2, rfl, hT, h0, h1, h2⟩ := id ht.tup3
    cases h0.strE
    refine rd_ixT (j := 0) rfl hT rfl (r_ifF (pb_is (pb_eqS rfl) rfl) (r_ifF (pb_is (pb_eqS rfl) rfl) (r_ifF (pb_is (pb_eqS rfl) rfl) (r_ifF (pb_is (pb_eqS rfl) rfl) (r_ifT (pb_is (pb_eqS rfl) rfl) ?_)))))
    exact ⟨_, rfl, _, rfl, _, rfl, _, rfl, _, tv, s, c, base, D, tn, rfl, ht, htn, ok, q⟩
  | row ps =>
    obtain ⟨a, x0, x1, rfl, hT, h0, h1⟩ := id ht.tup2
    cases h0.strE
    obtain ⟨pa, pxs, rfl, hTp, htp⟩ := h1.tupE
    obtain ⟨cs, nk, hand, ws⟩ := ok.wf
    have hd : ps.dep + 1 ≤ n + 1 := ok.dep
    have hl : ps.len ≤ 100000 := ok.len
    have b0 := ok.b0
    refine rd_ixT (j := 0) rfl hT rfl (r_ifT (pb_is (pb_eqS rfl) rfl) ⟨(by show 0 ≤ sizeLine; decide), fun p hp => ?_⟩)
    have s0 : Same H (L2.upd H p (.lst [])) := Same.new hp
    refine rd_ixT (j := 1) rfl (s0.sqT hT) rfl ⟨pa, rfl, ⟨_, s0.sqT hTp⟩, for_tup (K := K) (a := pa) (xs := pxs) (fun i σ H' => ∃ (r : Sms) (pre : List Rw) (rr : Addr) (rv : List V) (v6 : Option V),
        σ = [some (.ref a), some (.int base), some (.int D), some tv, some (.str "row"), some (.ref rr), v6] ∧ H rr = none ∧ Same H H' ∧ H' rr = some (.lst rv) ∧ TpAll K H' rv (pre.map Rw.d) ∧ TpAll K H' (pxs.drop i) r.ds ∧ r.Wf cs nk tn.isSome hand ∧ r.dep ≤ n ∧ pre.length + r.len = ps.len ∧ pre ++ r.code (base + pre.length) D (tnOf tn) = ps.code base D (tnOf tn))
      ⟨ps, [], p, [], none, rfl, hp, s0, upd_same, .nil, by rw [List.drop_zero]; exact htp.mono (Tk.same s0), ws, by omega, by simp, by simp⟩ (fun i σ H' _ ⟨_, _, _, _, _, _, _, s', _⟩ => s'.sqT hTp) ?_ ?_⟩
    · rintro i x σ H3 hx ⟨r, pre, rr, rv, v6, rfl, hnn, s3, hrr, trv, tr, wr, dr, lr, er⟩
      obtain ⟨s, r', rfl, tx, tr'⟩ := sms_at tr hx
      obtain ⟨w1, w2⟩ : s.Wf cs nk tn.isSome hand ∧ r'.Wf cs nk tn.isSome hand := wr
      have dr2 : max s.dep r'.dep ≤ n := dr
      have lr2 : pre.length + (s.len + r'.len) = ps.len := lr
      have lrv : rv.length = pre.length := by rw [trv.length, List.length_map]
      refine ⟨_, rfl, _, rfl, _, rfl, _, rfl, rr, rv, rfl, .inl (SqL.of hrr), _, _, rfl, rfl, _, rfl, _, rfl, ?_⟩
      rw [lrv]
      refine ⟨x, tv, s, base + pre.length, D, tn, rfl, tx, htn.mono (Tk.same s3), ⟨⟨cs, nk, hand, w1⟩, by omega, by omega, by omega, ok.tn0⟩, fun r1 us H4 hr1 hl1 t1 s4 => ?_⟩
      refine cat_new (K := K) (s4 _ _ hrr) hl1 (trv.mono (Tk.same s4)) t1 (by simp [Sm.code_len]; omega) fun r2 us2 H5 hr2 hl2 t2 s5 => ?_
      have sZ := s4.trans s5
      refine ⟨r', pre ++ s.code (base + pre.length) D (tnOf tn), r2, us2, _, rfl, (s3.trans s4).free hr2, s3.trans sZ, hl2, by rw [List.map_append]; exact t2, tr'.mono (Tk.same sZ), w2, by omega, by simp [Sm.code_len]; omega, ?_⟩
      rw [← er]
      have e9 : base + ((pre ++ s.code (base + pre.length) D (tnOf tn)).length : Int) = base + pre.length + s.len := by simp [Sm.code_len]; omega
      rw [e9]
      simp [Sms.code]
    · rintro σ H3 ⟨r, pre, rr, rv, v6, rfl, hnn, s3, hrr, trv, tr, wr, dr, lr, er⟩
      cases sms_end tr
      have er' : pre = ps.code base D (tnOf tn) := by simpa [Sms.code] using er
      refine ⟨_, rfl, q rr rv H3 hnn hrr (by rw [show (Sm.row ps).code base D (tnOf tn) = ps.code base D (tnOf tn) from rfl, ← er']; exact trv) s3⟩
/-! ### _law_table, _law_coded -/
/-- a new tuple of these; all stands -/
def NewT (K : PySem.W.Frag) (H : Hp) (Q : VK) (d : PyData) : Prop := ∀ (v : V) (H' : Hp), Tp K H' v d → Same H H' → Q v H'
def spTable : Sp := fun vs H Q _ => ∃ (v : V) (rows : List Rw), vs = [v] ∧ Tp K H v (.tuple (rows.map Rw.d)) ∧ rows.length ≤ 200000 ∧ NewT K H Q (.tuple ((tabAt 0 rows).map Tb.d))
theorem tab_take {rows : List Rw} {i : Nat} {r : Rw} (h : rows[i]? = some r) : tabAt 0 (rows.take (i + 1)) = tabAt 0 (rows.take i) ++ tbOf (i : Int) r := by
  have hi := (List.getElem?_eq_some_iff.mp h).1
  rw [List.take_succ, h]
  show tabAt 0 (rows.take i ++ [r]) = _
  rw [tabAt_app, List.length_take, Nat.min_eq_left (by omega)]
  simp [tabAt]
/-- what a row adds to a table, by its data -/
theorem row_word (r : Rw) : (∃ b x k D, r = .hand b x k D) ∨ (∃ b x D, r = .cup b x D) ∨ ((∀ p, tbOf p r = []) ∧ ∃ w ds, r.d = .tuple (.str w :: ds) ∧ V.str w ≠ .str "handler" ∧ V.str w ≠ .str "cleanup") := by
  cases r with
  | hand b x k D => exact .inl ⟨b, x, k, D, rfl⟩
  | cup b x D => exact .inr (.inl ⟨b, x, D, rfl⟩)
  | op o => exact .inr (.inr ⟨fun _ => rfl, o.s, _, rfl, by cases o <;> decide, by cases o <;> decide⟩)
  | _ => exact .inr (.inr ⟨fun _ => rfl, _, _, rfl, by decide, by decide⟩)
abbrev N_law_table : List Str := ["_law_rows", "_law_table_here", "_law_k", "_law_row"]
theorem rd_table (vs : List V) (H : Hp) (Q : VK) (E : XK) (h : spTable (K := K) vs H Q E) : t_law_table K { nx := fun _ H' => Q .non H', rt := Q } (start N_law_table vs) H := by
  obtain ⟨v, rows, rfl, ht, hz, q⟩ := h
  obtain ⟨a, xs, rfl, hT, hts⟩ := ht.tupE
  have lx : xs.length = rows.length := by rw [hts.length, List.length_map]
  refine ⟨(by show 0 ≤ sizeLine; decide), fun p hp => ?_⟩
  have s0 : Same H (L2.upd H p (.lst [])) := Same.new hp
  refine ⟨_, rfl, a, xs, rfl, .inr (s0.sqT hT), _, rfl, by omega, by omega, for_range (lo := 0) (n := ((xs.length : Int)).toNat) (fun i σ H' => ∃ (tv : List V) (v2 v3 : Option V), σ = [some (.ref a), some (.ref p), v2, v3] ∧ Same H H' ∧ H' p = some (.lst tv) ∧ TpAll K H' tv ((tabAt 0 (rows.take i)).map Tb.d))
    ⟨[], none, none, rfl, s0, upd_same, by simp [tabAt]; exact .nil⟩ ?_ ?_⟩
  · rintro i σ H1 hi ⟨tv, v2, v3, rfl, s1, hp1, tt⟩
    have hi2 : i < rows.length := by omega
    have er : rows[i]? = some rows[i] := List.getElem?_eq_getElem hi2
    have ed : (rows.map Rw.d)[i]? = some (rows[i]).d := by rw [List.getElem?_map, er]; rfl
    obtain ⟨x, hx, tx⟩ := hts.get' ed
    have tx1 := tx.mono (Tk.same s1)
    have e0 : (0 : Int) + (i : Int) = (i : Int) := by omega
    have etk := tab_take er
    have ltv : tv.length < 1000000 := by
      have h1 := tt.length
      rw [List.length_map] at h1
      have h2 := tabAt_len (rows.take i) 0
      rw [List.length_take] at h2
      omega
    rw [e0]
    have fin : ∀ (t : Tb) (ws : List V) (ds : List PyData), tbOf (i : Int) rows[i] = [t] → t.d = .tuple ds → ∀ (H2 : Hp), Same H1 H2 → TpAll K H2 ws ds → ∀ p2, H2 p2 = none → H2 p = some (.lst tv) → ∃ (tv' : List V) (v2 v3 : Option V), [some (V.ref a), some (.ref p), some (.int (i : Int)), some x] = [some (.ref a), some (.ref p), v2, v3] ∧ Same H (L2.upd (L2.upd H2 p2 (.tup ws)) p (.lst (tv ++ [.ref p2]))) ∧
        (L2.upd (L2.upd H2 p2 (.tup ws)) p (.lst (tv ++ [.ref p2]))) p = some (.lst tv') ∧ TpAll K (L2.upd (L2.upd H2 p2 (.tup ws)) p (.lst (tv ++ [.ref p2]))) tv' ((tabAt 0 (rows.take (i + 1))).map Tb.d) := by
      intro t ws ds et ed2 H2 s2 tw p2 hp2 hpp
      have s3 : Same H1 (L2.upd H2 p2 (.tup ws)) := s2.trans (Same.new hp2)
      refine ⟨tv ++ [.ref p2], _, _, rfl, fun b u e => by rw [upd_ne (ne_of_none e hp)]; exact s3 b u (s1 b u e), upd_same, ?_⟩
      rw [etk, et, List.map_append]
      have : Tp K (L2.upd H2 p2 (.tup ws)) (.ref p2) t.d := by rw [ed2]; exact Tp.mk hp2 tw
      exact ((tt.mono (Tk.same s3)).snoc this).mono (Tk.lst (by rw [upd_ne (ne_of_none hpp hp2)]; exact hpp))
    refine ⟨_, rfl, _, rfl, a, xs, _, x, rfl, rfl, s1.sqT hT, atI_nat hx, ?_⟩
    rcases row_word rows[i] with ⟨b, y, k, D, e⟩ | ⟨b, y, D, e⟩ | ⟨enil, w, ds, e, n1, n2⟩
    · rw [e] at tx1
      obtain ⟨ax, y0, y1, y2, y3, y4, rfl, hTx, k0, k1, k2, k3, k4⟩ := tx1.tup5
      cases k0.strE; cases k1.intE; cases k2.intE; cases k4.intE
      refine rd_ixT (j := 0) rfl hTx rfl ⟨rfl, _, rfl, ifT rfl ?_⟩
      refine ⟨_, rfl, .inl ⟨rfl, _, SqL.of hp1⟩, rd_ixT (j := 1) rfl hTx rfl (rd_ixT (j := 2) rfl hTx rfl (rd_ixT (j := 3) rfl hTx rfl ⟨_, rfl, rd_ixT (j := 4) rfl hTx rfl ⟨(by show 6 ≤ sizeLine; decide), fun p2 hp2 => ?_⟩⟩))⟩
      have pp : L2.upd H1 p2 (.tup [.int b, .int y, .str "handler", y3, .int (i : Int), .int D]) p = some (.lst tv) := by rw [upd_ne (ne_of_none hp1 hp2)]; exact hp1
      refine ⟨p, tv, _, rfl, rfl, pp, sz_lt1 ltv, ?_⟩
      obtain ⟨tv', w2, w3, z1, z2, z3, z4⟩ := fin ⟨b, y, some k, i, D⟩ [.int b, .int y, .str "handler", y3, .int (i : Int), .int D] _ (by rw [e]; rfl) rfl H1 (Same.refl _) (.cons (.int _) (.cons (.int _) (.cons (.str _) (.cons k3 (.cons (.int _) (.cons (.int _) .nil)))))) p2 hp2 hp1
      -- the second look: not a cleanup
      refine rd_ixT (j := 0) rfl (Tk.sqT (Tk.trans (Tk.new hp2) (Tk.lst pp)) hTx) rfl ⟨rfl, _, rfl, ifF rfl ?_⟩
      exact ⟨tv', w2, w3, z1, z2, z3, z4⟩
    · rw [e] at tx1
      obtain ⟨ax, y0, y1, y2, y3, rfl, hTx, k0, k1, k2, k3⟩ := tx1.tup4
      cases k0.strE; cases k1.intE; cases k2.intE; cases k3.intE
      refine rd_ixT (j := 0) rfl hTx rfl ⟨rfl, _, rfl, ifF rfl ?_⟩
      refine rd_ixT (j := 0) rfl hTx rfl ⟨rfl, _, rfl, ifT rfl ?_⟩
      refine ⟨_, rfl, .inl ⟨rfl, _, SqL.of hp1⟩, rd_ixT (j := 1) rfl hTx rfl (rd_ixT (j := 2) rfl hTx rfl ⟨_, rfl, rd_ixT (j := 3) rfl hTx rfl ⟨(by show 6 ≤ sizeLine; decide), fun p2 hp2 => ?_⟩⟩)⟩
      have pp : L2.upd H1 p2 (.tup [.int b, .int y, .str "cleanup", .non, .int (i : Int), .int D]) p = some (.lst tv) := by rw [upd_ne (ne_of_none hp1 hp2)]; exact hp1
      refine ⟨p, tv, _, rfl, rfl, pp, sz_lt1 ltv, ?_⟩
      exact fin ⟨b, y, none, i, D⟩ [.int b, .int y, .str "cleanup", .non, .int (i : Int), .int D] _ (by rw [e]; rfl) rfl H1 (Same.refl _) (.cons (.int _) (.cons (.int _) (.cons (.str _) (.cons .non (.cons (.int _) (.cons (.int _) .nil)))))) p2 hp2 hp1
    · rw [e] at tx1
      obtain ⟨ax, ys, rfl, hTx, tys⟩ := tx1.tupE
      obtain ⟨y0, yr, rfl, k0, _⟩ := tys.consE
      cases k0.strE
      refine rd_ixT (j := 0) rfl hTx rfl ⟨rfl, _, rfl, ifF (dF n1) ?_⟩
      refine rd_ixT (j := 0) rfl hTx rfl ⟨rfl, _, rfl, ifF (dF n2) ?_⟩
      exact ⟨tv, _, _, rfl, s1, hp1, by rw [etk, enil, List.append_nil]; exact tt⟩
  · rintro σ H1 ⟨tv, v2, v3, rfl, s1, hp1, tt⟩
    rw [List.take_of_length_le (by omega)] at tt
    refine ⟨_, rfl, p, tv, rfl, .inl ⟨SqL.of hp1, fun p2 hp2 => ?_⟩⟩
    exact q (.ref p2) _ (Tp.mk hp2 tt) (s1.trans (Same.new hp2))
/-- a program that may be coded -/
structure PgC (p : Pg) (n : Nat) : Prop where
  body : ∀ f ∈ p.funs, CodeOk f.2 n none 0
  few : p.funs.length ≤ 1000
def spCodedL (n : Nat) : Sp := fun vs H Q _ => ∃ (v : V) (p : Pg), vs = [v] ∧ Tp K H v p.d ∧ PgC p n ∧ NewT K H Q (codeD p.code)
abbrev N_law_coded : List Str := ["_law_program_here", "_law_code_here", "_law_function", "_law_rows"]
theorem rd_law_coded {n : Nat} (vs : List V) (H : Hp) (Q : VK) (E : XK) (h : spCodedL (K := K) n vs H Q E) : t_law_coded K (spCode (K := K) n) (spTable (K := K)) { nx := fun _ H' => Q .non H', rt := Q } (start N_law_coded vs) H := by
  obtain ⟨v, p, rfl, ht, ok, q⟩ := h
  obtain ⟨a, x0, x1, rfl, hT, h0, h1⟩ := ht.tup2
  obtain ⟨fa, fxs, rfl, hTf, htf⟩ := h1.tupE
  have lx : fxs.length = p.funs.length := by rw [htf.length, List.length_map]
  refine ⟨(by show 0 ≤ sizeLine; decide), fun c hc => ?_⟩
  have s0 : Same H (L2.upd H c (.lst [])) := Same.new hc
  refine rd_ixT (j := 1) rfl (s0.sqT hT) rfl ⟨fa, rfl, ⟨_, s0.sqT hTf⟩, for_tup (K := K) (a := fa) (xs := fxs) (fun i σ H' => ∃ (cv : List V) (v2 v3 : Option V), σ = [some (.ref a), some (.ref c), v2, v3] ∧ Same H H' ∧ H' c = some (.lst cv) ∧ TpAll K H' cv ((p.code.take i).map Fc.d))
    ⟨[], none, none, rfl, s0, upd_same, .nil⟩ (fun i σ H' _ ⟨_, _, _, _, s', _⟩ => s'.sqT hTf) ?_ ?_⟩
  · rintro i x σ H1 hx ⟨cv, v2, v3, rfl, s1, hc1, tc⟩
    obtain ⟨d, hd, td⟩ := htf.get hx
    rw [List.getElem?_map] at hd
    cases ef : p.funs[i]? with
    | none => rw [ef] at hd; cases hd
    | some f =>
      rw [ef] at hd
      obtain rfl : funD f = d := Option.some.inj hd
      obtain ⟨ax, y0, y1, rfl, hTx, k0, k1⟩ := td.tup2
      cases k0.intE
      have okf := ok.body f (List.mem_of_getElem? ef)
      have hlen : f.2.len ≤ 100000 := okf.len
      have ilt : i < 1000 := by
        have := (List.getElem?_eq_some_iff.mp ef).1
        have := ok.few
        omega
      refine rd_ixT (j := 1) rfl (s1.sqT hTx) rfl ⟨y1, .non, f.2, 0, 0, none, rfl, k1.mono (Tk.same s1), .non, okf, fun r us H2 hr hl2 t2 s2 => ⟨(by show 2 ≤ sizeLine; decide), fun p1 hp1 => ⟨(by show 1 ≤ sizeLine; decide), fun p2 hp2 => ⟨(by show 2 ≤ sizeLine; decide), fun p3 hp3 => ?_⟩⟩⟩⟩
      have s3 : Same H2 (L2.upd (L2.upd (L2.upd H2 p1 (.tup [.str "num", .int 0])) p2 (.tup [.str "return"])) p3 (.lst [.ref p1, .ref p2])) := ((Same.new hp1).trans (Same.new hp2)).trans (Same.new hp3)
      refine cat_new (K := K) (es := [(Rw.num 0).d, Rw.ret.d]) (s3 _ _ hl2) upd_same (t2.mono (Tk.same s3)) (.cons (((Tp.mk hp1 (.cons (.str _) (.cons (.int _) .nil))).mono (Tk.new hp2)).mono (Tk.new hp3)) (.cons ((Tp.mk hp2 (.cons (.str _) .nil)).mono (Tk.new hp3)) .nil)) (by simp [Sm.code_len]; omega) fun r4 ws4 H4 hr4 hl4 t4 s4 => ?_
      have s14 := (s2.trans s3).trans s4
      refine ⟨r4, ws4, rfl, .inl ⟨SqL.of hl4, fun p5 hp5 => ?_⟩⟩
      have s5 : Same H1 (L2.upd H4 p5 (.tup ws4)) := s14.trans (Same.new hp5)
      have tR : Tp K (L2.upd H4 p5 (.tup ws4)) (.ref p5) (.tuple ((bodyRows f.2).map Rw.d)) := by
        rw [show (bodyRows f.2).map Rw.d = (f.2.code 0 0 (tnOf none)).map Rw.d ++ [(Rw.num 0).d, Rw.ret.d] by simp [bodyRows, tnOf]]
        exact Tp.mk hp5 t4
      refine ⟨_, rfl, .inl ⟨rfl, _, SqL.of (s5 _ _ hc1)⟩, rd_ixT (j := 0) rfl ((s1.trans s5).sqT hTx) rfl ⟨_, rfl, _, rfl, .ref p5, bodyRows f.2, rfl, tR, by simp [bodyRows, Sm.code_len]; omega, fun w H6 t6 s6 => ⟨(by show 3 ≤ sizeLine; decide), fun p7 hp7 => ?_⟩⟩⟩
      have hc6 := s6 _ _ (s5 _ _ hc1)
      have hc7 : L2.upd H6 p7 (.tup [.int (f.1 : Int), .ref p5, w]) c = some (.lst cv) := by rw [upd_ne (ne_of_none hc6 hp7)]; exact hc6
      have lcv : cv.length < 1000000 := by
        have := tc.length
        rw [List.length_map, List.length_take] at this
        omega
      have sZ : Same H1 (L2.upd H6 p7 (.tup [.int (f.1 : Int), .ref p5, w])) := (s5.trans s6).trans (Same.new hp7)
      refine ⟨c, cv, _, rfl, rfl, hc7, sz_lt1 lcv, cv ++ [.ref p7], _, _, rfl, fun b u e => by rw [upd_ne (ne_of_none e hc)]; exact sZ b u (s1 b u e), upd_same, ?_⟩
      have ec : p.code[i]? = some ⟨f.1, bodyRows f.2⟩ := by unfold Pg.code; rw [List.getElem?_map, ef]; rfl
      rw [List.take_succ, ec, List.map_append]
      exact ((tc.mono (Tk.same sZ)).snoc (Tp.mk hp7 (.cons (.int _) (.cons (tR.mono (Tk.same s6)) (.cons t6 .nil))))).mono (Tk.lst hc7)
  · rintro σ H1 ⟨cv, v2, v3, rfl, s1, hc1, tc⟩
    rw [List.take_of_length_le (by unfold Pg.code; rw [List.length_map]; omega)] at tc
    refine ⟨_, rfl, c, cv, rfl, .inl ⟨SqL.of hc1, fun p2 hp2 => ?_⟩⟩
    exact q (.ref p2) _ (Tp.mk hp2 tc) (s1.trans (Same.new hp2))
end
end Lp

/-! Lw: what a program does, by its tree: how a statement ends, what is told, how many rows the machine takes. -/
namespace Lp
open PySem PySem.Spec PyProof.Rows L2

structure Flt where
  k : Nat
  v : Int
  tr : List Int
  deriving DecidableEq
inductive Ev where
  | say (n : Int)
  | met (f : Flt)
  deriving DecidableEq
inductive Out where
  | on
  | brk
  | cnt
  | ret (v : Int)
  | flt (f : Flt)
  | dry
  | deep
  deriving DecidableEq
structure WSt where
  σ : List Int
  left : Int
  told : List Ev
/-- one row more where it goes on -/
def Out.tick (o : Out) (n : Nat) : Nat := if o = .on then n else 0
def Out.isFlt : Out → Bool
  | .flt _ => true
  | _ => false
def Out.over : Out → Bool
  | .dry => true
  | .deep => true
  | _ => false
/-- a handler of kind w takes a fault of kind k -/
def takes (ks : List (Option Nat)) (w : Option Nat) (k : Nat) : Bool := match w with
  | none => true
  | some j => under ks k j
/-- the first handler that takes a fault of the kind: its slot, its statement, its place behind the first handler's -/
def Hds.pick (ks : List (Option Nat)) (k : Nat) : Hds → Option (Nat × Sm × Nat)
  | .nil => none
  | .cons w sl t r => if takes ks w k then some (sl, t, 0) else (r.pick ks k).map fun z => (z.1, z.2.1, z.2.2 + (2 + t.len + 2))
/-- eight slots: the numbers, then noughts -/
def slotsFor (ns : List Int) : List Int := ns ++ List.replicate (8 - ns.length) 0
/-- how a call ends -/
def callOut (m : Int) : Out → Out
  | .on => .on
  | .ret _ => .on
  | .flt f => .flt { f with tr := f.tr ++ [m] }
  | o => o
def callSlots (k : Nat) (σ : List Int) : Out → List Int
  | .on => σ.set k 0
  | .ret v => σ.set k v
  | _ => σ
/-- rows behind the callee's -/
def callTick : Out → Nat
  | .on => 3
  | .ret _ => 1
  | _ => 0
mutual
inductive Rn (p : Pg) (dp : Nat) : Nat → List Flt → Sm → WSt → Out → WSt → Nat → Prop where
  | say {d met e w} : Rn p dp d met (.say e) w .on { w with told := w.told ++ [.say (e.val w.σ)] } (e.len + 1)
  | set {d met k e w} : Rn p dp d met (.set k e) w .on { w with σ := w.σ.set k (e.val w.σ) } (e.len + 1)
  | row {d met ps w o w' c} : RnS p dp d met ps w o w' c → Rn p dp d met (.row ps) w o w' c
  | ifT {d met e s t w o w' c} : e.val w.σ ≠ 0 → Rn p dp d met s w o w' c → Rn p dp d met (.ife e s t) w o w' (e.len + 1 + c + o.tick 1)
  | ifF {d met e s t w o w' c} : e.val w.σ = 0 → Rn p dp d met t w o w' c → Rn p dp d met (.ife e s t) w o w' (e.len + 1 + c)
  | whl0 {d met e s w} : e.val w.σ = 0 → Rn p dp d met (.whl e s) w .on w (e.len + 1)
  | whlD {d met e s w} : e.val w.σ ≠ 0 → w.left ≤ 0 → Rn p dp d met (.whl e s) w .dry { w with left := w.left - 1 } (e.len + 2)
  | whlB {d met e s w w' c} : e.val w.σ ≠ 0 → 0 < w.left → Rn p dp d met s { w with left := w.left - 1 } .brk w' c → Rn p dp d met (.whl e s) w .on w' (e.len + 2 + c)
  | whlN {d met e s w o w1 c o2 w2 c2} : e.val w.σ ≠ 0 → 0 < w.left → Rn p dp d met s { w with left := w.left - 1 } o w1 c → (o = .on ∨ o = .cnt) → Rn p dp d met (.whl e s) w1 o2 w2 c2 → Rn p dp d met (.whl e s) w o2 w2 (e.len + 2 + c + o.tick 1 + c2)
  | whlX {d met e s w o w1 c} : e.val w.σ ≠ 0 → 0 < w.left → Rn p dp d met s { w with left := w.left - 1 } o w1 c → o ≠ .on → o ≠ .cnt → o ≠ .brk → Rn p dp d met (.whl e s) w o w1 (e.len + 2 + c)
  | brk {d met w} : Rn p dp d met .brk w .brk w 1
  | cnt {d met w} : Rn p dp d met .cnt w .cnt w 1
  | ret {d met e w} : Rn p dp d met (.ret e) w (.ret (e.val w.σ)) w (e.len + 1)
  | rais {d met kd e m w} : Rn p dp d met (.rais kd e m) w (.flt ⟨kd, e.val w.σ, [m]⟩) w (e.len + 1)
  | again {d met f w} : met.getLast? = some f → Rn p dp d met .again w (.flt f) w 1
  | callD {d met k f ps m w} : w.left ≤ 0 → Rn p dp d met (.call k f ps m) w .dry { w with left := w.left - 1 } (exsLen ps + 1)
  | callP {d met k f ps m w} : 0 < w.left → d = dp → Rn p dp d met (.call k f ps m) w .deep { w with left := w.left - 1 } (exsLen ps + 1)
  | call {d met k f ps m w fn o w1 c} : 0 < w.left → d ≠ dp → p.funs[f]? = some fn → Rn p dp (d + 1) [] fn.2 ⟨slotsFor (ps.map (Ex.val w.σ)), w.left - 1, w.told⟩ o w1 c →
      Rn p dp d met (.call k f ps m) w (callOut m o) ⟨callSlots k w.σ o, w1.left, w1.told⟩ (exsLen ps + 1 + c + callTick o)
  | tri {d met s hs w o w1 c} : Rn p dp d met s w o w1 c → o.isFlt = false → Rn p dp d met (.tri s hs) w o w1 (c + o.tick 1)
  | triC {d met s hs w f w1 c z o w2 c2} : Rn p dp d met s w (.flt f) w1 c → hs.pick p.kinds f.k = some z → Rn p dp d (met ++ [f]) z.2.1 { w1 with σ := w1.σ.set z.1 f.v, told := w1.told ++ [.met f] } o w2 c2 →
      Rn p dp d met (.tri s hs) w o w2 (c + 2 + c2 + o.tick 2)
  | triX {d met s hs w f w1 c} : Rn p dp d met s w (.flt f) w1 c → hs.pick p.kinds f.k = none → Rn p dp d met (.tri s hs) w (.flt f) w1 c
  | clnX {d met s t w o w1 c} : Rn p dp d met s w o w1 c → o.over = true → Rn p dp d met (.cln s t) w o w1 c
  | cln {d met s t w o w1 c o2 w2 c2} : Rn p dp d met s w o w1 c → o.over = false → Rn p dp d met t w1 o2 w2 c2 →
      Rn p dp d met (.cln s t) w (if o2 = .on then o else o2) w2 (c + 1 + o.tick 1 + c2 + o2.tick 1)
inductive RnS (p : Pg) (dp : Nat) : Nat → List Flt → Sms → WSt → Out → WSt → Nat → Prop where
  | nil {d met w} : RnS p dp d met .nil w .on w 0
  | next {d met s r w w1 c o w2 c2} : Rn p dp d met s w .on w1 c → RnS p dp d met r w1 o w2 c2 → RnS p dp d met (.cons s r) w o w2 (c + c2)
  | stop {d met s r w o w1 c} : Rn p dp d met s w o w1 c → o ≠ .on → RnS p dp d met (.cons s r) w o w1 c
end
section
variable {p : Pg} {dp : Nat}
theorem tr3 {o o' : Out} {w w' : WSt} {c c' : Nat} (h : o = o' ∧ w = w' ∧ c = c') : o' = o ∧ w' = w ∧ c' = c := ⟨h.1.symm, h.2.1.symm, h.2.2.symm⟩
mutual
/-- one end alone -/
theorem Rn.det : ∀ {d met s w o w1 c o' w1' c'}, Rn p dp d met s w o w1 c → Rn p dp d met s w o' w1' c' → o = o' ∧ w1 = w1' ∧ c = c'
  | _, _, _, _, _, _, _, _, _, _, .say, h => by cases h; exact ⟨rfl, rfl, rfl⟩
  | _, _, _, _, _, _, _, _, _, _, .set, h => by cases h; exact ⟨rfl, rfl, rfl⟩
  | _, _, _, _, _, _, _, _, _, _, .row a, h => by cases h with | row b => exact RnS.det a b
  | _, _, _, _, _, _, _, _, _, _, .ifT n a, h => by
    cases h with
    | ifT _ b => obtain ⟨rfl, rfl, rfl⟩ := Rn.det a b; exact ⟨rfl, rfl, rfl⟩
    | ifF n' b => exact absurd n' n
  | _, _, _, _, _, _, _, _, _, _, .ifF n a, h => by
    cases h with
    | ifF _ b => obtain ⟨rfl, rfl, rfl⟩ := Rn.det a b; exact ⟨rfl, rfl, rfl⟩
    | ifT n' b => exact absurd n n'
  | _, _, _, _, _, _, _, _, _, _, .whl0 n, h => by
    cases h with
    | whl0 => exact ⟨rfl, rfl, rfl⟩
    | whlD n' | whlB n' | whlN n' | whlX n' => exact absurd n n'
  | _, _, _, _, _, _, _, _, _, _, .whlD n l, h => by
    cases h with
    | whlD => exact ⟨rfl, rfl, rfl⟩
    | whl0 n' => exact absurd n' n
    | whlB _ l' | whlN _ l' | whlX _ l' => omega
  | _, _, _, _, _, _, _, _, _, _, .whlB n l a, h => by
    cases h with
    | whlB _ _ b => obtain ⟨_, rfl, rfl⟩ := Rn.det a b; exact ⟨rfl, rfl, rfl⟩
    | whl0 n' => exact absurd n' n
    | whlD _ l' => omega
    | whlN _ _ b e => obtain ⟨rfl, _⟩ := Rn.det a b; rcases e with e | e <;> cases e
    | whlX _ _ b _ _ e => obtain ⟨rfl, _⟩ := Rn.det a b; exact absurd rfl e
  | _, _, _, _, _, _, _, _, _, _, .whlN n l a e a2, h => by
    cases h with
    | whlN _ _ b _ b2 => obtain ⟨rfl, rfl, rfl⟩ := Rn.det a b; obtain ⟨rfl, rfl, rfl⟩ := Rn.det a2 b2; exact ⟨rfl, rfl, rfl⟩
    | whl0 n' => exact absurd n' n
    | whlD _ l' => omega
    | whlB _ _ b => obtain ⟨rfl, _⟩ := Rn.det a b; rcases e with e | e <;> cases e
    | whlX _ _ b e1 e2 _ => obtain ⟨rfl, _⟩ := Rn.det a b; exact absurd e (fun z => z.elim e1 e2)
  | _, _, _, _, _, _, _, _, _, _, .whlX n l a e1 e2 e3, h => by
    cases h with
    | whlX _ _ b => obtain ⟨rfl, rfl, rfl⟩ := Rn.det a b; exact ⟨rfl, rfl, rfl⟩
    | whl0 n' => exact absurd n' n
    | whlD _ l' => omega
    | whlB _ _ b => obtain ⟨rfl, _⟩ := Rn.det a b; exact absurd rfl e3
    | whlN _ _ b e => obtain ⟨rfl, _⟩ := Rn.det a b; exact absurd e (fun z => z.elim e1 e2)
  | _, _, _, _, _, _, _, _, _, _, .brk, h => by cases h; exact ⟨rfl, rfl, rfl⟩
  | _, _, _, _, _, _, _, _, _, _, .cnt, h => by cases h; exact ⟨rfl, rfl, rfl⟩
  | _, _, _, _, _, _, _, _, _, _, .ret, h => by cases h; exact ⟨rfl, rfl, rfl⟩
  | _, _, _, _, _, _, _, _, _, _, .rais, h => by cases h; exact ⟨rfl, rfl, rfl⟩
  | _, _, _, _, _, _, _, _, _, _, .again e, h => by
    cases h with
    | again e' => rw [e] at e'; cases e'; exact ⟨rfl, rfl, rfl⟩
  | _, _, _, _, _, _, _, _, _, _, .callD l, h => by
    cases h with
    | callD => exact ⟨rfl, rfl, rfl⟩
    | callP l' | call l' => omega
  | _, _, _, _, _, _, _, _, _, _, .callP l e, h => by
    cases h with
    | callP => exact ⟨rfl, rfl, rfl⟩
    | callD l' => omega
    | call _ e' => exact absurd e e'
  | _, _, _, _, _, _, _, _, _, _, .call l e g a, h => by
    cases h with
    | callD l' => omega
    | callP _ e' => exact absurd e' e
    | call _ _ g' b =>
      rw [g] at g'; cases g'
      obtain ⟨rfl, rfl, rfl⟩ := Rn.det a b; exact ⟨rfl, rfl, rfl⟩
  | _, _, _, _, _, _, _, _, _, _, .tri a e, h => by
    cases h with
    | tri b _ => obtain ⟨rfl, rfl, rfl⟩ := Rn.det a b; exact ⟨rfl, rfl, rfl⟩
    | triC b _ _ => obtain ⟨rfl, _⟩ := Rn.det a b; cases e
    | triX b _ => obtain ⟨rfl, _⟩ := Rn.det a b; cases e
  | _, _, _, _, _, _, _, _, _, _, .triC a g a2, h => by
    cases h with
    | tri b e => obtain ⟨rfl, _⟩ := Rn.det a b; cases e
    | triC b g' b2 =>
      obtain ⟨z, rfl, rfl⟩ := Rn.det a b
      cases z
      rw [g] at g'; cases g'
      obtain ⟨rfl, rfl, rfl⟩ := Rn.det a2 b2; exact ⟨rfl, rfl, rfl⟩
    | triX b g' =>
      obtain ⟨z, _⟩ := Rn.det a b
      cases z
      rw [g] at g'; cases g'
  | _, _, _, _, _, _, _, _, _, _, .triX a g, h => by
    cases h with
    | tri b e => obtain ⟨rfl, _⟩ := Rn.det a b; cases e
    | triC b g' b2 =>
      obtain ⟨z, _⟩ := Rn.det a b
      cases z
      rw [g] at g'; cases g'
    | triX b g' => obtain ⟨z, rfl, rfl⟩ := Rn.det a b; cases z; exact ⟨rfl, rfl, rfl⟩
  | _, _, _, _, _, _, _, _, _, _, .clnX a e, h => by
    cases h with
    | clnX b _ => obtain ⟨rfl, rfl, rfl⟩ := Rn.det a b; exact ⟨rfl, rfl, rfl⟩
    | cln b e' _ => obtain ⟨rfl, _⟩ := Rn.det a b; rw [e] at e'; cases e'
  | _, _, _, _, _, _, _, _, _, _, .cln a e a2, h => by
    cases h with
    | clnX b e' => obtain ⟨rfl, _⟩ := Rn.det a b; rw [e] at e'; cases e'
    | cln b _ b2 =>
      obtain ⟨rfl, rfl, rfl⟩ := Rn.det a b
      obtain ⟨rfl, rfl, rfl⟩ := Rn.det a2 b2; exact ⟨rfl, rfl, rfl⟩
theorem RnS.det : ∀ {d met s w o w1 c o' w1' c'}, RnS p dp d met s w o w1 c → RnS p dp d met s w o' w1' c' → o = o' ∧ w1 = w1' ∧ c = c'
  | _, _, _, _, _, _, _, _, _, _, .nil, h => by cases h; exact ⟨rfl, rfl, rfl⟩
  | _, _, _, _, _, _, _, _, _, _, .next a a2, h => by
    cases h with
    | next b b2 =>
      obtain ⟨_, rfl, rfl⟩ := Rn.det a b
      obtain ⟨rfl, rfl, rfl⟩ := RnS.det a2 b2; exact ⟨rfl, rfl, rfl⟩
    | stop b n => obtain ⟨rfl, _⟩ := Rn.det a b; exact absurd rfl n
  | _, _, _, _, _, _, _, _, _, _, .stop a n, h => by
    cases h with
    | next b b2 => obtain ⟨z, _⟩ := Rn.det a b; exact absurd z n
    | stop b _ => exact Rn.det a b
end
end
end Lp

/-! Lw2: how long it takes, what it leaves. -/
namespace Lp
open PySem PySem.Spec PyProof.Rows L2
theorem Hds.pick_len {ks : List (Option Nat)} {k : Nat} : ∀ {hs : Hds} {z : Nat × Sm × Nat}, hs.pick ks k = some z → z.2.2 + 2 + z.2.1.len + 2 ≤ hs.len
  | .nil, z, h => by cases h
  | .cons w sl t r, z, h => by
    unfold Hds.pick at h
    split at h
    · cases h
      show 0 + 2 + t.len + 2 ≤ 2 + t.len + 2 + r.len
      omega
    · cases e : r.pick ks k with
      | none => rw [e] at h; cases h
      | some y =>
        rw [e] at h
        cases h
        have := Hds.pick_len e
        show y.2.2 + (2 + t.len + 2) + 2 + y.2.1.len + 2 ≤ 2 + t.len + 2 + r.len
        omega
theorem Hds.pick_wf {ks : List (Option Nat)} {k nk : Nat} {cs : List Nat} {turn : Bool} : ∀ {hs : Hds} {z : Nat × Sm × Nat}, hs.Wf cs nk turn → hs.pick ks k = some z → z.1 < 8 ∧ z.2.1.Wf cs nk turn true
  | .nil, z, _, h => by cases h
  | .cons w sl t r, z, wf, h => by
    obtain ⟨_, w1, w2, w3⟩ : (∀ j, w = some j → j < nk) ∧ sl < 8 ∧ t.Wf cs nk turn true ∧ r.Wf cs nk turn := wf
    unfold Hds.pick at h
    split at h
    · cases h; exact ⟨w1, w2⟩
    · cases e : r.pick ks k with
      | none => rw [e] at h; cases h
      | some y =>
        rw [e] at h
        cases h
        have h9 := Hds.pick_wf w3 e
        exact h9
theorem Hds.pick_dep {ks : List (Option Nat)} {k : Nat} : ∀ {hs : Hds} {z : Nat × Sm × Nat}, hs.pick ks k = some z → z.2.1.dep ≤ hs.dep
  | .nil, z, h => by cases h
  | .cons w sl t r, z, h => by
    unfold Hds.pick at h
    split at h
    · cases h
      exact Nat.le_max_left _ _
    · cases e : r.pick ks k with
      | none => rw [e] at h; cases h
      | some y =>
        rw [e] at h
        cases h
        have h9 := Hds.pick_dep e
        exact Nat.le_trans h9 (Nat.le_max_right _ _)
theorem tick_le (o : Out) (n : Nat) : o.tick n ≤ n := by unfold Out.tick; split <;> omega
theorem callTick_le (o : Out) : callTick o ≤ 3 := by cases o <;> simp [callTick]
section
variable {p : Pg} {dp : Nat}
def Cost (n : Nat) (w : WSt) (o : Out) (w1 : WSt) (c : Nat) : Prop :=
  (c : Int) ≤ n + 2000 * (w.left - w1.left) ∧ w1.left ≤ w.left ∧ (0 ≤ w1.left ∨ o = .dry) ∧ w1.told.length ≤ w.told.length + c
mutual
theorem Rn.cost (hp : ∀ f ∈ p.funs, f.2.len ≤ 1900) : ∀ {d met s w o w1 c}, Rn p dp d met s w o w1 c → s.len ≤ 1900 → 0 ≤ w.left → Cost s.len w o w1 c
  | _, _, _, w, _, _, _, .say (e := e), hl, h0 => ⟨by simp [Sm.len], Int.le_refl _, .inl h0, by simp⟩
  | _, _, _, w, _, _, _, .set (e := e), hl, h0 => ⟨by simp [Sm.len], Int.le_refl _, .inl h0, by simp⟩
  | _, _, _, w, _, _, _, .row a, hl, h0 => RnS.cost hp a hl h0
  | _, _, _, w, _, _, _, .ifT (e := e) (s := s) (t := t) (o := o) n a, hl, h0 => by
    have hl' : e.len + 1 + s.len + 1 + t.len ≤ 1900 := hl
    obtain ⟨h1, h2, h3, h4⟩ := Rn.cost hp a (by omega) h0
    have := tick_le o 1
    exact ⟨by show _ ≤ ((e.len + 1 + s.len + 1 + t.len : Nat) : Int) + _; omega, h2, h3, by omega⟩
  | _, _, _, w, _, _, _, .ifF (e := e) (s := s) (t := t) n a, hl, h0 => by
    have hl' : e.len + 1 + s.len + 1 + t.len ≤ 1900 := hl
    obtain ⟨h1, h2, h3, h4⟩ := Rn.cost hp a (by omega) h0
    exact ⟨by show _ ≤ ((e.len + 1 + s.len + 1 + t.len : Nat) : Int) + _; omega, h2, h3, by omega⟩
  | _, _, _, w, _, _, _, .whl0 (e := e) (s := s) n, hl, h0 => ⟨by show _ ≤ ((e.len + 2 + s.len + 1 : Nat) : Int) + _; omega, Int.le_refl _, .inl h0, by omega⟩
  | _, _, _, w, _, _, _, .whlD (e := e) (s := s) n l, hl, h0 => ⟨by show _ ≤ ((e.len + 2 + s.len + 1 : Nat) : Int) + 2000 * (w.left - (w.left - 1)); omega, by show w.left - 1 ≤ w.left; omega, .inr rfl, by show w.told.length ≤ _; omega⟩
  | _, _, _, w, _, _, _, .whlB (e := e) (s := s) (w' := w') n l a, hl, h0 => by
    have hl' : e.len + 2 + s.len + 1 ≤ 1900 := hl
    obtain ⟨h1, h2, h3, h4⟩ := Rn.cost hp a (by omega) (by show 0 ≤ w.left - 1; omega)
    replace h1 : _ ≤ _ + 2000 * ((w.left - 1) - w'.left) := h1
    replace h2 : w'.left ≤ w.left - 1 := h2
    replace h4 : _ ≤ w.told.length + _ := h4
    exact ⟨by show _ ≤ ((e.len + 2 + s.len + 1 : Nat) : Int) + _; omega, by omega, h3.elim .inl (fun z => by cases z), by omega⟩
  | _, _, _, w, _, _, _, .whlN (e := e) (s := s) (o := o) (w1 := w1) n l a q a2, hl, h0 => by
    have hl' : e.len + 2 + s.len + 1 ≤ 1900 := hl
    obtain ⟨h1, h2, h3, h4⟩ := Rn.cost hp a (by omega) (by show 0 ≤ w.left - 1; omega)
    replace h1 : _ ≤ _ + 2000 * ((w.left - 1) - w1.left) := h1
    replace h2 : w1.left ≤ w.left - 1 := h2
    replace h4 : _ ≤ w.told.length + _ := h4
    have w0 : 0 ≤ w1.left := h3.elim id (fun z => by subst z; rcases q with q | q <;> cases q)
    obtain ⟨k1, k2, k3, k4⟩ := Rn.cost hp a2 hl w0
    replace k1 : _ ≤ ((e.len + 2 + s.len + 1 : Nat) : Int) + _ := k1
    have := tick_le o 1
    exact ⟨by show _ ≤ ((e.len + 2 + s.len + 1 : Nat) : Int) + _; omega, by omega, k3, by omega⟩
  | _, _, _, w, _, w1, _, .whlX (e := e) (s := s) n l a _ _ _, hl, h0 => by
    have hl' : e.len + 2 + s.len + 1 ≤ 1900 := hl
    obtain ⟨h1, h2, h3, h4⟩ := Rn.cost hp a (by omega) (by show 0 ≤ w.left - 1; omega)
    replace h1 : _ ≤ _ + 2000 * ((w.left - 1) - w1.left) := h1
    replace h2 : w1.left ≤ w.left - 1 := h2
    replace h4 : _ ≤ w.told.length + _ := h4
    exact ⟨by show _ ≤ ((e.len + 2 + s.len + 1 : Nat) : Int) + _; omega, by omega, h3, by omega⟩
  | _, _, _, w, _, _, _, .brk, hl, h0 => ⟨by simp [Sm.len], Int.le_refl _, .inl h0, by omega⟩
  | _, _, _, w, _, _, _, .cnt, hl, h0 => ⟨by simp [Sm.len], Int.le_refl _, .inl h0, by omega⟩
  | _, _, _, w, _, _, _, .ret, hl, h0 => ⟨by simp [Sm.len], Int.le_refl _, .inl h0, by omega⟩
  | _, _, _, w, _, _, _, .rais, hl, h0 => ⟨by simp [Sm.len], Int.le_refl _, .inl h0, by omega⟩
  | _, _, _, w, _, _, _, .again _, hl, h0 => ⟨by simp [Sm.len], Int.le_refl _, .inl h0, by omega⟩
  | _, _, _, w, _, _, _, .callD (ps := ps) l, hl, h0 => ⟨by show _ ≤ ((exsLen ps + 2 : Nat) : Int) + 2000 * (w.left - (w.left - 1)); omega, by show w.left - 1 ≤ w.left; omega, .inr rfl, by show w.told.length ≤ _; omega⟩
  | _, _, _, w, _, _, _, .callP (ps := ps) l _, hl, h0 => ⟨by show _ ≤ ((exsLen ps + 2 : Nat) : Int) + 2000 * (w.left - (w.left - 1)); omega, by show w.left - 1 ≤ w.left; omega, .inl (by show 0 ≤ w.left - 1; omega), by show w.told.length ≤ _; omega⟩
  | _, _, _, w, _, _, _, .call (ps := ps) (fn := fn) (o := o) (w1 := w1) l _ g a, hl, h0 => by
    obtain ⟨h1, h2, h3, h4⟩ := Rn.cost hp a (hp _ (List.mem_of_getElem? g)) (by show 0 ≤ w.left - 1; omega)
    have hf := hp _ (List.mem_of_getElem? g)
    replace h1 : _ ≤ _ + 2000 * ((w.left - 1) - w1.left) := h1
    replace h2 : w1.left ≤ w.left - 1 := h2
    replace h4 : _ ≤ w.told.length + _ := h4
    have := callTick_le o
    refine ⟨by show _ ≤ ((exsLen ps + 2 : Nat) : Int) + 2000 * (w.left - w1.left); omega, by show w1.left ≤ w.left; omega, h3.imp id fun z => by subst z; rfl, by show w1.told.length ≤ _; omega⟩
  | _, _, _, w, _, _, _, .tri (s := s) (hs := hs) (o := o) a _, hl, h0 => by
    have hl' : s.len + 1 + hs.len ≤ 1900 := hl
    obtain ⟨h1, h2, h3, h4⟩ := Rn.cost hp a (by omega) h0
    have := tick_le o 1
    exact ⟨by show _ ≤ ((s.len + 1 + hs.len : Nat) : Int) + _; omega, h2, h3, by omega⟩
  | _, _, _, w, _, _, _, .triC (s := s) (hs := hs) (f := f) (w1 := w1) (z := z) (o := o) a g a2, hl, h0 => by
    have hl' : s.len + 1 + hs.len ≤ 1900 := hl
    have hz := Hds.pick_len g
    obtain ⟨h1, h2, h3, h4⟩ := Rn.cost hp a (by omega) h0
    have w0 : 0 ≤ w1.left := h3.elim id (fun z => by cases z)
    obtain ⟨k1, k2, k3, k4⟩ := Rn.cost hp a2 (by omega) w0
    replace k1 : _ ≤ _ + 2000 * (w1.left - _) := k1
    replace k2 : _ ≤ w1.left := k2
    replace k4 : _ ≤ (w1.told ++ [Ev.met f]).length + _ := k4
    rw [List.length_append] at k4
    have : [Ev.met f].length = 1 := rfl
    have := tick_le o 2
    exact ⟨by show _ ≤ ((s.len + 1 + hs.len : Nat) : Int) + _; omega, by omega, k3, by omega⟩
  | _, _, _, w, _, _, _, .triX (s := s) (hs := hs) a _, hl, h0 => by
    have hl' : s.len + 1 + hs.len ≤ 1900 := hl
    obtain ⟨h1, h2, h3, h4⟩ := Rn.cost hp a (by omega) h0
    exact ⟨by show _ ≤ ((s.len + 1 + hs.len : Nat) : Int) + _; omega, h2, h3, by omega⟩
  | _, _, _, w, _, _, _, .clnX (s := s) (t := t) a _, hl, h0 => by
    have hl' : s.len + 2 + t.len + 1 ≤ 1900 := hl
    obtain ⟨h1, h2, h3, h4⟩ := Rn.cost hp a (by omega) h0
    exact ⟨by show _ ≤ ((s.len + 2 + t.len + 1 : Nat) : Int) + _; omega, h2, h3, by omega⟩
  | _, _, _, w, _, _, _, .cln (s := s) (t := t) (o := o) (w1 := w1) (o2 := o2) a q a2, hl, h0 => by
    have hl' : s.len + 2 + t.len + 1 ≤ 1900 := hl
    obtain ⟨h1, h2, h3, h4⟩ := Rn.cost hp a (by omega) h0
    have w0 : 0 ≤ w1.left := h3.elim id (fun z => by subst z; cases q)
    obtain ⟨k1, k2, k3, k4⟩ := Rn.cost hp a2 (by omega) w0
    have := tick_le o 1
    have := tick_le o2 1
    refine ⟨by show _ ≤ ((s.len + 2 + t.len + 1 : Nat) : Int) + _; omega, by omega, k3.imp id fun z => by subst z; rfl, by omega⟩
theorem RnS.cost (hp : ∀ f ∈ p.funs, f.2.len ≤ 1900) : ∀ {d met s w o w1 c}, RnS p dp d met s w o w1 c → s.len ≤ 1900 → 0 ≤ w.left → Cost s.len w o w1 c
  | _, _, _, w, _, _, _, .nil, hl, h0 => ⟨by simp [Sms.len], Int.le_refl _, .inl h0, by omega⟩
  | _, _, _, w, _, _, _, .next (s := s) (r := r) (w1 := w1) a a2, hl, h0 => by
    have hl' : s.len + r.len ≤ 1900 := hl
    obtain ⟨h1, h2, h3, h4⟩ := Rn.cost hp a (by omega) h0
    have w0 : 0 ≤ w1.left := h3.elim id (fun z => by cases z)
    obtain ⟨k1, k2, k3, k4⟩ := RnS.cost hp a2 (by omega) w0
    exact ⟨by show _ ≤ ((s.len + r.len : Nat) : Int) + _; omega, by omega, k3, by omega⟩
  | _, _, _, w, _, _, _, .stop (s := s) (r := r) a _, hl, h0 => by
    have hl' : s.len + r.len ≤ 1900 := hl
    obtain ⟨h1, h2, h3, h4⟩ := Rn.cost hp a (by omega) h0
    exact ⟨by show _ ≤ ((s.len + r.len : Nat) : Int) + _; omega, h2, h3, h4⟩
end
/-! ### what it leaves -/
def FltOk (nk dp d : Nat) (f : Flt) : Prop := f.k < nk ∧ 0 ≤ f.v ∧ f.v < 10007 ∧ f.tr.length + d ≤ dp + 1
def OutOk (nk dp d : Nat) (turn : Bool) : Out → Prop
  | .brk => turn = true
  | .cnt => turn = true
  | .ret v => 0 ≤ v ∧ v < 10007
  | .flt f => FltOk nk dp d f
  | _ => True
def MetOk (nk dp d : Nat) (hand : Bool) (met : List Flt) : Prop := (∀ f ∈ met, FltOk nk dp d f) ∧ (hand = true → met ≠ [])
theorem InR.set {σ : List Int} (r : InR σ) {k : Nat} {v : Int} (h : 0 ≤ v ∧ v < 10007) : InR (σ.set k v) := by
  refine ⟨by rw [List.length_set]; exact r.1, fun n hn => ?_⟩
  rcases List.mem_or_eq_of_mem_set hn with z | z
  · exact r.2 n z
  · rw [z]; exact h
theorem slotsFor_in {ns : List Int} (hl : ns.length ≤ 8) (h : ∀ n ∈ ns, 0 ≤ n ∧ n < 10007) : InR (slotsFor ns) := by
  refine ⟨by simp [slotsFor]; omega, fun n hn => ?_⟩
  rcases List.mem_append.mp hn with z | z
  · exact h n z
  · have := List.eq_of_mem_replicate z
    omega
structure PgR (p : Pg) : Prop where
  body : ∀ f ∈ p.funs, f.2.Wf p.cs p.kinds.length false false
section
variable {nk : Nat}
mutual
theorem Rn.ok (hp : PgR p) (hn : nk = p.kinds.length) : ∀ {d met s w o w1 c turn hand}, Rn p dp d met s w o w1 c → s.Wf p.cs nk turn hand → InR w.σ → MetOk nk dp d hand met → d ≤ dp → InR w1.σ ∧ OutOk nk dp d turn o
  | _, _, _, w, _, _, _, _, _, .say, _, hr, _, _ => ⟨hr, trivial⟩
  | _, _, _, w, _, _, _, _, _, .set (e := e), wf, hr, _, _ => ⟨hr.set (Ex.val_in hr wf.2.1), trivial⟩
  | _, _, _, w, _, _, _, _, _, .row a, wf, hr, hm, hd => RnS.ok hp hn a wf hr hm hd
  | _, _, _, w, _, _, _, _, _, .ifT _ a, wf, hr, hm, hd => Rn.ok hp hn a wf.2.1 hr hm hd
  | _, _, _, w, _, _, _, _, _, .ifF _ a, wf, hr, hm, hd => Rn.ok hp hn a wf.2.2 hr hm hd
  | _, _, _, w, _, _, _, _, _, .whl0 _, _, hr, _, _ => ⟨hr, trivial⟩
  | _, _, _, w, _, _, _, _, _, .whlD _ _, _, hr, _, _ => ⟨hr, trivial⟩
  | _, _, _, w, _, _, _, _, _, .whlB _ _ a, wf, hr, hm, hd => ⟨(Rn.ok hp hn a wf.2 hr hm hd).1, trivial⟩
  | _, _, _, w, _, _, _, _, _, .whlN _ _ a _ a2, wf, hr, hm, hd => Rn.ok hp hn a2 wf (Rn.ok hp hn a wf.2 hr hm hd).1 hm hd
  | _, _, _, w, o, _, _, _, _, .whlX _ _ a e1 e2 e3, wf, hr, hm, hd => by
    obtain ⟨h1, h2⟩ := Rn.ok hp hn a wf.2 hr hm hd
    refine ⟨h1, ?_⟩
    cases o with
    | brk => exact absurd rfl e3
    | cnt => exact absurd rfl e2
    | on => trivial
    | ret v => exact h2
    | flt f => exact h2
    | dry => trivial
    | deep => trivial
  | _, _, _, w, _, _, _, _, _, .brk, wf, hr, _, _ => ⟨hr, wf⟩
  | _, _, _, w, _, _, _, _, _, .cnt, wf, hr, _, _ => ⟨hr, wf⟩
  | _, _, _, w, _, _, _, _, _, .ret, wf, hr, _, _ => ⟨hr, Ex.val_in hr wf.1⟩
  | d, _, _, w, _, _, _, _, _, .rais, wf, hr, _, hd => ⟨hr, wf.1, (Ex.val_in hr wf.2.1.1).1, (Ex.val_in hr wf.2.1.1).2, by show 1 + d ≤ dp + 1; omega⟩
  | _, _, _, w, _, _, _, _, _, .again e, wf, hr, hm, _ => ⟨hr, hm.1 _ (List.mem_of_getLast? e)⟩
  | _, _, _, w, _, _, _, _, _, .callD _, _, hr, _, _ => ⟨hr, trivial⟩
  | _, _, _, w, _, _, _, _, _, .callP _ _, _, hr, _, _ => ⟨hr, trivial⟩
  | d, _, _, w, _, _, _, _, _, .call (ps := ps) (o := o) (fn := fn) _ ne g a, wf, hr, hm, hd => by
    obtain ⟨_, _, hl, hps, _, _⟩ := wf
    obtain ⟨h1, h2⟩ := Rn.ok hp hn a (by rw [hn]; exact hp.body _ (List.mem_of_getElem? g)) (slotsFor_in (by simp; omega) (fun n hn2 => by
      obtain ⟨e, he, rfl⟩ := List.mem_map.mp hn2
      exact Ex.val_in hr (hps e he).1)) (⟨(fun _ z => nomatch z), (fun z => nomatch z)⟩ : MetOk nk dp (d + 1) false []) (by omega)
    cases o with
    | on => exact ⟨hr.set ⟨by omega, by omega⟩, trivial⟩
    | brk => cases h2
    | cnt => cases h2
    | ret v => exact ⟨hr.set h2, trivial⟩
    | flt f =>
      obtain ⟨k1, k2, k3, k4⟩ := h2
      exact ⟨hr, k1, k2, k3, by show (f.tr ++ [_]).length + d ≤ dp + 1; simp; omega⟩
    | dry => exact ⟨hr, trivial⟩
    | deep => exact ⟨hr, trivial⟩
  | _, _, _, w, _, _, _, _, _, .tri a _, wf, hr, hm, hd => Rn.ok hp hn a wf.1 hr hm hd
  | d, met, _, w, _, _, _, _, _, .triC (f := f) a g a2, wf, hr, hm, hd => by
    obtain ⟨h1, h2⟩ := Rn.ok hp hn a wf.1 hr hm hd
    obtain ⟨_, wz⟩ := Hds.pick_wf wf.2 g
    refine Rn.ok hp hn a2 wz (h1.set ⟨h2.2.1, h2.2.2.1⟩) ⟨fun y hy => ?_, fun _ => by simp⟩ hd
    rcases List.mem_append.mp hy with z | z
    · exact hm.1 y z
    · have : y = f := by simpa using z
      rw [this]; exact h2
  | _, _, _, w, _, _, _, _, _, .triX a _, wf, hr, hm, hd => Rn.ok hp hn a wf.1 hr hm hd
  | _, _, _, w, _, _, _, _, _, .clnX a _, wf, hr, hm, hd => Rn.ok hp hn a wf.1 hr hm hd
  | _, _, _, w, _, _, _, _, _, .cln (o := o) (o2 := o2) a q a2, wf, hr, hm, hd => by
    obtain ⟨h1, h2⟩ := Rn.ok hp hn a wf.1 hr hm hd
    obtain ⟨h3, h4⟩ := Rn.ok hp hn a2 wf.2 h1 hm hd
    refine ⟨h3, ?_⟩
    split
    · exact h2
    · exact h4
theorem RnS.ok (hp : PgR p) (hn : nk = p.kinds.length) : ∀ {d met s w o w1 c turn hand}, RnS p dp d met s w o w1 c → s.Wf p.cs nk turn hand → InR w.σ → MetOk nk dp d hand met → d ≤ dp → InR w1.σ ∧ OutOk nk dp d turn o
  | _, _, _, w, _, _, _, _, _, .nil, _, hr, _, _ => ⟨hr, trivial⟩
  | _, _, _, w, _, _, _, _, _, .next a a2, wf, hr, hm, hd => RnS.ok hp hn a2 wf.2 (Rn.ok hp hn a wf.1 hr hm hd).1 hm hd
  | _, _, _, w, _, _, _, _, _, .stop a _, wf, hr, hm, hd => Rn.ok hp hn a wf.1 hr hm hd
end
end
end
end Lp

/-! Lw3: ends and events as data; what a walk is asked. -/
namespace Lp
open PySem PySem.Spec PyProof.Rows L2
def Flt.tl (f : Flt) : List PyData := [.int (f.k : Int), .int f.v, .tuple (f.tr.map .int)]
def Flt.d (f : Flt) : PyData := .tuple (.str "fault" :: f.tl)
def Out.w : Out → Str
  | .on => "on"
  | .brk => "break"
  | .cnt => "continue"
  | .ret _ => "return"
  | .flt _ => "fault"
  | .dry => "dry"
  | .deep => "deep"
def Out.r : Out → List PyData
  | .ret v => [.int v]
  | .flt f => f.tl
  | _ => []
def Out.d (o : Out) : PyData := .tuple (.str o.w :: o.r)
def Ev.d : Ev → PyData
  | .say n => .tuple [.str "say", .int n]
  | .met f => .tuple (.str "met" :: f.tl)
def metD (met : List Flt) : PyData := .tuple (met.map Flt.d)
structure PgW (p : Pg) : Prop where
  wf : p.Wf
  dep : ∀ f ∈ p.funs, f.2.dep ≤ 5
  len : ∀ f ∈ p.funs, f.2.len ≤ 1900
theorem PgW.r {p : Pg} (h : PgW p) : PgR p := ⟨h.wf.body⟩
structure WPre (p : Pg) (dp n d : Nat) (met : List Flt) (turn hand : Bool) (s : Sm) (w : WSt) : Prop where
  pw : PgW p
  wf : s.Wf p.cs p.kinds.length turn hand
  inr : InR w.σ
  mok : MetOk p.kinds.length dp d hand met
  mfew : met.length + s.dep ≤ 100
  ddp : d ≤ dp
  dps : dp ≤ 1000
  dep : s.dep + 6 * (dp - d) ≤ n
  len : s.len ≤ 1900
  left : 0 ≤ w.left
  bud : (w.told.length : Int) + s.len + 2000 * (w.left + 1) ≤ 500000
section
variable {p : Pg} {dp n d : Nat} {met : List Flt} {turn hand turn' : Bool} {s t : Sm} {w w1 : WSt}
/-- a part, first -/
theorem WPre.first (h : WPre p dp (n + 1) d met turn hand s w) (wf : t.Wf p.cs p.kinds.length turn' hand) (hd : t.dep + 1 ≤ s.dep) (hl : t.len ≤ s.len) : WPre p dp n d met turn' hand t w :=
  ⟨h.pw, wf, h.inr, h.mok, by have := h.mfew; omega, h.ddp, h.dps, by have := h.dep; omega, by have := h.len; omega, h.left, by have := h.bud; omega⟩
/-- a part behind another -/
theorem WPre.next {m c : Nat} {o : Out} (h : WPre p dp (n + 1) d met turn hand s w) (k : Cost m w o w1 c) (ho : o ≠ .dry) (hr : InR w1.σ) (wf : t.Wf p.cs p.kinds.length turn' hand) (hd : t.dep + 1 ≤ s.dep) (hl : m + t.len ≤ s.len) : WPre p dp n d met turn' hand t w1 := by
  obtain ⟨h1, h2, h3, h4⟩ := k
  have hb := h.bud
  have hn := h.len
  exact ⟨h.pw, wf, hr, h.mok, by have := h.mfew; omega, h.ddp, h.dps, by have := h.dep; omega, by omega, h3.elim id fun z => absurd z ho, by omega⟩
end
section
variable {K : PySem.W.Frag} {H : Hp} {σ : L2.St} {v : V} {i : Nat} {a : Addr} {xs : List V} {z z' : Str}
theorem Out.tup {o : Out} (h : Tp K H v o.d) : ∃ a r, v = .ref a ∧ SqT K H a (.str o.w :: r) ∧ TpAll K H r o.r := by
  obtain ⟨a, xs, rfl, hT, h⟩ := Tp.tupE h
  obtain ⟨x0, r, rfl, h0, h2⟩ := h.consE
  cases h0.strE
  exact ⟨a, r, rfl, hT, h2⟩
theorem pb_w (hs : σ[i]? = some (some (.ref a))) (hT : SqT K H a xs) (e : xs[0]? = some (.str z)) : PB (tTest (tOp rEq (tOp (rIxT K) (tVar i) (tC (.int 0))) (tC (.str z')))) σ H (decide (V.str z = V.str z')) := fun _ q => rd_ixT (j := 0) hs hT e ⟨rfl, _, rfl, q⟩
theorem pb_wN (hs : σ[i]? = some (some (.ref a))) (hT : SqT K H a xs) (e : xs[0]? = some (.str z)) : PB (tTest (tOp rNe (tOp (rIxT K) (tVar i) (tC (.int 0))) (tC (.str z')))) σ H (!decide (V.str z = V.str z')) := fun _ q => rd_ixT (j := 0) hs hT e ⟨rfl, _, rfl, q⟩
/-- the list of what a walk may change -/
def B3 (a b c : Addr) : Addr → Prop := fun x => x = a ∨ x = b ∨ x = c
structure RunSt (K : PySem.W.Frag) (p : Pg) (dp : Nat) (H : Hp) (rn tl sl : Addr) (pv : V) (w : WSt) : Prop where
  run : H rn = some (.lst [pv, .int w.left, .int (dp : Int), .ref tl])
  told : ∃ us, H tl = some (.lst us) ∧ TpAll K H us (w.told.map Ev.d)
  slo : H sl = some (.lst (w.σ.map V.int))
  pt : Tp K H pv p.d
  n1 : rn ≠ tl
  n2 : rn ≠ sl
  n3 : tl ≠ sl
variable {p : Pg} {dp : Nat} {H' : Hp} {rn tl sl : Addr} {pv : V} {w : WSt}
theorem RunSt.noTup (r : RunSt K p dp H rn tl sl pv w) : NoTup (B3 rn tl sl) H := by
  rintro a (rfl | rfl | rfl)
  · exact ⟨_, r.run, (fun _ z => by cases z), (fun _ _ z => by cases z)⟩
  · obtain ⟨us, h, _⟩ := r.told
    exact ⟨_, h, (fun _ z => by cases z), (fun _ _ z => by cases z)⟩
  · exact ⟨_, r.slo, (fun _ z => by cases z), (fun _ _ z => by cases z)⟩
theorem RunSt.tk (r : RunSt K p dp H rn tl sl pv w) (k : Kp (B3 rn tl sl) H H') : Tk H H' := k.tk r.noTup
theorem RunSt.same (r : RunSt K p dp H rn tl sl pv w) (s : Same H H') : RunSt K p dp H' rn tl sl pv w := by
  obtain ⟨us, h, ht⟩ := r.told
  exact ⟨s _ _ r.run, ⟨us, s _ _ h, ht.mono (Tk.same s)⟩, s _ _ r.slo, r.pt.mono (Tk.same s), r.n1, r.n2, r.n3⟩
/-- one told more -/
theorem RunSt.say {x : V} {e : Ev} (r : RunSt K p dp H rn tl sl pv w) (hx : Tp K H x e.d) : ∃ us, H tl = some (.lst us) ∧ us.length = w.told.length ∧ RunSt K p dp (upd H tl (.lst (us ++ [x]))) rn tl sl pv { w with told := w.told ++ [e] } := by
  obtain ⟨us, h, ht⟩ := r.told
  refine ⟨us, h, by rw [ht.length, List.length_map], ⟨by rw [upd_ne r.n1]; exact r.run, ⟨_, upd_same, ?_⟩, by rw [upd_ne r.n3.symm]; exact r.slo, r.pt.mono (Tk.lst h), r.n1, r.n2, r.n3⟩⟩
  rw [List.map_append]
  exact (ht.snoc hx).mono (Tk.lst h)
/-- a slot set -/
theorem RunSt.set {k : Nat} {i : Int} (r : RunSt K p dp H rn tl sl pv w) : RunSt K p dp (upd H sl (.lst ((w.σ.map V.int).set k (.int i)))) rn tl sl pv { w with σ := w.σ.set k i } := by
  obtain ⟨us, h, ht⟩ := r.told
  refine ⟨by rw [upd_ne r.n2]; exact r.run, ⟨us, by rw [upd_ne r.n3]; exact h, ht.mono (Tk.lst r.slo)⟩, ?_, r.pt.mono (Tk.lst r.slo), r.n1, r.n2, r.n3⟩
  rw [upd_same, List.map_set]
/-- one counted -/
theorem RunSt.count {i : Int} (r : RunSt K p dp H rn tl sl pv w) : RunSt K p dp (upd H rn (.lst [pv, .int i, .int (dp : Int), .ref tl])) rn tl sl pv { w with left := i } := by
  obtain ⟨us, h, ht⟩ := r.told
  exact ⟨upd_same, ⟨us, by rw [upd_ne r.n1.symm]; exact h, ht.mono (Tk.lst r.run)⟩, by rw [upd_ne r.n2.symm]; exact r.slo, r.pt.mono (Tk.lst r.run), r.n1, r.n2, r.n3⟩
end
/-! ### what the law's walk is asked and told -/
structure WalkP (K : PySem.W.Frag) (P : Sm → Prop) (n : Nat) (vs : List V) (H : Hp) (Q : VK) : Prop where
  ex : ∃ (p : Pg) (dp : Nat) (rn tl sl : Addr) (pv v mv : V) (w : WSt) (d : Nat) (met : List Flt) (s : Sm) (turn hand : Bool), vs = [.ref rn, v, .ref sl, mv, .int (d : Int)] ∧ RunSt K p dp H rn tl sl pv w ∧ Tp K H v s.d ∧ Tp K H mv (metD met) ∧ WPre p dp n d met turn hand s w ∧ P s ∧
    ∀ (v' : V) (o : Out) (w1 : WSt) (c : Nat) (H' : Hp), Rn p dp d met s w o w1 c → RunSt K p dp H' rn tl sl pv w1 → Tp K H' v' o.d → Kp (B3 rn tl sl) H H' → Q v' H'
def spWalk (K : PySem.W.Frag) (P : Sm → Prop) (n : Nat) : Sp := fun vs H Q _ => WalkP K P n vs H Q
theorem spWalk_zero {K : PySem.W.Frag} {P : Sm → Prop} (vs : List V) (H : Hp) (Q : VK) (E : XK) : ¬ spWalk K P 0 vs H Q E := by
  rintro ⟨⟨p, dp, rn, tl, sl, pv, v, mv, w, d, met, s, turn, hand, _, _, _, _, h, _⟩⟩
  have := h.dep
  have : 1 ≤ s.dep := by cases s <;> simp [Sm.dep]
  omega
theorem pWalk {K : PySem.W.Frag} {P : Sm → Prop} {n : Nat} {H : Hp} {Q : VK} {p : Pg} {dp : Nat} {rn tl sl : Addr} {pv v mv : V} {w : WSt} {d : Nat} {met : List Flt} {s : Sm} {turn hand : Bool}
    (r : RunSt K p dp H rn tl sl pv w) (tv : Tp K H v s.d) (tm : Tp K H mv (metD met)) (pre : WPre p dp n d met turn hand s w) (hP : P s)
    (q : ∀ (v' : V) (o : Out) (w1 : WSt) (c : Nat) (H' : Hp), Rn p dp d met s w o w1 c → Cost s.len w o w1 c → InR w1.σ → OutOk p.kinds.length dp d turn o → RunSt K p dp H' rn tl sl pv w1 → Tp K H' v' o.d → Kp (B3 rn tl sl) H H' → Tk H H' → Q v' H') : spWalk K P n [.ref rn, v, .ref sl, mv, .int (d : Int)] H Q E0 :=
  ⟨p, dp, rn, tl, sl, pv, v, mv, w, d, met, s, turn, hand, rfl, r, tv, tm, pre, hP, fun v' o w1 c H' hR r' t' k' =>
    q v' o w1 c H' hR (Rn.cost pre.pw.len hR pre.len pre.left) (Rn.ok pre.pw.r rfl hR pre.wf pre.inr pre.mok pre.ddp).1 (Rn.ok pre.pw.r rfl hR pre.wf pre.inr pre.mok pre.ddp).2 r' t' k' (r.tk k')⟩
end Lp

/-! LwL: the law's walk. -/
namespace Lp
open PySem PySem.Spec PyProof.Rows L2
def t_law_met (K : PySem.W.Frag) (sp_law_above : Sp) : TS :=
  tRet (tOrV (tOp rIsN (tVar 1) (tC .non)) (tOp (rIn K false) (tVar 1) (tCall sp_law_above [] E0 (tCons (tVar 0) (tCons (tVar 2) (tNil))))))

def t_law_counted (K : PySem.W.Frag) : TS :=
  tSeq (tAsg (tOp rSbI (tOp (rIxL K) (tVar 0) (tC (.int 1))) (tC (.int 1))) (gSub (tVar 0) (tC (.int 1)) rSetL)) (tRet (tOp rGe (tOp (rIxL K) (tVar 0) (tC (.int 1))) (tC (.int 0))))

def t_law_turned (K : PySem.W.Frag) (sp_law_value : Sp) (sp_law_counted : Sp) (sp_law_does : Sp) : TS :=
  tSeq (tWhile (tTest (tOp rNe (tCall sp_law_value [] E0 (tCons (tOp (rIxT K) (tVar 1) (tC (.int 1))) (tCons (tVar 2) (tNil)))) (tC (.int 0)))) (tSeq (tIfS (tNot (tB (tCall sp_law_counted [] E0 (tCons (tVar 0) (tNil))))) (tRet (tTup (tCons (tC (.str "dry")) (tNil)))) (tNext)) (tSeq (tAsg (tCall sp_law_does [] E0 (tCons (tVar 0) (tCons (tOp (rIxT K) (tVar 1) (tC (.int 2))) (tCons (tVar 2) (tCons (tVar 3) (tCons (tVar 4) (tNil))))))) (gName 5)) (tSeq (tIfS (tTest (tOp rEq (tOp (rIxT K) (tVar 5) (tC (.int 0))) (tC (.str "break")))) (tRet (tTup (tCons (tC (.str "on")) (tNil)))) (tNext)) (tIfS (tTest (tOp (rIn K true) (tOp (rIxT K) (tVar 5) (tC (.int 0))) (tTup (tCons (tC (.str "on")) (tCons (tC (.str "continue")) (tNil)))))) (tRet (tVar 5)) (tNext)))))) (tRet (tTup (tCons (tC (.str "on")) (tNil))))

def t_law_cleaned (K : PySem.W.Frag) (sp_law_does : Sp) : TS :=
  tSeq (tAsg (tCall sp_law_does [] E0 (tCons (tVar 0) (tCons (tOp (rIxT K) (tVar 1) (tC (.int 1))) (tCons (tVar 2) (tCons (tVar 3) (tCons (tVar 4) (tNil))))))) (gName 5)) (tSeq (tIfS (tTest (tOp (rIn K false) (tOp (rIxT K) (tVar 5) (tC (.int 0))) (tTup (tCons (tC (.str "dry")) (tCons (tC (.str "deep")) (tNil)))))) (tRet (tVar 5)) (tNext)) (tSeq (tAsg (tCall sp_law_does [] E0 (tCons (tVar 0) (tCons (tOp (rIxT K) (tVar 1) (tC (.int 2))) (tCons (tVar 2) (tCons (tVar 3) (tCons (tVar 4) (tNil))))))) (gName 6)) (tSeq (tIfS (tTest (tOp rEq (tOp (rIxT K) (tVar 6) (tC (.int 0))) (tC (.str "on")))) (tRet (tVar 5)) (tNext)) (tRet (tVar 6)))))

def t_law_rowed (K : PySem.W.Frag) (sp_law_does : Sp) : TS :=
  tSeq (tFor (iTup K (tVar 1)) (gName 5) (tSeq (tAsg (tCall sp_law_does [] E0 (tCons (tVar 0) (tCons (tVar 5) (tCons (tVar 2) (tCons (tVar 3) (tCons (tVar 4) (tNil))))))) (gName 6)) (tIfS (tTest (tOp rNe (tOp (rIxT K) (tVar 6) (tC (.int 0))) (tC (.str "on")))) (tRet (tVar 6)) (tNext)))) (tRet (tTup (tCons (tC (.str "on")) (tNil))))

section
variable {K : PySem.W.Frag}
theorem inV_ints {row : List Nat} {j : Nat} : inV (.int (j : Int)) (row.map fun n : Nat => V.int (n : Int)) = decide (j ∈ row) := by
  unfold inV
  rw [List.any_map]
  have : ∀ n : Nat, ((fun y => eqV y (.int (j : Int))) ∘ fun n : Nat => V.int (n : Int)) n = decide (j = n) := fun n => by
    show ((n : Int) == (j : Int)) = _
    by_cases h : j = n
    · subst h; simp
    · have : (n : Int) ≠ (j : Int) := by omega
      simp [h, this]
  by_cases h : j ∈ row
  · rw [decide_eq_true h, List.any_eq_true]
    exact ⟨j, h, by rw [this]; simp⟩
  · rw [decide_eq_false h, List.any_eq_false]
    intro x hx
    rw [this]
    simp
    intro e; subst e; exact h hx
def spMetL (K : PySem.W.Frag) : Sp := fun vs H Q _ => ∃ (a : Addr) (ks : List (Option Nat)) (wd : Option Nat) (k : Nat), vs = [.ref a, kindV wd, .int (k : Int)] ∧ SqT K H a (ks.map kindV) ∧ WfK ks ∧ k < ks.length ∧ ks.length ≤ 1000 ∧ ∀ H', Same H H' → Q (.bl (takes ks wd k)) H'
abbrev N_law_met : List Str := ["_law_kinds_here", "_law_wanted", "_law_kind"]
theorem rd_law_met (vs : List V) (H : Hp) (Q : VK) (E : XK) (h : spMetL K vs H Q E) : t_law_met K (spAbove K) { nx := fun _ H' => Q .non H', rt := Q } (start N_law_met vs) H := by
  obtain ⟨a, ks, wd, k, rfl, hS, wf, hk, hz, q⟩ := h
  cases wd with
  | none => exact ⟨_, rfl, rfl, _, rfl, ifT (dT rfl) (q H (Same.refl _))⟩
  | some j =>
    refine ⟨_, rfl, rfl, _, rfl, ifF (dF (by intro z; cases z)) ⟨_, rfl, _, rfl, _, rfl, a, ks, k, rfl, hS, wf, hk, hz, fun r row H' hrow hr hl s => ⟨r, _, rfl, .inl (SqL.of hl), rfl, ?_, ?_⟩⟩⟩
    · rw [List.all_map, List.all_eq_true]
      intro x _; rfl
    · rw [if_neg Bool.false_ne_true]
      have e : inV (kindV (some j)) (row.map fun n : Nat => V.int (n : Int)) = takes ks (some j) k := by
        show inV (.int (j : Int)) _ = under ks k j
        rw [inV_ints]
        cases hu : under ks k j with
        | true => exact decide_eq_true ((hrow j).mpr hu)
        | false => exact decide_eq_false fun z => by rw [(hrow j).mp z] at hu; cases hu
      rw [e]
      exact q H' s
def spCountL (K : PySem.W.Frag) : Sp := fun vs H Q _ => ∃ (p : Pg) (dp : Nat) (rn tl sl : Addr) (pv : V) (w : WSt), vs = [.ref rn] ∧ RunSt K p dp H rn tl sl pv w ∧ Q (.bl (decide (0 ≤ w.left - 1))) (upd H rn (.lst [pv, .int (w.left - 1), .int (dp : Int), .ref tl]))
abbrev N_law_counted : List Str := ["_law_run"]
theorem rd_law_counted (vs : List V) (H : Hp) (Q : VK) (E : XK) (h : spCountL K vs H Q E) : t_law_counted K { nx := fun _ H' => Q .non H', rt := Q } (start N_law_counted vs) H := by
  obtain ⟨p, dp, rn, tl, sl, pv, w, rfl, r, q⟩ := h
  refine rd_ixL (j := 1) rfl (SqL.of r.run) rfl ⟨_, _, rfl, rfl, ⟨_, rfl, rn, _, 1, 1, rfl, rfl, r.run, ixN_n (n := 4) (j := 1) (by omega), ?_⟩⟩
  exact rd_ixL (j := 1) rfl (SqL.of upd_same) rfl ⟨_, _, rfl, rfl, q⟩
/-! ### rows -/
structure RowP (K : PySem.W.Frag) (n : Nat) (vs : List V) (H : Hp) (Q : VK) : Prop where
  ex : ∃ (p : Pg) (dp : Nat) (rn tl sl : Addr) (pv v mv : V) (w : WSt) (d : Nat) (met : List Flt) (s : Sms) (turn hand : Bool), vs = [.ref rn, v, .ref sl, mv, .int (d : Int)] ∧ RunSt K p dp H rn tl sl pv w ∧ Tp K H v (.tuple s.ds) ∧ Tp K H mv (metD met) ∧ WPre p dp (n + 1) d met turn hand (.row s) w ∧
    ∀ (v' : V) (o : Out) (w1 : WSt) (c : Nat) (H' : Hp), RnS p dp d met s w o w1 c → RunSt K p dp H' rn tl sl pv w1 → Tp K H' v' o.d → Kp (B3 rn tl sl) H H' → Q v' H'
def spRowed (K : PySem.W.Frag) (n : Nat) : Sp := fun vs H Q _ => RowP K n vs H Q
def QAny (_ : Sm) : Prop := True
def QWhl (s : Sm) : Prop := ∃ e a, s = .whl e a
def QTri (s : Sm) : Prop := ∃ a h, s = .tri a h
def QCln (s : Sm) : Prop := ∃ a b, s = .cln a b
theorem Out.on_w (o : Out) : decide (V.str o.w = V.str "on") = decide (o = .on) := by cases o <;> first | rfl | decide | simp [Out.w]
theorem Cost.add {m m' c c' : Nat} {o o' : Out} {w w1 w2 : WSt} (h : Cost m w o w1 c) (h' : Cost m' w1 o' w2 c') : Cost (m + m') w o' w2 (c + c') := by
  obtain ⟨a1, a2, a3, a4⟩ := h
  obtain ⟨b1, b2, b3, b4⟩ := h'
  exact ⟨by omega, by omega, b3, by omega⟩
abbrev N_law_rowed : List Str := ["_law_run", "_law_parts", "_law_slots", "_law_met_here", "_law_depth", "_law_part_here", "_law_end"]
theorem rd_law_rowed {n : Nat} (vs : List V) (H : Hp) (Q : VK) (E : XK) (h : spRowed K n vs H Q E) : t_law_rowed K (spWalk K QAny n) { nx := fun _ H' => Q .non H', rt := Q } (start N_law_rowed vs) H := by
  obtain ⟨p, dp, rn, tl, sl, pv, v, mv, w, d, met, ps, turn, hand, rfl, rs, tv, tm, pre, q⟩ := h.ex
  obtain ⟨pa, pxs, rfl, hP, hps⟩ := tv.tupE
  have wps : ps.Wf p.cs p.kinds.length turn hand := pre.wf
  refine ⟨_, rfl, pa, rfl, ⟨_, hP⟩, for_tup (K := K) (a := pa) (xs := pxs) (fun i σ H' => ∃ (r : Sms) (w1 : WSt) (c m : Nat) (v5 v6 : Option V), σ = [some (.ref rn), some (.ref pa), some (.ref sl), some mv, some (.int (d : Int)), v5, v6] ∧ RunSt K p dp H' rn tl sl pv w1 ∧ Kp (B3 rn tl sl) H H' ∧
      TpAll K H (pxs.drop i) r.ds ∧ r.Wf p.cs p.kinds.length turn hand ∧ r.dep ≤ ps.dep ∧ m + r.len = ps.len ∧ Cost m w .on w1 c ∧ InR w1.σ ∧ (∀ o w2 c2, RnS p dp d met r w1 o w2 c2 → RnS p dp d met ps w o w2 (c + c2)))
    ⟨ps, w, 0, 0, _, _, rfl, rs, Kp.refl _ _, by rw [List.drop_zero]; exact hps, wps, Nat.le_refl _, by simp, ⟨by simp, Int.le_refl _, .inl pre.left, by simp⟩, pre.inr, fun o w2 c2 h => by rw [Nat.zero_add]; exact h⟩ (fun i σ H' _ ⟨_, _, _, _, _, _, _, _, k', _⟩ => (rs.tk k').sqT hP) ?_ ?_⟩
  · rintro i x σ H4 hx ⟨r, w1, c, m, v5, v6, rfl, r4, k4, tr, wr, dr, lr, ct, ir, cont⟩
    obtain ⟨s, r', rfl, tx, tr'⟩ := sms_at tr hx
    obtain ⟨wa, wb⟩ : s.Wf p.cs p.kinds.length turn hand ∧ r'.Wf p.cs p.kinds.length turn hand := wr
    have dr2 : max s.dep r'.dep ≤ ps.dep := dr
    have lr2 : m + (s.len + r'.len) = ps.len := lr
    have tk4 := rs.tk k4
    refine ⟨_, rfl, _, rfl, _, rfl, _, rfl, _, rfl, pWalk r4 (tx.mono tk4) (tm.mono tk4) (pre.next ct (by simp) ir wa (by show s.dep + 1 ≤ ps.dep + 1; omega) (by show m + s.len ≤ ps.len; omega)) trivial fun v' o w2 c2 H5 hR hC hI hO r5 t5 k5 tk5 => ?_⟩
    obtain ⟨ea, er, rfl, hE, _⟩ := Out.tup t5
    by_cases ho : o = .on
    · subst ho
      exact r_ifF (pb_is (pb_wN (i := 6) rfl hE rfl) rfl) ⟨r', w2, c + c2, m + s.len, _, _, rfl, r5, k4.trans k5, tr', wb, by omega, by omega, ct.add hC, hI, fun o w3 c3 h => by rw [Nat.add_assoc]; exact cont _ _ _ (.next hR h)⟩
    · refine r_ifT (pb_is (pb_wN (i := 6) rfl hE rfl) (by rw [Out.on_w, decide_eq_false ho]; rfl)) ⟨_, rfl, ?_⟩
      exact q _ o w2 (c + c2) H5 (cont _ _ _ (.stop hR ho)) r5 t5 (k4.trans k5)
  · rintro σ H4 ⟨r, w1, c, m, v5, v6, rfl, r4, k4, tr, wr, dr, lr, ct, ir, cont⟩
    cases sms_end tr
    refine ⟨(by show 1 ≤ sizeLine; decide), fun p1 hp1 => ?_⟩
    exact q _ .on w1 (c + 0) _ (cont _ _ _ .nil) (r4.same (Same.new hp1)) (Tp.mk hp1 (.cons (.str _) .nil)) (k4.trans (Kp.new hp1))
abbrev N_law_cleaned : List Str := ["_law_run", "_law_one", "_law_slots", "_law_met_here", "_law_depth", "_law_end", "_law_last"]
theorem Out.over_w (o : Out) : inV (.str o.w) ([.str "dry", .str "deep"] : List V) = o.over := by cases o <;> first | decide | rfl
theorem rd_law_cleaned {n : Nat} (vs : List V) (H : Hp) (Q : VK) (E : XK) (h : spWalk K QCln (n + 1) vs H Q E) : t_law_cleaned K (spWalk K QAny n) { nx := fun _ H' => Q .non H', rt := Q } (start N_law_cleaned vs) H := by
  obtain ⟨p, dp, rn, tl, sl, pv, v, mv, w, d, met, s, turn, hand, rfl, rs, tv, tm, pre, ⟨s1, s2, rfl⟩, q⟩ := h.ex
  obtain ⟨a, x0, x1, x2, rfl, hT, h0, h1, h2⟩ := tv.tup3
  obtain ⟨wa, wb⟩ : s1.Wf p.cs p.kinds.length turn hand ∧ s2.Wf p.cs p.kinds.length turn hand := pre.wf
  refine ⟨_, rfl, rd_ixT (j := 1) rfl hT rfl ⟨_, rfl, _, rfl, _, rfl, pWalk rs h1 tm (pre.first wa (by show s1.dep + 1 ≤ max s1.dep s2.dep + 1; omega) (by show s1.len ≤ s1.len + 2 + s2.len + 1; omega)) trivial fun v1 o w1 c H1 hR hC hI hO r1 t1 k1 tk1 => ?_⟩⟩
  obtain ⟨ea, er, rfl, hE, _⟩ := Out.tup t1
  refine rd_ixT (i := 5) (j := 0) rfl hE rfl ⟨(by show 2 ≤ sizeLine; decide), fun p1 hp1 => ⟨p1, _, rfl, .inr (SqT.of upd_same), rfl, rfl, o.over, by rw [if_neg Bool.false_ne_true, Out.over_w], ?_⟩⟩
  have sN : Same H1 (L2.upd H1 p1 (.tup [.str "dry", .str "deep"])) := Same.new hp1
  refine ifB (fun e => ⟨_, rfl, q _ o w1 c _ (.clnX hR e) (r1.same sN) (t1.mono (Tk.same sN)) (k1.trans (Kp.same sN))⟩) (fun e => ?_)
  have tk2 := tk1.trans (Tk.same sN)
  refine ⟨_, rfl, rd_ixT (j := 2) rfl (tk2.sqT hT) rfl ⟨_, rfl, _, rfl, _, rfl, pWalk (r1.same sN) (h2.mono tk2) (tm.mono tk2) (pre.next hC (by intro z; subst z; cases e) hI wb (by show s2.dep + 1 ≤ max s1.dep s2.dep + 1; omega) (by show s1.len + s2.len ≤ s1.len + 2 + s2.len + 1; omega)) trivial fun v2 o2 w2 c2 H3 hR2 hC2 hI2 hO2 r3 t3 k3 tk3 => ?_⟩⟩
  obtain ⟨fa, fr, rfl, hF, _⟩ := Out.tup t3
  have kZ := (k1.trans (Kp.same sN)).trans k3
  have fin := Rn.cln hR e hR2
  by_cases ho : o2 = .on
  · subst ho
    exact r_ifT (pb_is (pb_w (i := 6) rfl hF rfl) rfl) ⟨_, rfl, q _ o w2 _ H3 fin r3 (t1.mono ((Tk.same sN).trans tk3)) kZ⟩
  · rw [if_neg ho] at fin
    exact r_ifF (pb_is (pb_w (i := 6) rfl hF rfl) (by rw [Out.on_w, decide_eq_false ho])) ⟨_, rfl, q _ o2 w2 _ H3 fin r3 t3 kZ⟩
abbrev N_law_turned : List Str := ["_law_run", "_law_one", "_law_slots", "_law_met_here", "_law_depth", "_law_end"]
theorem Out.go_w (o : Out) : inV (.str o.w) ([.str "on", .str "continue"] : List V) = decide (o = .on ∨ o = .cnt) := by cases o <;> first | decide | (simp [inV, Out.w]; decide)
theorem rd_law_turned {n : Nat} (vs : List V) (H : Hp) (Q : VK) (E : XK) (h : spWalk K QWhl (n + 1) vs H Q E) : t_law_turned K (spVal K 5) (spCountL K) (spWalk K QAny n) { nx := fun _ H' => Q .non H', rt := Q } (start N_law_turned vs) H := by
  obtain ⟨p, dp, rn, tl, sl, pv, v, mv, w, d, met, s, turn, hand, rfl, rs, tv, tm, pre, ⟨e, s1, rfl⟩, q⟩ := h.ex
  obtain ⟨a, x0, x1, x2, rfl, hT, h0, h1, h2⟩ := tv.tup3
  obtain ⟨⟨we, de⟩, wa⟩ : (e.Wf ∧ e.dep ≤ 5) ∧ s1.Wf p.cs p.kinds.length true hand := pre.wf
  refine ⟨fun m σ H' => ∃ (w1 : WSt) (v5 : Option V), σ = [some (.ref rn), some (.ref a), some (.ref sl), some mv, some (.int (d : Int)), v5] ∧ m = w1.left.toNat ∧ RunSt K p dp H' rn tl sl pv w1 ∧ Kp (B3 rn tl sl) H H' ∧ WPre p dp (n + 1) d met turn hand (.whl e s1) w1 ∧ (∀ o w2 c2, Rn p dp d met (.whl e s1) w1 o w2 c2 → ∃ c3, Rn p dp d met (.whl e s1) w o w2 c3),
    ⟨_, w, _, rfl, rfl, rs, Kp.refl _ _, pre, fun o w2 c2 h => ⟨_, h⟩⟩, ?_⟩
  rintro m σ H1 ⟨w1, v5, rfl, rfl, r1, k1, pre1, cont⟩
  have tk1 := rs.tk k1
  refine rd_ixT (j := 1) rfl (tk1.sqT hT) rfl ⟨_, rfl, x1, sl, e, w1.σ, rfl, h1.mono tk1, we, de, SqL.of r1.slo, pre1.inr, rfl, _, rfl, ?_⟩
  by_cases hz : e.val w1.σ = 0
  · refine ifF (by rw [hz]; rfl) ⟨(by show 1 ≤ sizeLine; decide), fun p1 hp1 => ?_⟩
    obtain ⟨c3, fin⟩ := cont _ _ _ (.whl0 hz)
    exact q _ .on w1 c3 _ fin (r1.same (Same.new hp1)) (Tp.mk hp1 (.cons (.str _) .nil)) (k1.trans (Kp.new hp1))
  refine ifT (by rw [decide_eq_false (fun z => hz (V.int.inj z))]; rfl) ⟨fun σ H' => ∃ m', m' < w1.left.toNat ∧ ∃ (w1 : WSt) (v5 : Option V), σ = [some (.ref rn), some (.ref a), some (.ref sl), some mv, some (.int (d : Int)), v5] ∧ m' = w1.left.toNat ∧ RunSt K p dp H' rn tl sl pv w1 ∧ Kp (B3 rn tl sl) H H' ∧ WPre p dp (n + 1) d met turn hand (.whl e s1) w1 ∧ (∀ o w2 c2, Rn p dp d met (.whl e s1) w1 o w2 c2 → ∃ c3, Rn p dp d met (.whl e s1) w o w2 c3), fun σ' H' h => h, ?_⟩
  refine ⟨_, rfl, p, dp, rn, tl, sl, pv, w1, rfl, r1, _, rfl, ?_⟩
  have rc := r1.count (i := w1.left - 1)
  have kc : Kp (B3 rn tl sl) H (L2.upd H1 rn (.lst [pv, .int (w1.left - 1), .int (dp : Int), .ref tl])) := k1.trans (Kp.upd (.inl rfl))
  generalize L2.upd H1 rn (.lst [pv, .int (w1.left - 1), .int (dp : Int), .ref tl]) = H2 at rc kc ⊢
  by_cases hl : 0 < w1.left
  · refine ifF (by rw [decide_eq_true (by omega)]; rfl) ?_
    have tk2 := rs.tk kc
    have preB : WPre p dp (n + 1) d met turn hand (.whl e s1) { w1 with left := w1.left - 1 } :=
      ⟨pre1.pw, pre1.wf, pre1.inr, pre1.mok, pre1.mfew, pre1.ddp, pre1.dps, pre1.dep, pre1.len, by show 0 ≤ w1.left - 1; omega, by have := pre1.bud; show (w1.told.length : Int) + _ + 2000 * (w1.left - 1 + 1) ≤ _; omega⟩
    refine ⟨_, rfl, rd_ixT (j := 2) rfl (tk2.sqT hT) rfl ⟨_, rfl, _, rfl, _, rfl, pWalk rc (h2.mono tk2) (tm.mono tk2) (preB.first (t := s1) (turn' := true) wa (by show s1.dep + 1 ≤ s1.dep + 1; omega) (by show s1.len ≤ e.len + 2 + s1.len + 1; omega)) trivial fun v2 o w2 c2 H3 hR hC hI hO r3 t3 k3 tk3 => ?_⟩⟩
    obtain ⟨ea, er, rfl, hE, _⟩ := Out.tup t3
    have k03 := kc.trans k3
    by_cases hb : o = .brk
    · subst hb
      refine r_ifT (pb_is (pb_w (i := 5) rfl hE rfl) rfl) ⟨(by show 1 ≤ sizeLine; decide), fun p1 hp1 => ?_⟩
      obtain ⟨c3, fin⟩ := cont _ _ _ (.whlB hz hl hR)
      exact q _ .on w2 c3 _ fin (r3.same (Same.new hp1)) (Tp.mk hp1 (.cons (.str _) .nil)) (k03.trans (Kp.new hp1))
    · refine r_ifF (pb_is (pb_w (i := 5) rfl hE rfl) (by cases o <;> first | rfl | exact absurd rfl hb)) ?_
      refine rd_ixT (i := 5) (j := 0) rfl hE rfl ⟨(by show 2 ≤ sizeLine; decide), fun p1 hp1 => ⟨p1, _, rfl, .inr (SqT.of upd_same), rfl, rfl, !decide (o = .on ∨ o = .cnt), by rw [if_pos rfl, Out.go_w], ?_⟩⟩
      have sN : Same H3 (L2.upd H3 p1 (.tup [.str "on", .str "continue"])) := Same.new hp1
      by_cases hg : o = .on ∨ o = .cnt
      · refine ifF (by rw [decide_eq_true hg]; rfl) ?_
        obtain ⟨a1, a2, a3, a4⟩ := hC
        replace a1 : (c2 : Int) ≤ s1.len + 2000 * ((w1.left - 1) - w2.left) := a1
        replace a2 : w2.left ≤ w1.left - 1 := a2
        replace a4 : w2.told.length ≤ w1.told.length + c2 := a4
        have l0 : 0 ≤ w2.left := a3.elim id fun z => by subst z; rcases hg with z | z <;> cases z
        have lw : s1.len ≤ 1900 := by have h9 : e.len + 2 + s1.len + 1 ≤ 1900 := pre1.len; omega
        refine ⟨w2.left.toNat, by omega, w2, _, rfl, rfl, r3.same sN, k03.trans (Kp.same sN), ⟨pre1.pw, pre1.wf, hI, pre1.mok, pre1.mfew, pre1.ddp, pre1.dps, pre1.dep, pre1.len, l0, by have := pre1.bud; omega⟩, fun o' w3 c3 h => cont _ _ _ (.whlN hz hl hR hg h)⟩
      · refine ifT (by rw [decide_eq_false hg]; rfl) ⟨_, rfl, ?_⟩
        obtain ⟨c3, fin⟩ := cont _ _ _ (.whlX hz hl hR (fun z => hg (.inl z)) (fun z => hg (.inr z)) hb)
        exact q _ o w2 c3 _ fin (r3.same sN) (t3.mono (Tk.same sN)) (k03.trans (Kp.same sN))
  · refine ifT (by rw [decide_eq_false (by omega)]; rfl) ⟨(by show 1 ≤ sizeLine; decide), fun p1 hp1 => ?_⟩
    obtain ⟨c3, fin⟩ := cont _ _ _ (.whlD hz (by omega))
    exact q _ .dry _ c3 _ fin (rc.same (Same.new hp1)) (Tp.mk hp1 (.cons (.str _) .nil)) (kc.trans (Kp.new hp1))
end
end Lp

/-! LwM: the law's walk: tries, calls, statements. -/
namespace Lp
open PySem PySem.Spec PyProof.Rows L2
def t_law_tried (K : PySem.W.Frag) (sp_law_does : Sp) (sp_law_met : Sp) : TS :=
  tSeq (tAsg (tCall sp_law_does [] E0 (tCons (tVar 0) (tCons (tOp (rIxT K) (tVar 1) (tC (.int 1))) (tCons (tVar 2) (tCons (tVar 3) (tCons (tVar 4) (tNil))))))) (gName 5)) (tSeq (tIfS (tTest (tOp rEq (tOp (rIxT K) (tVar 5) (tC (.int 0))) (tC (.str "fault")))) (tFor (iTup K (tOp (rIxT K) (tVar 1) (tC (.int 2)))) (gName 6) (tIfS (tB (tCall sp_law_met [] E0 (tCons (tOp (rIxT K) (tOp (rIxL K) (tVar 0) (tC (.int 0))) (tC (.int 0))) (tCons (tOp (rIxT K) (tVar 6) (tC (.int 0))) (tCons (tOp (rIxT K) (tVar 5) (tC (.int 1))) (tNil)))))) (tSeq (tDrop (tBM K "list" rAppend (tOp (rIxL K) (tVar 0) (tC (.int 3))) (tCons (tTup (tCons (tC (.str "met")) (tCons (tOp (rIxT K) (tVar 5) (tC (.int 1))) (tCons (tOp (rIxT K) (tVar 5) (tC (.int 2))) (tCons (tOp (rIxT K) (tVar 5) (tC (.int 3))) (tNil)))))) (tNil)))) (tSeq (tAsg (tOp (rIxT K) (tVar 5) (tC (.int 2))) (gSub (tVar 2) (tOp (rIxT K) (tVar 6) (tC (.int 1))) rSetL)) (tRet (tCall sp_law_does [] E0 (tCons (tVar 0) (tCons (tOp (rIxT K) (tVar 6) (tC (.int 2))) (tCons (tVar 2) (tCons (tOp (rCatA K) (tVar 3) (tTup (tCons (tVar 5) (tNil)))) (tCons (tVar 4) (tNil)))))))))) (tNext))) (tNext)) (tRet (tVar 5)))

section
variable {K : PySem.W.Frag}
theorem kindV_of {H : Hp} {v : V} {k : Option Nat} (h : Tp K H v (kindD k)) : v = kindV k := by
  cases k with
  | none => exact h.nonE
  | some j => exact h.intE
theorem catA_tp {H : Hp} {x y : V} {ds es : List PyData} {Q : VK} (hx : Tp K H x (.tuple ds)) (hy : Tp K H y (.tuple es)) (hz : ds.length + es.length ≤ 1000000) (q : ∀ v H', Tp K H' v (.tuple (ds ++ es)) → Same H H' → Q v H') : rCatA K x y H Q := by
  obtain ⟨a, xs, rfl, hX, txs⟩ := id hx.tupE
  obtain ⟨b, ys, rfl, hY, tys⟩ := id hy.tupE
  have lx := txs.length
  have ly := tys.length
  refine ⟨a, b, xs, ys, rfl, rfl, hX, hY, by have := sz_le1 (n := xs.length + ys.length) (by omega); exact this, fun e => ?_, fun e1 e => ?_, fun _ _ p hp => ?_⟩
  · subst e
    have : ds = [] := List.eq_nil_of_length_eq_zero lx.symm
    subst this
    exact q _ H hy (Same.refl _)
  · subst e
    have : es = [] := List.eq_nil_of_length_eq_zero ly.symm
    subst this
    rw [List.append_nil] at q
    exact q _ H hx (Same.refl _)
  · exact q _ _ (Tp.mk hp (txs.app tys)) (Same.new hp)
abbrev N_law_tried : List Str := ["_law_run", "_law_one", "_law_slots", "_law_met_here", "_law_depth", "_law_end", "_law_handler_here"]
theorem rd_law_tried {n : Nat} (vs : List V) (H : Hp) (Q : VK) (E : XK) (h : spWalk K QTri (n + 1) vs H Q E) : t_law_tried K (spWalk K QAny n) (spMetL K) { nx := fun _ H' => Q .non H', rt := Q } (start N_law_tried vs) H := by
  obtain ⟨p, dp, rn, tl, sl, pv, v, mv, w, d, met, s, turn, hand, rfl, rs, tv, tm, pre, ⟨s1, hs, rfl⟩, q⟩ := h.ex
  obtain ⟨a, x0, x1, x2, rfl, hT, h0, h1, h2⟩ := tv.tup3
  obtain ⟨ha, hxs, rfl, hHs, ths⟩ := h2.tupE
  obtain ⟨wa, wb⟩ : s1.Wf p.cs p.kinds.length turn hand ∧ hs.Wf p.cs p.kinds.length turn := pre.wf
  have hlen : s1.len + 1 + hs.len ≤ 1900 := pre.len
  refine ⟨_, rfl, rd_ixT (j := 1) rfl hT rfl ⟨_, rfl, _, rfl, _, rfl, pWalk rs h1 tm (pre.first wa (by show s1.dep + 1 ≤ max s1.dep hs.dep + 1; omega) (by show s1.len ≤ s1.len + 1 + hs.len; omega)) trivial fun v1 o w1 c H1 hR hC hI hO r1 t1 k1 tk1 => ?_⟩⟩
  obtain ⟨ea, er, rfl, hE, _⟩ := Out.tup t1
  by_cases hf : o.isFlt = true
  case neg =>
    have hf' : o.isFlt = false := by simpa using hf
    exact r_ifF (pb_is (pb_w (i := 5) rfl hE rfl) (by cases o <;> first | rfl | exact absurd rfl hf)) ⟨_, rfl, q _ o w1 _ _ (.tri hR hf') r1 t1 k1⟩
  cases o with
  | on | brk | cnt | ret | dry | deep => cases hf
  | flt f =>
    refine r_ifT (pb_is (pb_w (i := 5) rfl hE rfl) rfl) ?_
    obtain ⟨ea', e0, e1, e2, e3, z, hE', u0, u1, u2, u3⟩ := Tp.tup4 (show Tp K H1 (.ref ea) (.tuple [.str "fault", .int (f.k : Int), .int f.v, .tuple (f.tr.map .int)]) from t1)
    cases z
    cases u0.strE; cases u1.intE; cases u2.intE
    obtain ⟨fk, fv0, fv1, ftr⟩ : FltOk p.kinds.length dp d f := hO
    refine rd_ixT (j := 2) rfl (tk1.sqT hT) rfl ⟨ha, rfl, ⟨_, tk1.sqT hHs⟩, for_tup (K := K) (a := ha) (xs := hxs) (fun i σ H' => ∃ (r : Hds) (v6 : Option V) (off : Nat), σ = [some (.ref rn), some (.ref a), some (.ref sl), some mv, some (.int (d : Int)), some (.ref ea), v6] ∧ Same H1 H' ∧ TpAll K H (hxs.drop i) r.ds ∧
        hs.pick p.kinds f.k = (r.pick p.kinds f.k).map fun z => (z.1, z.2.1, z.2.2 + off))
      ⟨hs, _, 0, rfl, Same.refl _, by rw [List.drop_zero]; exact ths, by cases hs.pick p.kinds f.k <;> rfl⟩ (fun i σ H' _ ⟨_, _, _, _, s', _⟩ => s'.sqT (tk1.sqT hHs)) ?_ ?_⟩
    · rintro i x σ H2 hx ⟨r, v6, off, rfl, s2, tr, pk⟩
      obtain ⟨k, slt, tt, r', rfl, tx, tr'⟩ := hds_at tr hx
      have tk2 := tk1.trans (Tk.same s2)
      obtain ⟨y, y0, y1, y2, rfl, hY, z0, z1, z2⟩ := tx.tup3
      cases z1.intE
      obtain rfl := kindV_of z0
      have r2 := r1.same s2
      obtain ⟨pa, kv, fv, rfl, hP, tk_, tf_⟩ := Tp.tup2 (show Tp K H2 pv (.tuple [.tuple (p.kinds.map kindD), .tuple (p.funs.map funD)]) from r2.pt)
      obtain ⟨ka, kxs, rfl, hK, hks⟩ := tk_.tupE
      obtain rfl := kinds_of hks
      refine ⟨_, rfl, rn, _, ((0 : Nat) : Int), _, rfl, rfl, SqL.of r2.run, atI_nat rfl, pa, _, ((0 : Nat) : Int), _, rfl, rfl, hP, atI_nat rfl, rd_ixT (i := 6) (j := 0) rfl (tk2.sqT hY) rfl (rd_ixT (i := 5) (j := 1) rfl (s2.sqT hE') rfl ⟨ka, p.kinds, k, f.k, rfl, hK, pre.pw.wf.kinds, fk, by have := pre.pw.wf.k8; omega, fun H3 s3 => ⟨_, rfl, ?_⟩⟩)⟩
      have s13 := s2.trans s3
      have r3 := r2.same s3
      have tk3 := tk1.trans (Tk.same s13)
      rw [show (Hds.cons k slt tt r').pick p.kinds f.k = if takes p.kinds k f.k = true then some (slt, tt, 0) else (r'.pick p.kinds f.k).map fun z => (z.1, z.2.1, z.2.2 + (2 + tt.len + 2)) by rw [Hds.pick]] at pk
      refine ifB (fun ht => ?_) (fun ht => ?_)
      · rw [if_pos ht] at pk
        replace pk : hs.pick p.kinds f.k = some (slt, tt, 0 + off) := pk
        -- told
        obtain ⟨us, hus, lus, sayR⟩ : ∃ us, H3 tl = some (.lst us) ∧ us.length = w1.told.length ∧ True := by
          obtain ⟨us, h1, h2⟩ := r3.told
          exact ⟨us, h1, by rw [h2.length, List.length_map], trivial⟩
        refine ⟨_, rfl, rn, _, ((3 : Nat) : Int), _, rfl, rfl, SqL.of r3.run, atI_nat rfl, .inl ⟨rfl, _, SqL.of hus⟩, rd_ixT (i := 5) (j := 1) rfl (s13.sqT hE') rfl (rd_ixT (i := 5) (j := 2) rfl (s13.sqT hE') rfl (rd_ixT (i := 5) (j := 3) rfl (s13.sqT hE') rfl ⟨(by show 4 ≤ sizeLine; decide), fun p4 hp4 => ?_⟩))⟩
        have s14 : Same H1 (L2.upd H3 p4 (.tup [.str "met", .int (f.k : Int), .int f.v, e3])) := s13.trans (Same.new hp4)
        have r4 := r3.same (Same.new (o := .tup [.str "met", .int (f.k : Int), .int f.v, e3]) hp4)
        have tev : Tp K (L2.upd H3 p4 (.tup [.str "met", .int (f.k : Int), .int f.v, e3])) (.ref p4) (Ev.met f).d := Tp.mk hp4 (.cons (.str _) (.cons (.int _) (.cons (.int _) (.cons (u3.mono (Tk.same s13)) .nil))))
        generalize L2.upd H3 p4 (.tup [.str "met", .int (f.k : Int), .int f.v, e3]) = H4 at s14 r4 tev ⊢
        obtain ⟨us4, hus4, lus4, r5⟩ := r4.say tev
        have tb : w1.told.length < 1000000 := by
          obtain ⟨a1, a2, a3, a4⟩ := hC
          have hb := pre.bud
          have hb' : (w.told.length : Int) + (s1.len + 1 + hs.len : Nat) + 2000 * (w.left + 1) ≤ 500000 := hb
          have a30 : 0 ≤ w1.left := a3.elim id fun z => by cases z
          omega
        refine ⟨tl, us4, _, rfl, rfl, hus4, sz_lt1 (by omega), ?_⟩
        have tk45 : Tk H4 (L2.upd H4 tl (.lst (us4 ++ [.ref p4]))) := Tk.lst hus4
        have k45 : Kp (B3 rn tl sl) H4 (L2.upd H4 tl (.lst (us4 ++ [.ref p4]))) := Kp.upd (.inr (.inl rfl))
        generalize L2.upd H4 tl (.lst (us4 ++ [.ref p4])) = H5 at r5 tk45 k45 ⊢
        have tk15 := (Tk.same s14).trans tk45
        -- the slot
        have wz : slt < 8 ∧ tt.Wf p.cs p.kinds.length turn true := by
          have := Hds.pick_wf wb pk
          exact this
        have lz := Hds.pick_len pk
        have dz := Hds.pick_dep pk
        replace lz : (0 + off) + 2 + tt.len + 2 ≤ hs.len := lz
        replace dz : tt.dep ≤ hs.dep := dz
        refine rd_ixT (i := 5) (j := 2) rfl (tk15.sqT hE') rfl ⟨_, rfl, rd_ixT (i := 6) (j := 1) rfl ((tk1.trans tk15).sqT hY) rfl ⟨sl, _, (slt : Int), slt, rfl, rfl, r5.slo, ixN_n (by rw [List.length_map]; have := hI.1; show slt < w1.σ.length; omega), ?_⟩⟩
        have r6 := r5.set (k := slt) (i := f.v)
        have k56 : Kp (B3 rn tl sl) H5 (L2.upd H5 sl (.lst ((w1.σ.map V.int).set slt (.int f.v)))) := Kp.upd (.inr (.inr rfl))
        have tk56 : Tk H5 (L2.upd H5 sl (.lst ((w1.σ.map V.int).set slt (.int f.v)))) := Tk.lst r5.slo
        generalize L2.upd H5 sl (.lst ((w1.σ.map V.int).set slt (.int f.v))) = H6 at r6 k56 tk56 ⊢
        have tk16 := tk15.trans tk56
        have tkH6 := tk1.trans tk16
        refine ⟨_, rfl, rd_ixT (i := 6) (j := 2) rfl (tkH6.sqT hY) rfl ⟨_, rfl, _, rfl, _, rfl, (by show 1 ≤ sizeLine; decide), fun p7 hp7 => ?_⟩⟩
        refine catA_tp (ds := met.map Flt.d) (es := [f.d]) ((tm.mono tkH6).mono (Tk.new hp7)) (Tp.mk hp7 (.cons (t1.mono tk16) .nil)) (by rw [List.length_map]; have := pre.mfew; simp; omega) fun mv2 H8 tm2 s8 => ?_
        have s68 : Same H6 H8 := (Same.new hp7).trans s8
        have tkH8 := tkH6.trans (Tk.same s68)
        rw [show met.map Flt.d ++ [f.d] = (met ++ [f]).map Flt.d by simp] at tm2
        have k08 : Kp (B3 rn tl sl) H H8 := (((k1.trans (Kp.same s14)).trans k45).trans k56).trans (Kp.same s68)
        have pre2 : WPre p dp n d (met ++ [f]) turn true tt { w1 with σ := w1.σ.set slt f.v, told := w1.told ++ [.met f] } := by
          obtain ⟨a1, a2, a3, a4⟩ := hC
          have a30 : 0 ≤ w1.left := a3.elim id fun z => by cases z
          have hb : (w.told.length : Int) + (s1.len + 1 + hs.len : Nat) + 2000 * (w.left + 1) ≤ 500000 := pre.bud
          have hdp : max s1.dep hs.dep + 1 + 6 * (dp - d) ≤ n + 1 := pre.dep
          have hmf : met.length + (max s1.dep hs.dep + 1) ≤ 100 := pre.mfew
          refine ⟨pre.pw, wz.2, hI.set ⟨fv0, fv1⟩, ⟨fun y hy => ?_, fun _ => by simp⟩, by simp; omega, pre.ddp, pre.dps, by omega, by omega, a30, by simp; omega⟩
          rcases List.mem_append.mp hy with z | z
          · exact pre.mok.1 y z
          · have : y = f := by simpa using z
            rw [this]; exact ⟨fk, fv0, fv1, ftr⟩
        refine ⟨_, rfl, pWalk (r6.same s68) (z2.mono tkH8) tm2 pre2 trivial fun v9 o w2 c2 H9 hR2 hC2 hI2 hO2 r9 t9 k9 tk9 => ?_⟩
        exact q v9 o w2 _ H9 (.triC hR pk hR2) r9 t9 (k08.trans k9)
      · rw [if_neg (by rw [ht]; decide)] at pk
        refine ⟨r', _, off + (2 + tt.len + 2), rfl, s13, tr', ?_⟩
        rw [pk]
        cases r'.pick p.kinds f.k with
        | none => rfl
        | some z => simp only [Option.map_some]; rw [Nat.add_assoc, Nat.add_comm (2 + tt.len + 2) off]
    · rintro σ H2 ⟨r, v6, off, rfl, s2, tr, pk⟩
      cases hds_end tr
      exact ⟨_, rfl, q _ (.flt f) w1 c _ (.triX hR pk) (r1.same s2) (t1.mono (Tk.same s2)) (k1.trans (Kp.same s2))⟩
end
end Lp

/-! LwN: the law's walk: calls, statements, the whole. -/
namespace Lp
open PySem PySem.Spec PyProof.Rows L2
def t_law_called (K : PySem.W.Frag) (sp_law_does : Sp) : TS :=
  tSeq (tAsg (tOp rCat (tCB (rLstOf K) (tCons (tVar 2) (tNil))) (tLc (iRng1 (tCons (tOp rSbI (tC (.int 8)) (tCB (rLenQ K) (tCons (tVar 2) (tNil)))) (tNil))) (gName 5) (tYes) (tC (.int 0)) [5])) (gName 4)) (tSeq (tAsg (tCall sp_law_does [] E0 (tCons (tVar 0) (tCons (tOp (rIxT K) (tOp (rIxT K) (tOp (rIxT K) (tOp (rIxL K) (tVar 0) (tC (.int 0))) (tC (.int 1))) (tVar 1)) (tC (.int 1))) (tCons (tVar 4) (tCons (tTup (tNil)) (tCons (tVar 3) (tNil))))))) (gName 6)) (tSeq (tIfS (tTest (tOp rEq (tOp (rIxT K) (tVar 6) (tC (.int 0))) (tC (.str "on")))) (tRet (tTup (tCons (tC (.str "return")) (tCons (tC (.int 0)) (tNil))))) (tNext)) (tRet (tVar 6))))

def t_law_calls (K : PySem.W.Frag) (sp_law_value : Sp) (sp_law_counted : Sp) (sp_law_called : Sp) : TS :=
  tSeq (tAsg (tLc (iTup K (tOp (rIxT K) (tVar 1) (tC (.int 3)))) (gName 5) (tYes) (tCall sp_law_value [] E0 (tCons (tVar 5) (tCons (tVar 2) (tNil)))) [5]) (gName 4)) (tSeq (tIfS (tNot (tB (tCall sp_law_counted [] E0 (tCons (tVar 0) (tNil))))) (tRet (tTup (tCons (tC (.str "dry")) (tNil)))) (tNext)) (tSeq (tIfS (tTest (tOp rEq (tVar 3) (tOp (rIxL K) (tVar 0) (tC (.int 2))))) (tRet (tTup (tCons (tC (.str "deep")) (tNil)))) (tNext)) (tSeq (tAsg (tCall sp_law_called [] E0 (tCons (tVar 0) (tCons (tOp (rIxT K) (tVar 1) (tC (.int 2))) (tCons (tVar 4) (tCons (tOp rAdI (tVar 3) (tC (.int 1))) (tNil)))))) (gName 6)) (tSeq (tIfS (tTest (tOp rEq (tOp (rIxT K) (tVar 6) (tC (.int 0))) (tC (.str "return")))) (tSeq (tAsg (tOp (rIxT K) (tVar 6) (tC (.int 1))) (gSub (tVar 2) (tOp (rIxT K) (tVar 1) (tC (.int 1))) rSetL)) (tRet (tTup (tCons (tC (.str "on")) (tNil))))) (tNext)) (tSeq (tIfS (tTest (tOp rEq (tOp (rIxT K) (tVar 6) (tC (.int 0))) (tC (.str "fault")))) (tRet (tTup (tCons (tC (.str "fault")) (tCons (tOp (rIxT K) (tVar 6) (tC (.int 1))) (tCons (tOp (rIxT K) (tVar 6) (tC (.int 2))) (tCons (tOp (rCatA K) (tOp (rIxT K) (tVar 6) (tC (.int 3))) (tTup (tCons (tOp (rIxT K) (tVar 1) (tC (.int 4))) (tNil)))) (tNil))))))) (tNext)) (tRet (tVar 6)))))))

def t_law_does (K : PySem.W.Frag) (sp_law_value : Sp) (sp_law_rowed : Sp) (sp_law_does : Sp) (sp_law_turned : Sp) (sp_law_calls : Sp) (sp_law_tried : Sp) (sp_law_cleaned : Sp) : TS :=
  tSeq (tAsg (tOp (rIxT K) (tVar 1) (tC (.int 0))) (gName 5)) (tSeq (tIfS (tTest (tOp rEq (tVar 5) (tC (.str "say")))) (tSeq (tDrop (tBM K "list" rAppend (tOp (rIxL K) (tVar 0) (tC (.int 3))) (tCons (tTup (tCons (tC (.str "say")) (tCons (tCall sp_law_value [] E0 (tCons (tOp (rIxT K) (tVar 1) (tC (.int 1))) (tCons (tVar 2) (tNil)))) (tNil)))) (tNil)))) (tRet (tTup (tCons (tC (.str "on")) (tNil))))) (tNext)) (tSeq (tIfS (tTest (tOp rEq (tVar 5) (tC (.str "set")))) (tSeq (tAsg (tCall sp_law_value [] E0 (tCons (tOp (rIxT K) (tVar 1) (tC (.int 2))) (tCons (tVar 2) (tNil)))) (gSub (tVar 2) (tOp (rIxT K) (tVar 1) (tC (.int 1))) rSetL)) (tRet (tTup (tCons (tC (.str "on")) (tNil))))) (tNext)) (tSeq (tIfS (tTest (tOp rEq (tVar 5) (tC (.str "row")))) (tRet (tCall sp_law_rowed [] E0 (tCons (tVar 0) (tCons (tOp (rIxT K) (tVar 1) (tC (.int 1))) (tCons (tVar 2) (tCons (tVar 3) (tCons (tVar 4) (tNil)))))))) (tNext)) (tSeq (tIfS (tTest (tOp rEq (tVar 5) (tC (.str "if")))) (tRet (tCall sp_law_does [] E0 (tCons (tVar 0) (tCons (tOp (rIxT K) (tVar 1) (tOp rAdI (tC (.int 2)) (tCB rInt1 (tCons (tOp rEq (tCall sp_law_value [] E0 (tCons (tOp (rIxT K) (tVar 1) (tC (.int 1))) (tCons (tVar 2) (tNil)))) (tC (.int 0))) (tNil))))) (tCons (tVar 2) (tCons (tVar 3) (tCons (tVar 4) (tNil)))))))) (tNext)) (tSeq (tIfS (tTest (tOp rEq (tVar 5) (tC (.str "while")))) (tRet (tCall sp_law_turned [] E0 (tCons (tVar 0) (tCons (tVar 1) (tCons (tVar 2) (tCons (tVar 3) (tCons (tVar 4) (tNil)))))))) (tNext)) (tSeq (tIfS (tTest (tOp rEq (tVar 5) (tC (.str "return")))) (tRet (tTup (tCons (tC (.str "return")) (tCons (tCall sp_law_value [] E0 (tCons (tOp (rIxT K) (tVar 1) (tC (.int 1))) (tCons (tVar 2) (tNil)))) (tNil))))) (tNext)) (tSeq (tIfS (tTest (tOp rEq (tVar 5) (tC (.str "raise")))) (tRet (tTup (tCons (tC (.str "fault")) (tCons (tOp (rIxT K) (tVar 1) (tC (.int 1))) (tCons (tCall sp_law_value [] E0 (tCons (tOp (rIxT K) (tVar 1) (tC (.int 2))) (tCons (tVar 2) (tNil)))) (tCons (tTup (tCons (tOp (rIxT K) (tVar 1) (tC (.int 3))) (tNil))) (tNil))))))) (tNext)) (tSeq (tIfS (tTest (tOp rEq (tVar 5) (tC (.str "again")))) (tRet (tOp (rIxT K) (tVar 3) (tUn rNeg (tC (.int 1))))) (tNext)) (tSeq (tIfS (tTest (tOp rEq (tVar 5) (tC (.str "call")))) (tRet (tCall sp_law_calls [] E0 (tCons (tVar 0) (tCons (tVar 1) (tCons (tVar 2) (tCons (tVar 4) (tNil))))))) (tNext)) (tSeq (tIfS (tTest (tOp rEq (tVar 5) (tC (.str "try")))) (tRet (tCall sp_law_tried [] E0 (tCons (tVar 0) (tCons (tVar 1) (tCons (tVar 2) (tCons (tVar 3) (tCons (tVar 4) (tNil)))))))) (tNext)) (tSeq (tIfS (tTest (tOp rEq (tVar 5) (tC (.str "clean")))) (tRet (tCall sp_law_cleaned [] E0 (tCons (tVar 0) (tCons (tVar 1) (tCons (tVar 2) (tCons (tVar 3) (tCons (tVar 4) (tNil)))))))) (tNext)) (tRet (tVar 1)))))))))))))

section
variable {K : PySem.W.Frag}
theorem tp_ints {H : Hp} : ∀ l : List Int, TpAll K H (l.map V.int) (l.map PyData.int)
  | [] => .nil
  | i :: r => .cons (.int _) (tp_ints r)
theorem ints_of {H : Hp} : ∀ {l : List Int} {vs : List V}, TpAll K H vs (l.map PyData.int) → vs = l.map V.int
  | [], _, h => h.nilE
  | i :: r, _, h => by
    obtain ⟨v, vs, rfl, h1, h2⟩ := TpAll.consE h
    rw [h1.intE, ints_of h2]; rfl
/-- a call's end, as the function hands it back -/
def calledEnd (o : Out) : Out := if o = .on then .ret 0 else o
structure CalledP (K : PySem.W.Frag) (n : Nat) (vs : List V) (H : Hp) (Q : VK) : Prop where
  ex : ∃ (p : Pg) (dp : Nat) (rn tl sl : Addr) (pv : V) (w : WSt) (d f : Nat) (fn : Nat × Sm) (ns : List Int) (nl : Addr), vs = [.ref rn, .int (f : Int), .ref nl, .int (d : Int)] ∧ RunSt K p dp H rn tl sl pv w ∧ H nl = some (.lst (ns.map V.int)) ∧ ns.length ≤ 3 ∧ p.funs[f]? = some fn ∧ WPre p dp n d [] false false fn.2 ⟨slotsFor ns, w.left, w.told⟩ ∧
    ∀ (v' : V) (o : Out) (w1 : WSt) (c : Nat) (H' : Hp), Rn p dp d [] fn.2 ⟨slotsFor ns, w.left, w.told⟩ o w1 c → OutOk p.kinds.length dp d false o → RunSt K p dp H' rn tl sl pv ⟨w.σ, w1.left, w1.told⟩ → Tp K H' v' (calledEnd o).d → Kp (B3 rn tl sl) H H' → Q v' H'
def spCalledL (K : PySem.W.Frag) (n : Nat) : Sp := fun vs H Q _ => CalledP K n vs H Q
theorem slots_eq (ns : List Int) : ns ++ (List.range (8 - ns.length)).map (fun _ => (0 : Int)) = slotsFor ns := by
  unfold slotsFor
  congr 1
  rw [List.map_const']
  simp
abbrev N_law_called : List Str := ["_law_run", "_law_number", "_law_numbers_here", "_law_depth", "_law_slots", "_law_k", "_law_end"]
theorem rd_law_called {n : Nat} (vs : List V) (H : Hp) (Q : VK) (E : XK) (h : spCalledL K n vs H Q E) : t_law_called K (spWalk K QAny n) { nx := fun _ H' => Q .non H', rt := Q } (start N_law_called vs) H := by
  obtain ⟨p, dp, rn, tl, sl, pv, w, d, f, fn, ns, nl, rfl, rs, hn, hl, hf, pre, q⟩ := h.ex
  refine ⟨_, rfl, nl, _, rfl, .inl (SqL.of hn), fun l1 hl1 => ?_⟩
  have s1 : Same H (L2.upd H l1 (.lst (ns.map V.int))) := Same.new hl1
  have hl1' : L2.upd H l1 (.lst (ns.map V.int)) l1 = some (.lst (ns.map V.int)) := upd_same
  generalize L2.upd H l1 (.lst (ns.map V.int)) = H1 at s1 hl1' ⊢
  refine ⟨_, rfl, nl, _, rfl, .inl (SqL.of (s1 _ _ hn)), _, _, rfl, rfl, _, rfl, by rw [List.length_map]; omega, by rw [List.length_map]; omega, fun D hD => lc_range (lo := 0) (n := (8 - ((ns.map V.int).length : Int)).toNat) (fun i H' => H' D = some (.lst (((List.range i).map fun _ => (0 : Int)).map V.int)) ∧ Same H1 H')
    ⟨upd_same, Same.new hD⟩ ?_ ?_⟩
  · rintro i H2 hi ⟨hv, s2⟩
    have hi8 : i < 8 := by rw [List.length_map] at hi; omega
    refine ⟨rfl, _, hv, sz_lt1 (by simp; omega), ?_, fun b o e => by rw [upd_ne (ne_of_none e hD)]; exact s2 b o e⟩
    rw [upd_same, List.range_succ, List.map_append, List.map_append]; rfl
  · rintro H2 ⟨hv, s2⟩
    have e8 : (8 - ((ns.map V.int).length : Int)).toNat = 8 - ns.length := by rw [List.length_map]; omega
    rw [e8] at hv
    refine cat_new (K := K) (ds := ns.map .int) (es := ((List.range (8 - ns.length)).map fun _ => (0 : Int)).map .int) (s2 _ _ hl1') hv (tp_ints _) (tp_ints _) (by simp; omega) fun r us H3 hr hus t3 s3 => ?_
    rw [← List.map_append, slots_eq] at t3
    obtain rfl := ints_of t3
    have s03 := (s1.trans s2).trans s3
    have r3 := rs.same s03
    have sN := s03
    obtain ⟨pa, kv, fv, rfl, hP, tk_, tf_⟩ := Tp.tup2 (show Tp K H3 pv (.tuple [.tuple (p.kinds.map kindD), .tuple (p.funs.map funD)]) from r3.pt)
    obtain ⟨fa, fxs, rfl, hF, tfs⟩ := tf_.tupE
    obtain ⟨fx, hfx, tfx⟩ := tfs.get' (d := funD fn) (by rw [List.getElem?_map, hf]; rfl)
    obtain ⟨fxa, y0, y1, rfl, hX, z0, z1⟩ := Tp.tup2 (show Tp K H3 fx (.tuple [.int (fn.1 : Int), fn.2.d]) from tfx)
    have rH : H rn ≠ none := by rw [rs.run]; simp
    have tH : H tl ≠ none := by obtain ⟨us, h1, _⟩ := rs.told; rw [h1]; simp
    have sH : H sl ≠ none := by rw [rs.slo]; simp
    have hr0 : H r = none := ((s1.trans s2).free hr)
    refine ⟨_, rfl, _, rfl, rn, _, ((0 : Nat) : Int), _, rfl, rfl, SqL.of r3.run, atI_nat rfl, pa, _, ((1 : Nat) : Int), _, rfl, rfl, hP, atI_nat rfl, _, rfl, fa, fxs, (f : Int), _, rfl, rfl, hF, atI_nat hfx, fxa, _, ((1 : Nat) : Int), _, rfl, rfl, hX, atI_nat rfl, _, rfl, (by show 0 ≤ sizeLine; decide), fun p1 hp1 => ⟨_, rfl, ?_⟩⟩
    have s4 : Same H3 (L2.upd H3 p1 (.tup [])) := Same.new hp1
    have tmt : Tp K (L2.upd H3 p1 (.tup [])) (.ref p1) (metD []) := Tp.mk hp1 .nil
    generalize L2.upd H3 p1 (.tup []) = H4 at s4 tmt ⊢
    have r4 := r3.same s4
    have rr : RunSt K p dp H4 rn tl r (.ref pa) ⟨slotsFor ns, w.left, w.told⟩ := ⟨r4.run, r4.told, s4 _ _ hus, r4.pt, r4.n1, fun e => rH (by rw [e]; exact hr0), fun e => tH (by rw [e]; exact hr0)⟩
    refine pWalk rr (z1.mono (Tk.same s4)) tmt pre trivial fun v' o w1 c H5 hR hC hI hO r5 t5 k5 tk5 => ?_
    have slr : ¬ B3 rn tl r sl := by
      rintro (z | z | z)
      · exact rs.n2 z.symm
      · exact rs.n3 z.symm
      · exact sH (by rw [z]; exact hr0)
    have k05 : Kp (B3 rn tl sl) H H5 := fun a o' e nb => k5 _ _ (s4 _ _ (s03 _ _ e)) (by
      rintro (z | z | z)
      · exact nb (.inl z)
      · exact nb (.inr (.inl z))
      · rw [z] at e; rw [hr0] at e; cases e)
    have rZ : RunSt K p dp H5 rn tl sl (.ref pa) ⟨w.σ, w1.left, w1.told⟩ := ⟨r5.run, r5.told, k5 _ _ r4.slo slr, r5.pt, rs.n1, rs.n2, rs.n3⟩
    obtain ⟨ea, er, rfl, hE, _⟩ := Out.tup t5
    by_cases ho : o = .on
    · subst ho
      refine r_ifT (pb_is (pb_w (i := 6) rfl hE rfl) rfl) ⟨(by show 2 ≤ sizeLine; decide), fun p2 hp2 => ?_⟩
      exact q _ .on w1 c _ hR hO (rZ.same (Same.new hp2)) (Tp.mk hp2 (.cons (.str _) (.cons (.int _) .nil))) (k05.trans (Kp.new hp2))
    · refine r_ifF (pb_is (pb_w (i := 6) rfl hE rfl) (by rw [Out.on_w, decide_eq_false ho])) ⟨_, rfl, ?_⟩
      exact q _ o w1 c _ hR hO rZ (by rw [calledEnd, if_neg ho]; exact t5) k05
/-! ### _law_calls -/
structure CallsP (K : PySem.W.Frag) (n : Nat) (vs : List V) (H : Hp) (Q : VK) : Prop where
  ex : ∃ (p : Pg) (dp : Nat) (rn tl sl : Addr) (pv v : V) (w : WSt) (d : Nat) (met : List Flt) (k f : Nat) (ps : List Ex) (m : Int) (turn hand : Bool), vs = [.ref rn, v, .ref sl, .int (d : Int)] ∧ RunSt K p dp H rn tl sl pv w ∧ Tp K H v (Sm.call k f ps m).d ∧ WPre p dp (n + 1) d met turn hand (.call k f ps m) w ∧
    ∀ (v' : V) (o : Out) (w1 : WSt) (c : Nat) (H' : Hp), Rn p dp d met (.call k f ps m) w o w1 c → RunSt K p dp H' rn tl sl pv w1 → Tp K H' v' o.d → Kp (B3 rn tl sl) H H' → Q v' H'
def spCallsL (K : PySem.W.Frag) (n : Nat) : Sp := fun vs H Q _ => CallsP K n vs H Q
theorem pCalled {n : Nat} {H : Hp} {Q : VK} {p : Pg} {dp : Nat} {rn tl sl : Addr} {pv : V} {w : WSt} {d f : Nat} {fn : Nat × Sm} {ns : List Int} {nl : Addr} {di : Int} (hd : di = ((d : Nat) : Int)) (r : RunSt K p dp H rn tl sl pv w) (hn : H nl = some (.lst (ns.map V.int))) (hl : ns.length ≤ 3) (hf : p.funs[f]? = some fn) (pre : WPre p dp n d [] false false fn.2 ⟨slotsFor ns, w.left, w.told⟩)
    (q : ∀ (v' : V) (o : Out) (w1 : WSt) (c : Nat) (H' : Hp), Rn p dp d [] fn.2 ⟨slotsFor ns, w.left, w.told⟩ o w1 c → OutOk p.kinds.length dp d false o → RunSt K p dp H' rn tl sl pv ⟨w.σ, w1.left, w1.told⟩ → Tp K H' v' (calledEnd o).d → Kp (B3 rn tl sl) H H' → Q v' H') : spCalledL K n [.ref rn, .int (f : Int), .ref nl, .int di] H Q E0 := by
  subst hd
  exact ⟨p, dp, rn, tl, sl, pv, w, d, f, fn, ns, nl, rfl, r, hn, hl, hf, pre, q⟩
abbrev N_law_calls : List Str := ["_law_run", "_law_one", "_law_slots", "_law_depth", "_law_numbers_here", "_law_part_here", "_law_end"]
theorem rd_law_calls {n : Nat} (vs : List V) (H : Hp) (Q : VK) (E : XK) (h : spCallsL K n vs H Q E) : t_law_calls K (spVal K 5) (spCountL K) (spCalledL K n) { nx := fun _ H' => Q .non H', rt := Q } (start N_law_calls vs) H := by
  obtain ⟨p, dp, rn, tl, sl, pv, v, w, d, met, k, f, ps, m, turn, hand, rfl, rs, tv, pre, q⟩ := h.ex
  obtain ⟨a, x0, x1, x2, x3, x4, rfl, hT, h0, h1, h2, h3, h4⟩ := tv.tup5
  cases h1.intE; cases h2.intE; cases h4.intE
  obtain ⟨pa, pxs, rfl, hP, hps⟩ := h3.tupE
  have lpx : pxs.length = ps.length := by rw [hps.length, List.length_map]
  obtain ⟨k8, hcs, lp, wps, m0, m1⟩ : k < 8 ∧ p.cs[f]? = some ps.length ∧ ps.length ≤ 3 ∧ (∀ e ∈ ps, e.Wf ∧ e.dep ≤ 5) ∧ 0 ≤ m ∧ m < 1000 := pre.wf
  obtain ⟨fn, hfn⟩ : ∃ fn, p.funs[f]? = some fn := by
    unfold Pg.cs at hcs
    rw [List.getElem?_map] at hcs
    cases e : p.funs[f]? with
    | none => rw [e] at hcs; cases hcs
    | some fn => exact ⟨fn, rfl⟩
  refine rd_ixT (j := 3) rfl hT rfl ⟨pa, rfl, ⟨_, hP⟩, fun D hD => lc_tup (K := K) (a := pa) (xs := pxs) (fun i H' => H' D = some (.lst (((ps.take i).map (Ex.val w.σ)).map V.int)) ∧ Same H H') ⟨upd_same, Same.new hD⟩ (fun i H' _ ⟨_, s'⟩ => s'.sqT hP) ?_ ?_⟩
  · rintro i x H1 hx ⟨hv, s1⟩
    obtain ⟨de, hde, te⟩ := hps.get hx
    rw [List.getElem?_map] at hde
    cases ee : ps[i]? with
    | none => rw [ee] at hde; cases hde
    | some e =>
      rw [ee] at hde
      obtain rfl : e.d = de := Option.some.inj hde
      obtain ⟨we, dd⟩ := wps e (List.mem_of_getElem? ee)
      refine ⟨rfl, _, rfl, _, rfl, x, sl, e, w.σ, rfl, te.mono (Tk.same s1), we, dd, SqL.of (s1 _ _ rs.slo), pre.inr, _, hv, sz_lt1 (by simp; omega), ?_, fun b o e => by rw [upd_ne (ne_of_none e hD)]; exact s1 b o e⟩
      rw [upd_same, List.take_succ, ee, List.map_append, List.map_append]; rfl
  rintro H1 ⟨hv, s1⟩
  rw [List.take_of_length_le (by omega)] at hv
  have r1 := rs.same s1
  refine ⟨_, rfl, p, dp, rn, tl, sl, pv, w, rfl, r1, _, rfl, ?_⟩
  have rc := r1.count (i := w.left - 1)
  have nD : rn ≠ D := ne_of_none rs.run hD
  have hv2 : L2.upd H1 rn (.lst [pv, .int (w.left - 1), .int (dp : Int), .ref tl]) D = some (.lst ((ps.map (Ex.val w.σ)).map V.int)) := by rw [upd_ne nD.symm]; exact hv
  have kc : Kp (B3 rn tl sl) H (L2.upd H1 rn (.lst [pv, .int (w.left - 1), .int (dp : Int), .ref tl])) := (Kp.same s1).trans (Kp.upd (.inl rfl))
  generalize L2.upd H1 rn (.lst [pv, .int (w.left - 1), .int (dp : Int), .ref tl]) = H2 at rc kc hv2 ⊢
  have tk2 := rs.tk kc
  by_cases hl : 0 < w.left
  case neg =>
    refine ifT (by rw [decide_eq_false (by omega)]; rfl) ⟨(by show 1 ≤ sizeLine; decide), fun p1 hp1 => ?_⟩
    exact q _ .dry _ _ _ (.callD (by omega)) (rc.same (Same.new hp1)) (Tp.mk hp1 (.cons (.str _) .nil)) (kc.trans (Kp.new hp1))
  refine ifF (by rw [decide_eq_true (by omega)]; rfl) ?_
  refine ⟨_, rfl, rd_ixL (j := 2) rfl (SqL.of rc.run) rfl ⟨rfl, _, rfl, ?_⟩⟩
  by_cases hd : d = dp
  · subst hd
    refine ifT (dT rfl) ⟨(by show 1 ≤ sizeLine; decide), fun p1 hp1 => ?_⟩
    exact q _ .deep _ _ _ (.callP hl rfl) (rc.same (Same.new hp1)) (Tp.mk hp1 (.cons (.str _) .nil)) (kc.trans (Kp.new hp1))
  refine ifF (dF (fun z => hd (by have := V.int.inj z; omega))) ?_
  have hfm := List.mem_of_getElem? hfn
  have lenf := pre.pw.len fn hfm
  have preF : WPre p dp n (d + 1) [] false false fn.2 ⟨slotsFor (ps.map (Ex.val w.σ)), w.left - 1, w.told⟩ := by
    have hb : (w.told.length : Int) + (exsLen ps + 2 : Nat) + 2000 * (w.left + 1) ≤ 500000 := pre.bud
    have hdp : 1 + 6 * (dp - d) ≤ n + 1 := pre.dep
    have hdd := pre.ddp
    have depf := pre.pw.dep fn hfm
    refine ⟨pre.pw, pre.pw.wf.body fn hfm, slotsFor_in (by simp; omega) (fun y hy => ?_), ⟨(fun _ z => nomatch z), (fun z => nomatch z)⟩, by simp; omega, by omega, pre.dps, by omega, lenf, by show 0 ≤ w.left - 1; omega, by show (w.told.length : Int) + _ + 2000 * (w.left - 1 + 1) ≤ _; omega⟩
    obtain ⟨e, he, rfl⟩ := List.mem_map.mp hy
    exact Ex.val_in pre.inr (wps e he).1
  refine ⟨_, rfl, rd_ixT (j := 2) rfl (tk2.sqT hT) rfl ⟨_, rfl, _, rfl, _, _, rfl, rfl, pCalled (d := d + 1) (by simp) rc hv2 (by simp; omega) hfn preF fun v' o w1 c H3 hR hO r3 t3 k3 => ?_⟩⟩
  have k03 := kc.trans k3
  have tk3 := rs.tk k03
  have fin := Rn.call (met := met) (k := k) (m := m) hl hd hfn hR
  obtain ⟨ea, er, rfl, hE, he⟩ := Out.tup t3
  cases o with
  | brk => cases hO
  | cnt => cases hO
  | on =>
    obtain ⟨e1, er', rfl, z1, _⟩ := TpAll.consE (show TpAll K H3 er [.int 0] from he)
    cases z1.intE
    refine r_ifT (pb_is (pb_w (i := 6) rfl hE rfl) rfl) (rd_ixT (i := 6) (j := 1) rfl hE rfl ⟨_, rfl, rd_ixT (j := 1) rfl (tk3.sqT hT) rfl ⟨sl, _, (k : Int), k, rfl, rfl, r3.slo, ixN_n (by rw [List.length_map]; have := pre.inr.1; show k < w.σ.length; omega), ?_⟩⟩)
    refine ⟨(by show 1 ≤ sizeLine; decide), fun p4 hp4 => ?_⟩
    exact q _ .on _ _ _ fin ((r3.set (k := k) (i := 0)).same (Same.new hp4)) (Tp.mk hp4 (.cons (.str _) .nil)) ((k03.trans (Kp.upd (.inr (.inr rfl)))).trans (Kp.new hp4))
  | ret i =>
    obtain ⟨e1, er', rfl, z1, _⟩ := TpAll.consE (show TpAll K H3 er [.int i] from he)
    cases z1.intE
    refine r_ifT (pb_is (pb_w (i := 6) rfl hE rfl) rfl) (rd_ixT (i := 6) (j := 1) rfl hE rfl ⟨_, rfl, rd_ixT (j := 1) rfl (tk3.sqT hT) rfl ⟨sl, _, (k : Int), k, rfl, rfl, r3.slo, ixN_n (by rw [List.length_map]; have := pre.inr.1; show k < w.σ.length; omega), ?_⟩⟩)
    refine ⟨(by show 1 ≤ sizeLine; decide), fun p4 hp4 => ?_⟩
    exact q _ .on _ _ _ fin ((r3.set (k := k) (i := i)).same (Same.new hp4)) (Tp.mk hp4 (.cons (.str _) .nil)) ((k03.trans (Kp.upd (.inr (.inr rfl)))).trans (Kp.new hp4))
  | flt g =>
    obtain ⟨e1, r1', rfl, z1, he⟩ := TpAll.consE (show TpAll K H3 er [.int (g.k : Int), .int g.v, .tuple (g.tr.map .int)] from he)
    obtain ⟨e2, r2', rfl, z2, he⟩ := TpAll.consE he
    obtain ⟨e3, r3', rfl, z3, he⟩ := TpAll.consE he
    cases he.nilE
    cases z1.intE; cases z2.intE
    refine r_ifF (pb_is (pb_w (i := 6) rfl hE rfl) rfl) (r_ifT (pb_is (pb_w (i := 6) rfl hE rfl) rfl) ?_)
    refine rd_ixT (i := 6) (j := 1) rfl hE rfl (rd_ixT (i := 6) (j := 2) rfl hE rfl (rd_ixT (i := 6) (j := 3) rfl hE rfl (rd_ixT (j := 4) rfl (tk3.sqT hT) rfl ⟨(by show 1 ≤ sizeLine; decide), fun p4 hp4 => ?_⟩)))
    refine catA_tp (ds := g.tr.map .int) (es := [.int m]) (z3.mono (Tk.new hp4)) (Tp.mk hp4 (.cons (.int _) .nil)) (by obtain ⟨_, _, _, hh⟩ := hO; have := pre.dps; simp; omega) fun tv2 H5 t5 s5 => ⟨(by show 4 ≤ sizeLine; decide), fun p6 hp6 => ?_⟩
    have s35 : Same H3 H5 := (Same.new hp4).trans s5
    rw [show g.tr.map PyData.int ++ [.int m] = (g.tr ++ [m]).map .int by simp] at t5
    exact q _ (.flt { g with tr := g.tr ++ [m] }) _ _ _ fin ((r3.same s35).same (Same.new hp6)) (Tp.mk hp6 (.cons (.str _) (.cons (.int _) (.cons (.int _) (.cons t5 .nil))))) ((k03.trans (Kp.same s35)).trans (Kp.new hp6))
  | dry =>
    exact r_ifF (pb_is (pb_w (i := 6) rfl hE rfl) rfl) (r_ifF (pb_is (pb_w (i := 6) rfl hE rfl) rfl) ⟨_, rfl, q _ .dry _ _ _ fin r3 t3 k03⟩)
  | deep =>
    exact r_ifF (pb_is (pb_w (i := 6) rfl hE rfl) rfl) (r_ifF (pb_is (pb_w (i := 6) rfl hE rfl) rfl) ⟨_, rfl, q _ .deep _ _ _ fin r3 t3 k03⟩)
/-! ### _law_does -/
abbrev N_law_does : List Str := ["_law_run", "_law_one", "_law_slots", "_law_met_here", "_law_depth", "_law_word"]
theorem rd_law_does {n : Nat} (vs : List V) (H : Hp) (Q : VK) (E : XK) (h : spWalk K QAny (n + 1) vs H Q E) : t_law_does K (spVal K 5) (spRowed K n) (spWalk K QAny n) (spWalk K QWhl (n + 1)) (spCallsL K n) (spWalk K QTri (n + 1)) (spWalk K QCln (n + 1)) { nx := fun _ H' => Q .non H', rt := Q } (start N_law_does vs) H := by
  obtain ⟨p, dp, rn, tl, sl, pv, v, mv, w, d, met, s, turn, hand, rfl, rs, tv, tm, pre, _, q⟩ := h.ex
  have tb : w.told.length < 1000000 := by have := pre.bud; have := pre.left; omega
  cases s with
  | say e =>
    obtain ⟨a, x0, x1, rfl, hT, h0, h1⟩ := tv.tup2
    cases h0.strE
    obtain ⟨we, de⟩ : e.Wf ∧ e.dep ≤ 5 := pre.wf
    refine rd_ixT (j := 0) rfl hT rfl (r_ifT (pb_is (pb_eqS rfl) rfl) ?_)
    obtain ⟨us, hus, tus⟩ := rs.told
    refine ⟨_, rfl, rn, _, ((3 : Nat) : Int), _, rfl, rfl, SqL.of rs.run, atI_nat rfl, .inl ⟨rfl, _, SqL.of hus⟩, rd_ixT (j := 1) rfl hT rfl ⟨_, rfl, x1, sl, e, w.σ, rfl, h1, we, de, SqL.of rs.slo, pre.inr, (by show 2 ≤ sizeLine; decide), fun p1 hp1 => ?_⟩⟩
    have r1 := rs.same (Same.new (o := .tup [.str "say", .int (e.val w.σ)]) hp1)
    obtain ⟨us1, hus1, lus1, r2⟩ := r1.say (e := .say (e.val w.σ)) (Tp.mk hp1 (.cons (.str _) (.cons (.int _) .nil)))
    refine ⟨tl, us1, _, rfl, rfl, hus1, sz_lt1 (by omega), (by show 1 ≤ sizeLine; decide), fun p2 hp2 => ?_⟩
    exact q _ .on _ _ _ .say (r2.same (Same.new hp2)) (Tp.mk hp2 (.cons (.str _) .nil)) (((Kp.new hp1).trans (Kp.upd (.inr (.inl rfl)))).trans (Kp.new hp2))
  | set k e =>
    obtain ⟨a, x0, x1, x2, rfl, hT, h0, h1, h2⟩ := tv.tup3
    cases h0.strE; cases h1.intE
    obtain ⟨k8, we, de⟩ : k < 8 ∧ e.Wf ∧ e.dep ≤ 5 := pre.wf
    refine rd_ixT (j := 0) rfl hT rfl (r_ifF (pb_is (pb_eqS rfl) rfl) (r_ifT (pb_is (pb_eqS rfl) rfl) ?_))
    refine rd_ixT (j := 2) rfl hT rfl ⟨_, rfl, x2, sl, e, w.σ, rfl, h2, we, de, SqL.of rs.slo, pre.inr, _, rfl, rd_ixT (j := 1) rfl hT rfl ⟨sl, _, (k : Int), k, rfl, rfl, rs.slo, ixN_n (by rw [List.length_map]; have := pre.inr.1; omega), (by show 1 ≤ sizeLine; decide), fun p2 hp2 => ?_⟩⟩
    exact q _ .on _ _ _ .set ((rs.set (k := k) (i := e.val w.σ)).same (Same.new hp2)) (Tp.mk hp2 (.cons (.str _) .nil)) ((Kp.upd (.inr (.inr rfl))).trans (Kp.new hp2))
  | row ps =>
    obtain ⟨a, x0, x1, rfl, hT, h0, h1⟩ := tv.tup2
    cases h0.strE
    refine rd_ixT (j := 0) rfl hT rfl (r_ifF (pb_is (pb_eqS rfl) rfl) (r_ifF (pb_is (pb_eqS rfl) rfl) (r_ifT (pb_is (pb_eqS rfl) rfl) ?_)))
    exact ⟨_, rfl, rd_ixT (j := 1) rfl hT rfl ⟨_, rfl, _, rfl, _, rfl, ⟨⟨p, dp, rn, tl, sl, pv, x1, mv, w, d, met, ps, turn, hand, rfl, rs, h1, tm, pre, fun v' o w1 c H' hR r' t' k' => q v' o w1 c H' (.row hR) r' t' k'⟩⟩⟩⟩
  | ife e s1 s2 =>
    obtain ⟨a, x0, x1, x2, x3, rfl, hT, h0, h1, h2, h3⟩ := tv.tup4
    cases h0.strE
    obtain ⟨⟨we, de⟩, wa, wb⟩ : (e.Wf ∧ e.dep ≤ 5) ∧ s1.Wf p.cs p.kinds.length turn hand ∧ s2.Wf p.cs p.kinds.length turn hand := pre.wf
    refine rd_ixT (j := 0) rfl hT rfl (r_ifF (pb_is (pb_eqS rfl) rfl) (r_ifF (pb_is (pb_eqS rfl) rfl) (r_ifF (pb_is (pb_eqS rfl) rfl) (r_ifT (pb_is (pb_eqS rfl) rfl) ?_))))
    refine ⟨_, rfl, _, rfl, rd_ixT (j := 1) rfl hT rfl ⟨_, rfl, x1, sl, e, w.σ, rfl, h1, we, de, SqL.of rs.slo, pre.inr, rfl, .inr ⟨_, rfl, ?_⟩⟩⟩
    by_cases hz : e.val w.σ = 0
    · refine ⟨_, _, rfl, rfl, a, _, ((3 : Nat) : Int), x3, rfl, by rw [hz]; rfl, hT, atI_nat rfl, _, rfl, _, rfl, _, rfl, pWalk rs h3 tm (pre.first wb (by show s2.dep + 1 ≤ max s1.dep s2.dep + 1; omega) (by show s2.len ≤ e.len + 1 + s1.len + 1 + s2.len; omega)) trivial fun v' o w1 c H' hR _ _ _ r' t' k' _ => ?_⟩
      exact q v' o w1 _ H' (.ifF hz hR) r' t' k'
    · refine ⟨_, _, rfl, rfl, a, _, ((2 : Nat) : Int), x2, rfl, by rw [dF (fun z => hz (V.int.inj z))]; rfl, hT, atI_nat rfl, _, rfl, _, rfl, _, rfl, pWalk rs h2 tm (pre.first wa (by show s1.dep + 1 ≤ max s1.dep s2.dep + 1; omega) (by show s1.len ≤ e.len + 1 + s1.len + 1 + s2.len; omega)) trivial fun v' o w1 c H' hR _ _ _ r' t' k' _ => ?_⟩
      exact q v' o w1 _ H' (.ifT hz hR) r' t' k'
  | whl e s1 =>
    obtain ⟨a, x0, x1, x2, rfl, hT, h0, h1, h2⟩ := id tv.tup3
    cases h0.strE
    refine rd_ixT (j := 0) rfl hT rfl (r_ifF (pb_is (pb_eqS rfl) rfl) (r_ifF (pb_is (pb_eqS rfl) rfl) (r_ifF (pb_is (pb_eqS rfl) rfl) (r_ifF (pb_is (pb_eqS rfl) rfl) (r_ifT (pb_is (pb_eqS rfl) rfl) ?_)))))
    exact ⟨_, rfl, _, rfl, _, rfl, _, rfl, _, rfl, pWalk rs tv tm pre ⟨_, _, rfl⟩ fun v' o w1 c H' hR _ _ _ r' t' k' _ => q v' o w1 c H' hR r' t' k'⟩
  | ret e =>
    obtain ⟨a, x0, x1, rfl, hT, h0, h1⟩ := tv.tup2
    cases h0.strE
    obtain ⟨we, de⟩ : e.Wf ∧ e.dep ≤ 5 := pre.wf
    refine rd_ixT (j := 0) rfl hT rfl (r_ifF (pb_is (pb_eqS rfl) rfl) (r_ifF (pb_is (pb_eqS rfl) rfl) (r_ifF (pb_is (pb_eqS rfl) rfl) (r_ifF (pb_is (pb_eqS rfl) rfl) (r_ifF (pb_is (pb_eqS rfl) rfl) (r_ifT (pb_is (pb_eqS rfl) rfl) ?_))))))
    refine rd_ixT (j := 1) rfl hT rfl ⟨_, rfl, x1, sl, e, w.σ, rfl, h1, we, de, SqL.of rs.slo, pre.inr, (by show 2 ≤ sizeLine; decide), fun p1 hp1 => ?_⟩
    exact q _ (.ret (e.val w.σ)) w _ _ .ret (rs.same (Same.new hp1)) (Tp.mk hp1 (.cons (.str _) (.cons (.int _) .nil))) (Kp.new hp1)
  | rais kd e m =>
    obtain ⟨a, x0, x1, x2, x3, rfl, hT, h0, h1, h2, h3⟩ := tv.tup4
    cases h0.strE; cases h1.intE; cases h3.intE
    obtain ⟨_, ⟨we, de⟩, _⟩ : kd < p.kinds.length ∧ (e.Wf ∧ e.dep ≤ 5) ∧ 0 ≤ m ∧ m < 1000 := pre.wf
    refine rd_ixT (j := 0) rfl hT rfl (r_ifF (pb_is (pb_eqS rfl) rfl) (r_ifF (pb_is (pb_eqS rfl) rfl) (r_ifF (pb_is (pb_eqS rfl) rfl) (r_ifF (pb_is (pb_eqS rfl) rfl) (r_ifF (pb_is (pb_eqS rfl) rfl) (r_ifF (pb_is (pb_eqS rfl) rfl) (r_ifT (pb_is (pb_eqS rfl) rfl) ?_)))))))
    refine rd_ixT (j := 1) rfl hT rfl (rd_ixT (j := 2) rfl hT rfl ⟨_, rfl, x2, sl, e, w.σ, rfl, h2, we, de, SqL.of rs.slo, pre.inr, rd_ixT (j := 3) rfl hT rfl ⟨(by show 1 ≤ sizeLine; decide), fun p1 hp1 => ⟨(by show 4 ≤ sizeLine; decide), fun p2 hp2 => ?_⟩⟩⟩)
    exact q _ (.flt ⟨kd, e.val w.σ, [m]⟩) w _ _ .rais ((rs.same (Same.new hp1)).same (Same.new hp2)) (Tp.mk hp2 (.cons (.str _) (.cons (.int _) (.cons (.int _) (.cons (Tp.mk hp1 (.cons (.int _) .nil)) .nil))))) ((Kp.new hp1).trans (Kp.new hp2))
  | again =>
    obtain ⟨a, x0, rfl, hT, h0⟩ := id tv.tup1
    cases h0.strE
    have hne : met ≠ [] := pre.mok.2 pre.wf
    obtain ⟨ma, mxs, rfl, hM, tms⟩ := tm.tupE
    refine rd_ixT (j := 0) rfl hT rfl (r_ifF (pb_is (pb_eqS rfl) rfl) (r_ifF (pb_is (pb_eqS rfl) rfl) (r_ifF (pb_is (pb_eqS rfl) rfl) (r_ifF (pb_is (pb_eqS rfl) rfl) (r_ifF (pb_is (pb_eqS rfl) rfl) (r_ifF (pb_is (pb_eqS rfl) rfl) (r_ifF (pb_is (pb_eqS rfl) rfl) (r_ifT (pb_is (pb_eqS rfl) rfl) ?_))))))))
    have hl := List.getLast?_eq_some_getLast hne
    have lm : mxs.length = met.length := by rw [tms.length, List.length_map]
    have pos : 0 < met.length := List.length_pos_iff.mpr hne
    obtain ⟨x, hx, tx⟩ := tms.get' (i := met.length - 1) (d := (met.getLast hne).d) (by rw [List.getElem?_map, ← List.getLast?_eq_getElem?, hl]; rfl)
    have hat : atI mxs (-1) = some x := by
      have hsplit : mxs = mxs.dropLast ++ [x] := by
        have hn : mxs ≠ [] := fun z => by rw [z] at lm; simp at lm; omega
        have e1 : mxs.getLast? = some x := by rw [List.getLast?_eq_getElem?, lm]; exact hx
        have e2 : mxs.getLast hn = x := by
          have z := List.getLast?_eq_some_getLast hn
          rw [e1] at z
          exact (Option.some.inj z).symm
        rw [← e2]
        exact (List.dropLast_concat_getLast hn).symm
      rw [hsplit]; exact atI_last _ _
    exact ⟨_, rfl, _, rfl, ma, mxs, -1, x, rfl, rfl, hM, hat, q x (.flt (met.getLast hne)) w 1 H (.again hl) rs tx (Kp.refl _ _)⟩
  | call k f ps m =>
    obtain ⟨a, x0, x1, x2, x3, x4, rfl, hT, h0, h1, h2, h3, h4⟩ := id tv.tup5
    cases h0.strE
    refine rd_ixT (j := 0) rfl hT rfl (r_ifF (pb_is (pb_eqS rfl) rfl) (r_ifF (pb_is (pb_eqS rfl) rfl) (r_ifF (pb_is (pb_eqS rfl) rfl) (r_ifF (pb_is (pb_eqS rfl) rfl) (r_ifF (pb_is (pb_eqS rfl) rfl) (r_ifF (pb_is (pb_eqS rfl) rfl) (r_ifF (pb_is (pb_eqS rfl) rfl) (r_ifF (pb_is (pb_eqS rfl) rfl) (r_ifT (pb_is (pb_eqS rfl) rfl) ?_)))))))))
    exact ⟨_, rfl, _, rfl, _, rfl, _, rfl, ⟨⟨p, dp, rn, tl, sl, pv, _, w, d, met, k, f, ps, m, turn, hand, rfl, rs, tv, pre, q⟩⟩⟩
  | tri s1 hs =>
    obtain ⟨a, x0, x1, x2, rfl, hT, h0, h1, h2⟩ := id tv.tup3
    cases h0.strE
    refine rd_ixT (j := 0) rfl hT rfl (r_ifF (pb_is (pb_eqS rfl) rfl) (r_ifF (pb_is (pb_eqS rfl) rfl) (r_ifF (pb_is (pb_eqS rfl) rfl) (r_ifF (pb_is (pb_eqS rfl) rfl) (r_ifF (pb_is (pb_eqS rfl) rfl) (r_ifF (pb_is (pb_eqS rfl) rfl) (r_ifF (pb_is (pb_eqS rfl) rfl) (r_ifF (pb_is (pb_eqS rfl) rfl) (r_ifF (pb_is (pb_eqS rfl) rfl) (r_ifT (pb_is (pb_eqS rfl) rfl) ?_))))))))))
    exact ⟨_, rfl, _, rfl, _, rfl, _, rfl, _, rfl, pWalk rs tv tm pre ⟨_, _, rfl⟩ fun v' o w1 c H' hR _ _ _ r' t' k' _ => q v' o w1 c H' hR r' t' k'⟩
  | cln s1 s2 =>
    obtain ⟨a, x0, x1, x2, rfl, hT, h0, h1, h2⟩ := id tv.tup3
    cases h0.strE
    refine rd_ixT (j := 0) rfl hT rfl (r_ifF (pb_is (pb_eqS rfl) rfl) (r_ifF (pb_is (pb_eqS rfl) rfl) (r_ifF (pb_is (pb_eqS rfl) rfl) (r_ifF (pb_is (pb_eqS rfl) rfl) (r_ifF (pb_is (pb_eqS rfl) rfl) (r_ifF (pb_is (pb_eqS rfl) rfl) (r_ifF (pb_is (pb_eqS rfl) rfl) (r_ifF (pb_is (pb_eqS rfl) rfl) (r_ifF (pb_is (pb_eqS rfl) rfl) (r_ifF (pb_is (pb_eqS rfl) rfl) (r_ifT (pb_is (pb_eqS rfl) rfl) ?_)))))))))))
    exact ⟨_, rfl, _, rfl, _, rfl, _, rfl, _, rfl, pWalk rs tv tm pre ⟨_, _, rfl⟩ fun v' o w1 c H' hR _ _ _ r' t' k' _ => q v' o w1 c H' hR r' t' k'⟩
  | brk =>
    obtain ⟨a, x0, rfl, hT, h0⟩ := id tv.tup1
    cases h0.strE
    refine rd_ixT (j := 0) rfl hT rfl (r_ifF (pb_is (pb_eqS rfl) rfl) (r_ifF (pb_is (pb_eqS rfl) rfl) (r_ifF (pb_is (pb_eqS rfl) rfl) (r_ifF (pb_is (pb_eqS rfl) rfl) (r_ifF (pb_is (pb_eqS rfl) rfl) (r_ifF (pb_is (pb_eqS rfl) rfl) (r_ifF (pb_is (pb_eqS rfl) rfl) (r_ifF (pb_is (pb_eqS rfl) rfl) (r_ifF (pb_is (pb_eqS rfl) rfl) (r_ifF (pb_is (pb_eqS rfl) rfl) (r_ifF (pb_is (pb_eqS rfl) rfl) ?_)))))))))))
    exact ⟨_, rfl, q _ .brk w 1 H .brk rs tv (Kp.refl _ _)⟩
  | cnt =>
    obtain ⟨a, x0, rfl, hT, h0⟩ := id tv.tup1
    cases h0.strE
    refine rd_ixT (j := 0) rfl hT rfl (r_ifF (pb_is (pb_eqS rfl) rfl) (r_ifF (pb_is (pb_eqS rfl) rfl) (r_ifF (pb_is (pb_eqS rfl) rfl) (r_ifF (pb_is (pb_eqS rfl) rfl) (r_ifF (pb_is (pb_eqS rfl) rfl) (r_ifF (pb_is (pb_eqS rfl) rfl) (r_ifF (pb_is (pb_eqS rfl) rfl) (r_ifF (pb_is (pb_eqS rfl) rfl) (r_ifF (pb_is (pb_eqS rfl) rfl) (r_ifF (pb_is (pb_eqS rfl) rfl) (r_ifF (pb_is (pb_eqS rfl) rfl) ?_)))))))))))
    exact ⟨_, rfl, q _ .cnt w 1 H .cnt rs tv (Kp.refl _ _)⟩
end
end Lp

/-! LvA: the program's walk: state, counted, meets, slots_for, row, looped, cleaned. -/
namespace Lp
open PySem PySem.Spec PyProof.Rows L2
def t_meets (K : PySem.W.Frag) (sp_under : Sp) : TS :=
  tRet (tOrV (tOp rIsN (tVar 1) (tC .non)) (tCall sp_under [] E0 (tCons (tVar 0) (tCons (tVar 2) (tCons (tVar 1) (tNil))))))

def t_Walker_counted (K : PySem.W.Frag) : TS :=
  tSeq (sFld K (tVar 0) (tOp rSbI (tFld K (tVar 0) "left") (tC (.int 1))) "left") (tRet (tOp rGe (tFld K (tVar 0) "left") (tC (.int 0))))

structure WV where
  dx : Addr
  kv : V
  fv : V
def wfs (pv : WV) (left : Int) (dp : Nat) (tl : Addr) : List (Str × V) := [("kinds", pv.kv), ("functions", pv.fv), ("left", .int left), ("deep", .int (dp : Int)), ("told", .ref tl)]
/-- what the top has of the class and of ON -/
structure WkTxt (K : PySem.W.Frag) (C on : Addr) : Prop where
  cl : Cls K C
  kinds : NoAttr K C "kinds"
  functions : NoAttr K C "functions"
  left : NoAttr K C "left"
  deep : NoAttr K C "deep"
  told : NoAttr K C "told"
  on : ∀ H, Tp K H (.ref on) Out.on.d
section
variable {K : PySem.W.Frag} {C on : Addr} {H H' : Hp} {σ : L2.St} {p : Pg} {dp : Nat} {rn tl sl : Addr} {pv : WV} {w : WSt}
structure WkSt (K : PySem.W.Frag) (C : Addr) (p : Pg) (dp : Nat) (H : Hp) (rn tl sl : Addr) (pv : WV) (w : WSt) : Prop where
  ins : H rn = some (.ins C pv.dx (wfs pv w.left dp tl))
  told : ∃ us, H tl = some (.lst us) ∧ TpAll K H us (w.told.map Ev.d)
  slo : H sl = some (.lst (w.σ.map V.int))
  kt : Tp K H pv.kv (.tuple (p.kinds.map kindD))
  ft : Tp K H pv.fv (.tuple (p.funs.map funD))
  n1 : rn ≠ tl
  n2 : rn ≠ sl
  n3 : tl ≠ sl
theorem WkSt.noTup (r : WkSt K C p dp H rn tl sl pv w) : NoTup (B3 rn tl sl) H := by
  rintro a (rfl | rfl | rfl)
  · exact ⟨_, r.ins, (fun _ z => by cases z), (fun _ _ z => by cases z)⟩
  · obtain ⟨us, h, _⟩ := r.told
    exact ⟨_, h, (fun _ z => by cases z), (fun _ _ z => by cases z)⟩
  · exact ⟨_, r.slo, (fun _ z => by cases z), (fun _ _ z => by cases z)⟩
theorem WkSt.tk (r : WkSt K C p dp H rn tl sl pv w) (k : Kp (B3 rn tl sl) H H') : Tk H H' := k.tk r.noTup
theorem WkSt.same (r : WkSt K C p dp H rn tl sl pv w) (s : Same H H') : WkSt K C p dp H' rn tl sl pv w := by
  obtain ⟨us, h, ht⟩ := r.told
  exact ⟨s _ _ r.ins, ⟨us, s _ _ h, ht.mono (Tk.same s)⟩, s _ _ r.slo, r.kt.mono (Tk.same s), r.ft.mono (Tk.same s), r.n1, r.n2, r.n3⟩
theorem WkSt.say {x : V} {e : Ev} (r : WkSt K C p dp H rn tl sl pv w) (hx : Tp K H x e.d) : ∃ us, H tl = some (.lst us) ∧ us.length = w.told.length ∧ WkSt K C p dp (upd H tl (.lst (us ++ [x]))) rn tl sl pv { w with told := w.told ++ [e] } := by
  obtain ⟨us, h, ht⟩ := r.told
  refine ⟨us, h, by rw [ht.length, List.length_map], ⟨by rw [upd_ne r.n1]; exact r.ins, ⟨_, upd_same, ?_⟩, by rw [upd_ne r.n3.symm]; exact r.slo, r.kt.mono (Tk.lst h), r.ft.mono (Tk.lst h), r.n1, r.n2, r.n3⟩⟩
  rw [List.map_append]
  exact (ht.snoc hx).mono (Tk.lst h)
theorem WkSt.set {k : Nat} {i : Int} (r : WkSt K C p dp H rn tl sl pv w) : WkSt K C p dp (upd H sl (.lst ((w.σ.map V.int).set k (.int i)))) rn tl sl pv { w with σ := w.σ.set k i } := by
  obtain ⟨us, h, ht⟩ := r.told
  refine ⟨by rw [upd_ne r.n2]; exact r.ins, ⟨us, by rw [upd_ne r.n3]; exact h, ht.mono (Tk.lst r.slo)⟩, ?_, r.kt.mono (Tk.lst r.slo), r.ft.mono (Tk.lst r.slo), r.n1, r.n2, r.n3⟩
  rw [upd_same, List.map_set]
theorem WkSt.count {i : Int} (r : WkSt K C p dp H rn tl sl pv w) : WkSt K C p dp (upd H rn (.ins C pv.dx (wfs pv i dp tl))) rn tl sl pv { w with left := i } := by
  obtain ⟨us, h, ht⟩ := r.told
  exact ⟨upd_same, ⟨us, by rw [upd_ne r.n1.symm]; exact h, ht.mono (Tk.ins r.ins)⟩, by rw [upd_ne r.n2.symm]; exact r.slo, r.kt.mono (Tk.ins r.ins), r.ft.mono (Tk.ins r.ins), r.n1, r.n2, r.n3⟩
theorem rMethW {i : Nat} {a D dx : Addr} {fs : List (Str × V)} {Q : VK} {f : Str} {sp : Sp} {ta : TA} (hs : σ[i]? = some (some (.ref a))) (hc : H a = some (.ins D dx fs)) (l : fs.lookup f = none) (q : ta σ H fun vs H2 => sp (.ref a :: (vs ++ [])) H2 Q E0) : tMeth D f sp [] E0 (tVar i) ta σ H Q :=
  ⟨_, hs, a, dx, _, rfl, hc, l, q⟩
theorem Out.shaped (o : Out) : SeqAt.shaped o.d = true := by
  cases o with
  | flt f =>
    have h1 := lay_ints f.tr
    have h2 := dep_ints f.tr
    simp [SeqAt.shaped, Out.d, Out.r, Out.w, Flt.tl, PyData.canLay0, PyData.canLayAll0, PyData.depth, PyData.depthAll, h1]
    first | omega | (constructor <;> first | decide +kernel | omega)
  | _ => simp [SeqAt.shaped, Out.d, Out.r, Out.w, PyData.canLay0, PyData.canLayAll0, PyData.depth, PyData.depthAll] <;> decide +kernel
theorem Out.eqv_on (o : Out) : PyData.eqv o.d Out.on.d = decide (o = .on) := by
  cases o <;> simp [Out.d, Out.w, Out.r, Flt.tl, PyData.eqv, PyData.eqvAll] <;> first | rfl | (intro h; exact absurd h (by decide))
/-- end == ON -/
theorem pb_on {i : Nat} {v : V} {o : Out} (T : WkTxt K C on) (hs : σ[i]? = some (some v)) (t : Tp K H v o.d) : PB (tTest (tOp (rEqD K) (tVar i) (tC (.ref on)))) σ H (decide (o = .on)) := fun _ q =>
  ⟨_, hs, _, _, t.dp, (T.on H).dp, o.shaped, Out.on.shaped, _, rfl, by rw [Out.eqv_on]; exact q⟩
theorem pb_onN {i : Nat} {v : V} {o : Out} (T : WkTxt K C on) (hs : σ[i]? = some (some v)) (t : Tp K H v o.d) : PB (tTest (tOp (rNeD K) (tVar i) (tC (.ref on)))) σ H (!decide (o = .on)) := fun _ q =>
  ⟨_, hs, _, _, t.dp, (T.on H).dp, o.shaped, Out.on.shaped, _, rfl, by rw [Out.eqv_on]; exact q⟩
def spCountW (K : PySem.W.Frag) (C : Addr) : Sp := fun vs H Q _ => ∃ (p : Pg) (dp : Nat) (rn tl sl : Addr) (pv : WV) (w : WSt), vs = [.ref rn] ∧ WkSt K C p dp H rn tl sl pv w ∧ Q (.bl (decide (0 ≤ w.left - 1))) (upd H rn (.ins C pv.dx (wfs pv (w.left - 1) dp tl)))
theorem rd_counted (T : WkTxt K C on) (vs : List V) (H : Hp) (Q : VK) (E : XK) (h : spCountW K C vs H Q E) : t_Walker_counted K { nx := fun _ H' => Q .non H', rt := Q } (start ["self"] vs) H := by
  obtain ⟨p, dp, rn, tl, sl, pv, w, rfl, r, q⟩ := h
  refine ⟨_, rfl, rn, C, pv.dx, _, _, rfl, r.ins, T.cl, T.left, rfl, _, _, rfl, rfl, _, rfl, rn, C, pv.dx, _, rfl, r.ins, T.cl, T.left, (by show 5 < 1000; decide), ?_⟩
  have rc := r.count (i := w.left - 1)
  exact ⟨_, rfl, rn, C, pv.dx, _, _, rfl, rc.ins, T.cl, T.left, rfl, _, _, rfl, rfl, q⟩
def spMeets (K : PySem.W.Frag) : Sp := fun vs H Q _ => ∃ (a : Addr) (ks : List (Option Nat)) (wd : Option Nat) (k : Nat), vs = [.ref a, kindV wd, .int (k : Int)] ∧ SqT K H a (ks.map kindV) ∧ WfK ks ∧ k < ks.length ∧ Q (.bl (takes ks wd k)) H
theorem rd_meets (vs : List V) (H : Hp) (Q : VK) (E : XK) (h : spMeets K vs H Q E) : t_meets K (spUnder K) { nx := fun _ H' => Q .non H', rt := Q } (start ["kinds", "wanted", "kind"] vs) H := by
  obtain ⟨a, ks, wd, k, rfl, hS, wf, hk, q⟩ := h
  cases wd with
  | none => exact ⟨_, rfl, rfl, _, rfl, ifT (dT rfl) q⟩
  | some j => exact ⟨_, rfl, rfl, _, rfl, ifF (dF (by intro z; cases z)) ⟨_, rfl, _, rfl, _, rfl, a, ks, k, j, rfl, hS, wf, hk, q⟩⟩
end
end Lp

/-! LvB: the program's walk: row, looped, cleaned. -/
namespace Lp
open PySem PySem.Spec PyProof.Rows L2
def t_Walker_row (K : PySem.W.Frag) (C_Walker : Addr) (sp_Walker_does : Sp) (ad_ON : Addr) : TS :=
  tSeq (tFor (iTup K (tVar 1)) (gName 5) (tSeq (tAsg (tMeth C_Walker "does" sp_Walker_does [] E0 (tVar 0) (tCons (tVar 5) (tCons (tVar 2) (tCons (tVar 3) (tCons (tVar 4) (tNil)))))) (gName 6)) (tIfS (tTest (tOp (rNeD K) (tVar 6) (tC (.ref ad_ON)))) (tRet (tVar 6)) (tNext)))) (tRet (tC (.ref ad_ON)))

def t_Walker_looped (K : PySem.W.Frag) (sp_value_of : Sp) (C_Walker : Addr) (sp_Walker_counted : Sp) (sp_Walker_does : Sp) (ad_ON : Addr) : TS :=
  tSeq (tWhile (tTest (tOp rNe (tCall sp_value_of [] E0 (tCons (tOp (rIxT K) (tVar 1) (tC (.int 1))) (tCons (tVar 2) (tNil)))) (tC (.int 0)))) (tSeq (tIfS (tNot (tB (tMeth C_Walker "counted" sp_Walker_counted [] E0 (tVar 0) tNil))) (tRet (tTup (tCons (tC (.str "dry")) (tNil)))) (tNext)) (tSeq (tAsg (tMeth C_Walker "does" sp_Walker_does [] E0 (tVar 0) (tCons (tOp (rIxT K) (tVar 1) (tC (.int 2))) (tCons (tVar 2) (tCons (tVar 3) (tCons (tVar 4) (tNil)))))) (gName 5)) (tSeq (tIfS (tTest (tOp rEq (tOp (rIxT K) (tVar 5) (tC (.int 0))) (tC (.str "break")))) (tRet (tC (.ref ad_ON))) (tNext)) (tIfS (tAnd (tTest (tOp (rNeD K) (tVar 5) (tC (.ref ad_ON)))) (tTest (tOp rNe (tOp (rIxT K) (tVar 5) (tC (.int 0))) (tC (.str "continue"))))) (tRet (tVar 5)) (tNext)))))) (tRet (tC (.ref ad_ON)))

def t_Walker_cleaned (K : PySem.W.Frag) (C_Walker : Addr) (sp_Walker_does : Sp) (ad_ON : Addr) : TS :=
  tSeq (tAsg (tMeth C_Walker "does" sp_Walker_does [] E0 (tVar 0) (tCons (tOp (rIxT K) (tVar 1) (tC (.int 1))) (tCons (tVar 2) (tCons (tVar 3) (tCons (tVar 4) (tNil)))))) (gName 5)) (tSeq (tIfS (tTest (tOp (rIn K false) (tOp (rIxT K) (tVar 5) (tC (.int 0))) (tTup (tCons (tC (.str "dry")) (tCons (tC (.str "deep")) (tNil)))))) (tRet (tVar 5)) (tNext)) (tSeq (tAsg (tMeth C_Walker "does" sp_Walker_does [] E0 (tVar 0) (tCons (tOp (rIxT K) (tVar 1) (tC (.int 2))) (tCons (tVar 2) (tCons (tVar 3) (tCons (tVar 4) (tNil)))))) (gName 6)) (tSeq (tIfS (tTest (tOp (rEqD K) (tVar 6) (tC (.ref ad_ON)))) (tRet (tVar 5)) (tNext)) (tRet (tVar 6)))))

/-! ### what the program's walk is asked and told -/
structure WalkPW (K : PySem.W.Frag) (C : Addr) (P : Sm → Prop) (n : Nat) (vs : List V) (H : Hp) (Q : VK) : Prop where
  ex : ∃ (p : Pg) (dp : Nat) (rn tl sl : Addr) (pv : WV) (v mv : V) (w : WSt) (d : Nat) (met : List Flt) (s : Sm) (turn hand : Bool), vs = [.ref rn, v, .ref sl, mv, .int (d : Int)] ∧ WkSt K C p dp H rn tl sl pv w ∧ Tp K H v s.d ∧ Tp K H mv (metD met) ∧ WPre p dp n d met turn hand s w ∧ P s ∧
    ∀ (v' : V) (o : Out) (w1 : WSt) (c : Nat) (H' : Hp), Rn p dp d met s w o w1 c → WkSt K C p dp H' rn tl sl pv w1 → Tp K H' v' o.d → Kp (B3 rn tl sl) H H' → Q v' H'
def spWalkW (K : PySem.W.Frag) (C : Addr) (P : Sm → Prop) (n : Nat) : Sp := fun vs H Q _ => WalkPW K C P n vs H Q
theorem spWalkW_zero {K : PySem.W.Frag} {C : Addr} {P : Sm → Prop} (vs : List V) (H : Hp) (Q : VK) (E : XK) : ¬ spWalkW K C P 0 vs H Q E := by
  rintro ⟨⟨p, dp, rn, tl, sl, pv, v, mv, w, d, met, s, turn, hand, _, _, _, _, h, _⟩⟩
  have := h.dep
  have : 1 ≤ s.dep := by cases s <;> simp [Sm.dep]
  omega
theorem pWalkW {K : PySem.W.Frag} {C : Addr} {P : Sm → Prop} {n : Nat} {H : Hp} {Q : VK} {p : Pg} {dp : Nat} {rn tl sl : Addr} {pv : WV} {v mv : V} {w : WSt} {d : Nat} {met : List Flt} {s : Sm} {turn hand : Bool}
    (r : WkSt K C p dp H rn tl sl pv w) (tv : Tp K H v s.d) (tm : Tp K H mv (metD met)) (pre : WPre p dp n d met turn hand s w) (hP : P s)
    (q : ∀ (v' : V) (o : Out) (w1 : WSt) (c : Nat) (H' : Hp), Rn p dp d met s w o w1 c → Cost s.len w o w1 c → InR w1.σ → OutOk p.kinds.length dp d turn o → WkSt K C p dp H' rn tl sl pv w1 → Tp K H' v' o.d → Kp (B3 rn tl sl) H H' → Tk H H' → Q v' H') : spWalkW K C P n [.ref rn, v, .ref sl, mv, .int (d : Int)] H Q E0 :=
  ⟨p, dp, rn, tl, sl, pv, v, mv, w, d, met, s, turn, hand, rfl, r, tv, tm, pre, hP, fun v' o w1 c H' hR r' t' k' =>
    q v' o w1 c H' hR (Rn.cost pre.pw.len hR pre.len pre.left) (Rn.ok pre.pw.r rfl hR pre.wf pre.inr pre.mok pre.ddp).1 (Rn.ok pre.pw.r rfl hR pre.wf pre.inr pre.mok pre.ddp).2 r' t' k' (r.tk k')⟩
section
variable {K : PySem.W.Frag} {C on : Addr}
/-! ### rows -/
structure RowPW (K : PySem.W.Frag) (C : Addr) (n : Nat) (vs : List V) (H : Hp) (Q : VK) : Prop where
  ex : ∃ (p : Pg) (dp : Nat) (rn tl sl : Addr) (pv : WV) (v mv : V) (w : WSt) (d : Nat) (met : List Flt) (s : Sms) (turn hand : Bool), vs = [.ref rn, v, .ref sl, mv, .int (d : Int)] ∧ WkSt K C p dp H rn tl sl pv w ∧ Tp K H v (.tuple s.ds) ∧ Tp K H mv (metD met) ∧ WPre p dp (n + 1) d met turn hand (.row s) w ∧
    ∀ (v' : V) (o : Out) (w1 : WSt) (c : Nat) (H' : Hp), RnS p dp d met s w o w1 c → WkSt K C p dp H' rn tl sl pv w1 → Tp K H' v' o.d → Kp (B3 rn tl sl) H H' → Q v' H'
def spRowW (K : PySem.W.Frag) (C : Addr) (n : Nat) : Sp := fun vs H Q _ => RowPW K C n vs H Q
abbrev N_row : List Str := ["self", "parts", "slots", "met", "depth", "part", "end"]
theorem rd_row (T : WkTxt K C on) {n : Nat} (vs : List V) (H : Hp) (Q : VK) (E : XK) (h : spRowW K C n vs H Q E) : t_Walker_row K C (spWalkW K C QAny n) on { nx := fun _ H' => Q .non H', rt := Q } (start N_row vs) H := by
  obtain ⟨p, dp, rn, tl, sl, pv, v, mv, w, d, met, ps, turn, hand, rfl, rs, tv, tm, pre, q⟩ := h.ex
  obtain ⟨pa, pxs, rfl, hP, hps⟩ := tv.tupE
  have wps : ps.Wf p.cs p.kinds.length turn hand := pre.wf
  refine ⟨_, rfl, pa, rfl, ⟨_, hP⟩, for_tup (K := K) (a := pa) (xs := pxs) (fun i σ H' => ∃ (r : Sms) (w1 : WSt) (c m : Nat) (v5 v6 : Option V), σ = [some (.ref rn), some (.ref pa), some (.ref sl), some mv, some (.int (d : Int)), v5, v6] ∧ WkSt K C p dp H' rn tl sl pv w1 ∧ Kp (B3 rn tl sl) H H' ∧
      TpAll K H (pxs.drop i) r.ds ∧ r.Wf p.cs p.kinds.length turn hand ∧ r.dep ≤ ps.dep ∧ m + r.len = ps.len ∧ Cost m w .on w1 c ∧ InR w1.σ ∧ (∀ o w2 c2, RnS p dp d met r w1 o w2 c2 → RnS p dp d met ps w o w2 (c + c2)))
    ⟨ps, w, 0, 0, _, _, rfl, rs, Kp.refl _ _, by rw [List.drop_zero]; exact hps, wps, Nat.le_refl _, by simp, ⟨by simp, Int.le_refl _, .inl pre.left, by simp⟩, pre.inr, fun o w2 c2 h => by rw [Nat.zero_add]; exact h⟩ (fun i σ H' _ ⟨_, _, _, _, _, _, _, _, k', _⟩ => (rs.tk k').sqT hP) ?_ ?_⟩
  · rintro i x σ H4 hx ⟨r, w1, c, m, v5, v6, rfl, r4, k4, tr, wr, dr, lr, ct, ir, cont⟩
    obtain ⟨s, r', rfl, tx, tr'⟩ := sms_at tr hx
    obtain ⟨wa, wb⟩ : s.Wf p.cs p.kinds.length turn hand ∧ r'.Wf p.cs p.kinds.length turn hand := wr
    have dr2 : max s.dep r'.dep ≤ ps.dep := dr
    have lr2 : m + (s.len + r'.len) = ps.len := lr
    have tk4 := rs.tk k4
    refine rMethW rfl r4.ins rfl ⟨_, rfl, _, rfl, _, rfl, _, rfl, pWalkW r4 (tx.mono tk4) (tm.mono tk4) (pre.next ct (by simp) ir wa (by show s.dep + 1 ≤ ps.dep + 1; omega) (by show m + s.len ≤ ps.len; omega)) trivial fun v' o w2 c2 H5 hR hC hI hO r5 t5 k5 tk5 => ?_⟩
    obtain ⟨ea, er, rfl, hE, _⟩ := Out.tup t5
    by_cases ho : o = .on
    · subst ho
      exact r_ifF (pb_is (pb_onN T (i := 6) rfl t5) rfl) ⟨r', w2, c + c2, m + s.len, _, _, rfl, r5, k4.trans k5, tr', wb, by omega, by omega, ct.add hC, hI, fun o w3 c3 h => by rw [Nat.add_assoc]; exact cont _ _ _ (.next hR h)⟩
    · refine r_ifT (pb_is (pb_onN T (i := 6) rfl t5) (by rw [decide_eq_false ho]; rfl)) ⟨_, rfl, ?_⟩
      exact q _ o w2 (c + c2) H5 (cont _ _ _ (.stop hR ho)) r5 t5 (k4.trans k5)
  · rintro σ H4 ⟨r, w1, c, m, v5, v6, rfl, r4, k4, tr, wr, dr, lr, ct, ir, cont⟩
    cases sms_end tr
    exact q _ .on w1 (c + 0) _ (cont _ _ _ .nil) r4 (T.on _) k4
abbrev N_cleanW : List Str := ["self", "one", "slots", "met", "depth", "end", "last"]
theorem rd_cleanW (T : WkTxt K C on) {n : Nat} (vs : List V) (H : Hp) (Q : VK) (E : XK) (h : spWalkW K C QCln (n + 1) vs H Q E) : t_Walker_cleaned K C (spWalkW K C QAny n) on { nx := fun _ H' => Q .non H', rt := Q } (start N_cleanW vs) H := by
  obtain ⟨p, dp, rn, tl, sl, pv, v, mv, w, d, met, s, turn, hand, rfl, rs, tv, tm, pre, ⟨s1, s2, rfl⟩, q⟩ := h.ex
  obtain ⟨a, x0, x1, x2, rfl, hT, h0, h1, h2⟩ := tv.tup3
  obtain ⟨wa, wb⟩ : s1.Wf p.cs p.kinds.length turn hand ∧ s2.Wf p.cs p.kinds.length turn hand := pre.wf
  refine rMethW rfl (rs).ins rfl (rd_ixT (j := 1) rfl hT rfl ⟨_, rfl, _, rfl, _, rfl, pWalkW rs h1 tm (pre.first wa (by show s1.dep + 1 ≤ max s1.dep s2.dep + 1; omega) (by show s1.len ≤ s1.len + 2 + s2.len + 1; omega)) trivial fun v1 o w1 c H1 hR hC hI hO r1 t1 k1 tk1 => ?_⟩)
  obtain ⟨ea, er, rfl, hE, _⟩ := Out.tup t1
  refine rd_ixT (i := 5) (j := 0) rfl hE rfl ⟨(by show 2 ≤ sizeLine; decide), fun p1 hp1 => ⟨p1, _, rfl, .inr (SqT.of upd_same), rfl, rfl, o.over, by rw [if_neg Bool.false_ne_true, Out.over_w], ?_⟩⟩
  have sN : Same H1 (L2.upd H1 p1 (.tup [.str "dry", .str "deep"])) := Same.new hp1
  refine ifB (fun e => ⟨_, rfl, q _ o w1 c _ (.clnX hR e) (r1.same sN) (t1.mono (Tk.same sN)) (k1.trans (Kp.same sN))⟩) (fun e => ?_)
  have tk2 := tk1.trans (Tk.same sN)
  refine rMethW rfl ((r1.same sN)).ins rfl (rd_ixT (j := 2) rfl (tk2.sqT hT) rfl ⟨_, rfl, _, rfl, _, rfl, pWalkW (r1.same sN) (h2.mono tk2) (tm.mono tk2) (pre.next hC (by intro z; subst z; cases e) hI wb (by show s2.dep + 1 ≤ max s1.dep s2.dep + 1; omega) (by show s1.len + s2.len ≤ s1.len + 2 + s2.len + 1; omega)) trivial fun v2 o2 w2 c2 H3 hR2 hC2 hI2 hO2 r3 t3 k3 tk3 => ?_⟩)
  obtain ⟨fa, fr, rfl, hF, _⟩ := Out.tup t3
  have kZ := (k1.trans (Kp.same sN)).trans k3
  have fin := Rn.cln hR e hR2
  by_cases ho : o2 = .on
  · subst ho
    exact r_ifT (pb_is (pb_on T (i := 6) rfl t3) rfl) ⟨_, rfl, q _ o w2 _ H3 fin r3 (t1.mono ((Tk.same sN).trans tk3)) kZ⟩
  · rw [if_neg ho] at fin
    exact r_ifF (pb_is (pb_on T (i := 6) rfl t3) (decide_eq_false ho)) ⟨_, rfl, q _ o2 w2 _ H3 fin r3 t3 kZ⟩
abbrev N_loopW : List Str := ["self", "one", "slots", "met", "depth", "end"]
theorem rd_loopW (T : WkTxt K C on) {n : Nat} (vs : List V) (H : Hp) (Q : VK) (E : XK) (h : spWalkW K C QWhl (n + 1) vs H Q E) : t_Walker_looped K (spVal K 5) C (spCountW K C) (spWalkW K C QAny n) on { nx := fun _ H' => Q .non H', rt := Q } (start N_loopW vs) H := by
  obtain ⟨p, dp, rn, tl, sl, pv, v, mv, w, d, met, s, turn, hand, rfl, rs, tv, tm, pre, ⟨e, s1, rfl⟩, q⟩ := h.ex
  obtain ⟨a, x0, x1, x2, rfl, hT, h0, h1, h2⟩ := tv.tup3
  obtain ⟨⟨we, de⟩, wa⟩ : (e.Wf ∧ e.dep ≤ 5) ∧ s1.Wf p.cs p.kinds.length true hand := pre.wf
  refine ⟨fun m σ H' => ∃ (w1 : WSt) (v5 : Option V), σ = [some (.ref rn), some (.ref a), some (.ref sl), some mv, some (.int (d : Int)), v5] ∧ m = w1.left.toNat ∧ WkSt K C p dp H' rn tl sl pv w1 ∧ Kp (B3 rn tl sl) H H' ∧ WPre p dp (n + 1) d met turn hand (.whl e s1) w1 ∧ (∀ o w2 c2, Rn p dp d met (.whl e s1) w1 o w2 c2 → ∃ c3, Rn p dp d met (.whl e s1) w o w2 c3),
    ⟨_, w, _, rfl, rfl, rs, Kp.refl _ _, pre, fun o w2 c2 h => ⟨_, h⟩⟩, ?_⟩
  rintro m σ H1 ⟨w1, v5, rfl, rfl, r1, k1, pre1, cont⟩
  have tk1 := rs.tk k1
  refine rd_ixT (j := 1) rfl (tk1.sqT hT) rfl ⟨_, rfl, x1, sl, e, w1.σ, rfl, h1.mono tk1, we, de, SqL.of r1.slo, pre1.inr, rfl, _, rfl, ?_⟩
  by_cases hz : e.val w1.σ = 0
  · refine ifF (by rw [hz]; rfl) ?_
    obtain ⟨c3, fin⟩ := cont _ _ _ (.whl0 hz)
    exact q _ .on w1 c3 _ fin r1 (T.on _) k1
  refine ifT (by rw [decide_eq_false (fun z => hz (V.int.inj z))]; rfl) ⟨fun σ H' => ∃ m', m' < w1.left.toNat ∧ ∃ (w1 : WSt) (v5 : Option V), σ = [some (.ref rn), some (.ref a), some (.ref sl), some mv, some (.int (d : Int)), v5] ∧ m' = w1.left.toNat ∧ WkSt K C p dp H' rn tl sl pv w1 ∧ Kp (B3 rn tl sl) H H' ∧ WPre p dp (n + 1) d met turn hand (.whl e s1) w1 ∧ (∀ o w2 c2, Rn p dp d met (.whl e s1) w1 o w2 c2 → ∃ c3, Rn p dp d met (.whl e s1) w o w2 c3), fun σ' H' h => h, ?_⟩
  refine rMethW rfl r1.ins rfl ⟨p, dp, rn, tl, sl, pv, w1, rfl, r1, _, rfl, ?_⟩
  have rc := r1.count (i := w1.left - 1)
  have kc : Kp (B3 rn tl sl) H (L2.upd H1 rn (.ins C pv.dx (wfs pv (w1.left - 1) dp tl))) := k1.trans (Kp.upd (.inl rfl))
  generalize L2.upd H1 rn (.ins C pv.dx (wfs pv (w1.left - 1) dp tl)) = H2 at rc kc ⊢
  by_cases hl : 0 < w1.left
  · refine ifF (by rw [decide_eq_true (by omega)]; rfl) ?_
    have tk2 := rs.tk kc
    have preB : WPre p dp (n + 1) d met turn hand (.whl e s1) { w1 with left := w1.left - 1 } :=
      ⟨pre1.pw, pre1.wf, pre1.inr, pre1.mok, pre1.mfew, pre1.ddp, pre1.dps, pre1.dep, pre1.len, by show 0 ≤ w1.left - 1; omega, by have := pre1.bud; show (w1.told.length : Int) + _ + 2000 * (w1.left - 1 + 1) ≤ _; omega⟩
    refine rMethW rfl (rc).ins rfl (rd_ixT (j := 2) rfl (tk2.sqT hT) rfl ⟨_, rfl, _, rfl, _, rfl, pWalkW rc (h2.mono tk2) (tm.mono tk2) (preB.first (t := s1) (turn' := true) wa (by show s1.dep + 1 ≤ s1.dep + 1; omega) (by show s1.len ≤ e.len + 2 + s1.len + 1; omega)) trivial fun v2 o w2 c2 H3 hR hC hI hO r3 t3 k3 tk3 => ?_⟩)
    obtain ⟨ea, er, rfl, hE, _⟩ := Out.tup t3
    have k03 := kc.trans k3
    by_cases hb : o = .brk
    · subst hb
      refine r_ifT (pb_is (pb_w (i := 5) rfl hE rfl) rfl) ?_
      obtain ⟨c3, fin⟩ := cont _ _ _ (.whlB hz hl hR)
      exact q _ .on w2 c3 _ fin r3 (T.on _) k03
    · refine r_ifF (pb_is (pb_w (i := 5) rfl hE rfl) (by cases o <;> first | rfl | exact absurd rfl hb)) ?_
      by_cases hg : o = .on ∨ o = .cnt
      · refine r_ifF (pb_is (pb_and (pb_onN T (i := 5) rfl t3) (pb_wN (i := 5) rfl hE rfl)) (by rcases hg with z | z <;> subst z <;> rfl)) ?_
        obtain ⟨a1, a2, a3, a4⟩ := hC
        replace a1 : (c2 : Int) ≤ s1.len + 2000 * ((w1.left - 1) - w2.left) := a1
        replace a2 : w2.left ≤ w1.left - 1 := a2
        replace a4 : w2.told.length ≤ w1.told.length + c2 := a4
        have l0 : 0 ≤ w2.left := a3.elim id fun z => by subst z; rcases hg with z | z <;> cases z
        have lw : s1.len ≤ 1900 := by have h9 : e.len + 2 + s1.len + 1 ≤ 1900 := pre1.len; omega
        refine ⟨w2.left.toNat, by omega, w2, _, rfl, rfl, r3, k03, ⟨pre1.pw, pre1.wf, hI, pre1.mok, pre1.mfew, pre1.ddp, pre1.dps, pre1.dep, pre1.len, l0, by have := pre1.bud; omega⟩, fun o' w3 c3 h => cont _ _ _ (.whlN hz hl hR hg h)⟩
      · refine r_ifT (pb_is (pb_and (pb_onN T (i := 5) rfl t3) (pb_wN (i := 5) rfl hE rfl)) (by cases o <;> first | rfl | exact absurd (.inl rfl) hg | exact absurd (.inr rfl) hg)) ⟨_, rfl, ?_⟩
        obtain ⟨c3, fin⟩ := cont _ _ _ (.whlX hz hl hR (fun z => hg (.inl z)) (fun z => hg (.inr z)) hb)
        exact q _ o w2 c3 _ fin r3 t3 k03
  · refine ifT (by rw [decide_eq_false (by omega)]; rfl) ⟨(by show 1 ≤ sizeLine; decide), fun p1 hp1 => ?_⟩
    obtain ⟨c3, fin⟩ := cont _ _ _ (.whlD hz (by omega))
    exact q _ .dry _ c3 _ fin (rc.same (Same.new hp1)) (Tp.mk hp1 (.cons (.str _) .nil)) (kc.trans (Kp.new hp1))
end
end Lp

/-! LvC: the program's walk: tried, called, call, does. -/
namespace Lp
open PySem PySem.Spec PyProof.Rows L2
def t_Walker_tried (K : PySem.W.Frag) (C_Walker : Addr) (sp_Walker_does : Sp) (sp_meets : Sp) : TS :=
  tSeq (tAsg (tMeth C_Walker "does" sp_Walker_does [] E0 (tVar 0) (tCons (tOp (rIxT K) (tVar 1) (tC (.int 1))) (tCons (tVar 2) (tCons (tVar 3) (tCons (tVar 4) (tNil)))))) (gName 5)) (tSeq (tIfS (tTest (tOp rNe (tOp (rIxT K) (tVar 5) (tC (.int 0))) (tC (.str "fault")))) (tRet (tVar 5)) (tNext)) (tSeq (tFor (iTup K (tOp (rIxT K) (tVar 1) (tC (.int 2)))) (gName 6) (tIfS (tB (tCall sp_meets [] E0 (tCons (tFld K (tVar 0) "kinds") (tCons (tOp (rIxT K) (tVar 6) (tC (.int 0))) (tCons (tOp (rIxT K) (tVar 5) (tC (.int 1))) (tNil)))))) (tSeq (tDrop (tBM K "list" rAppend (tFld K (tVar 0) "told") (tCons (tTup (tCons (tC (.str "met")) (tCons (tOp (rIxT K) (tVar 5) (tC (.int 1))) (tCons (tOp (rIxT K) (tVar 5) (tC (.int 2))) (tCons (tOp (rIxT K) (tVar 5) (tC (.int 3))) (tNil)))))) (tNil)))) (tSeq (tAsg (tOp (rIxT K) (tVar 5) (tC (.int 2))) (gSub (tVar 2) (tOp (rIxT K) (tVar 6) (tC (.int 1))) rSetL)) (tRet (tMeth C_Walker "does" sp_Walker_does [] E0 (tVar 0) (tCons (tOp (rIxT K) (tVar 6) (tC (.int 2))) (tCons (tVar 2) (tCons (tOp (rCatA K) (tVar 3) (tTup (tCons (tVar 5) (tNil)))) (tCons (tVar 4) (tNil))))))))) (tNext))) (tRet (tVar 5))))

section
variable {K : PySem.W.Frag} {C on : Addr}
abbrev N_triedW : List Str := ["self", "one", "slots", "met", "depth", "end", "handler"]
theorem rd_triedW (T : WkTxt K C on) {n : Nat} (vs : List V) (H : Hp) (Q : VK) (E : XK) (h : spWalkW K C QTri (n + 1) vs H Q E) : t_Walker_tried K C (spWalkW K C QAny n) (spMeets K) { nx := fun _ H' => Q .non H', rt := Q } (start N_triedW vs) H := by
  obtain ⟨p, dp, rn, tl, sl, pv, v, mv, w, d, met, s, turn, hand, rfl, rs, tv, tm, pre, ⟨s1, hs, rfl⟩, q⟩ := h.ex
  obtain ⟨a, x0, x1, x2, rfl, hT, h0, h1, h2⟩ := tv.tup3
  obtain ⟨ha, hxs, rfl, hHs, ths⟩ := h2.tupE
  obtain ⟨wa, wb⟩ : s1.Wf p.cs p.kinds.length turn hand ∧ hs.Wf p.cs p.kinds.length turn := pre.wf
  have hlen : s1.len + 1 + hs.len ≤ 1900 := pre.len
  refine rMethW rfl (rs).ins rfl (rd_ixT (j := 1) rfl hT rfl ⟨_, rfl, _, rfl, _, rfl, pWalkW rs h1 tm (pre.first wa (by show s1.dep + 1 ≤ max s1.dep hs.dep + 1; omega) (by show s1.len ≤ s1.len + 1 + hs.len; omega)) trivial fun v1 o w1 c H1 hR hC hI hO r1 t1 k1 tk1 => ?_⟩)
  obtain ⟨ea, er, rfl, hE, _⟩ := Out.tup t1
  by_cases hf : o.isFlt = true
  case neg =>
    have hf' : o.isFlt = false := by simpa using hf
    exact r_ifT (pb_is (pb_wN (i := 5) rfl hE rfl) (by cases o <;> first | rfl | exact absurd rfl hf)) ⟨_, rfl, q _ o w1 _ _ (.tri hR hf') r1 t1 k1⟩
  cases o with
  | on | brk | cnt | ret | dry | deep => cases hf
  | flt f =>
    refine r_ifF (pb_is (pb_wN (i := 5) rfl hE rfl) rfl) ?_
    obtain ⟨ea', e0, e1, e2, e3, z, hE', u0, u1, u2, u3⟩ := Tp.tup4 (show Tp K H1 (.ref ea) (.tuple [.str "fault", .int (f.k : Int), .int f.v, .tuple (f.tr.map .int)]) from t1)
    cases z
    cases u0.strE; cases u1.intE; cases u2.intE
    obtain ⟨fk, fv0, fv1, ftr⟩ : FltOk p.kinds.length dp d f := hO
    refine rd_ixT (j := 2) rfl (tk1.sqT hT) rfl ⟨ha, rfl, ⟨_, tk1.sqT hHs⟩, for_tup (K := K) (a := ha) (xs := hxs) (fun i σ H' => ∃ (r : Hds) (v6 : Option V) (off : Nat), σ = [some (.ref rn), some (.ref a), some (.ref sl), some mv, some (.int (d : Int)), some (.ref ea), v6] ∧ Same H1 H' ∧ TpAll K H (hxs.drop i) r.ds ∧
        hs.pick p.kinds f.k = (r.pick p.kinds f.k).map fun z => (z.1, z.2.1, z.2.2 + off))
      ⟨hs, _, 0, rfl, Same.refl _, by rw [List.drop_zero]; exact ths, by cases hs.pick p.kinds f.k <;> rfl⟩ (fun i σ H' _ ⟨_, _, _, _, s', _⟩ => s'.sqT (tk1.sqT hHs)) ?_ ?_⟩
    · rintro i x σ H2 hx ⟨r, v6, off, rfl, s2, tr, pk⟩
      obtain ⟨k, slt, tt, r', rfl, tx, tr'⟩ := hds_at tr hx
      have tk2 := tk1.trans (Tk.same s2)
      obtain ⟨y, y0, y1, y2, rfl, hY, z0, z1, z2⟩ := tx.tup3
      cases z1.intE
      obtain rfl := kindV_of z0
      have r2 := r1.same s2
      obtain ⟨ka, kxs, ekv, hK, hks⟩ := r2.kt.tupE
      obtain rfl := kinds_of hks
      refine ⟨_, rfl, rn, C, pv.dx, _, _, rfl, r2.ins, T.cl, T.kinds, rfl, rd_ixT (i := 6) (j := 0) rfl (tk2.sqT hY) rfl (rd_ixT (i := 5) (j := 1) rfl (s2.sqT hE') rfl ⟨ka, p.kinds, k, f.k, by rw [ekv]; rfl, hK, pre.pw.wf.kinds, fk, _, rfl, ?_⟩)⟩
      have s13 := s2
      have r3 := r2
      have tk3 := tk2
      rw [show (Hds.cons k slt tt r').pick p.kinds f.k = if takes p.kinds k f.k = true then some (slt, tt, 0) else (r'.pick p.kinds f.k).map fun z => (z.1, z.2.1, z.2.2 + (2 + tt.len + 2)) by rw [Hds.pick]] at pk
      refine ifB (fun ht => ?_) (fun ht => ?_)
      · rw [if_pos ht] at pk
        replace pk : hs.pick p.kinds f.k = some (slt, tt, 0 + off) := pk
        -- told
        obtain ⟨us, hus, lus, sayR⟩ : ∃ us, H2 tl = some (.lst us) ∧ us.length = w1.told.length ∧ True := by
          obtain ⟨us, h1, h2⟩ := r3.told
          exact ⟨us, h1, by rw [h2.length, List.length_map], trivial⟩
        refine ⟨_, rfl, rn, C, pv.dx, _, _, rfl, r3.ins, T.cl, T.told, rfl, .inl ⟨rfl, _, SqL.of hus⟩, rd_ixT (i := 5) (j := 1) rfl (s13.sqT hE') rfl (rd_ixT (i := 5) (j := 2) rfl (s13.sqT hE') rfl (rd_ixT (i := 5) (j := 3) rfl (s13.sqT hE') rfl ⟨(by show 4 ≤ sizeLine; decide), fun p4 hp4 => ?_⟩))⟩
        have s14 : Same H1 (L2.upd H2 p4 (.tup [.str "met", .int (f.k : Int), .int f.v, e3])) := s13.trans (Same.new hp4)
        have r4 := r3.same (Same.new (o := .tup [.str "met", .int (f.k : Int), .int f.v, e3]) hp4)
        have tev : Tp K (L2.upd H2 p4 (.tup [.str "met", .int (f.k : Int), .int f.v, e3])) (.ref p4) (Ev.met f).d := Tp.mk hp4 (.cons (.str _) (.cons (.int _) (.cons (.int _) (.cons (u3.mono (Tk.same s13)) .nil))))
        generalize L2.upd H2 p4 (.tup [.str "met", .int (f.k : Int), .int f.v, e3]) = H4 at s14 r4 tev ⊢
        obtain ⟨us4, hus4, lus4, r5⟩ := r4.say tev
        have tb : w1.told.length < 1000000 := by
          obtain ⟨a1, a2, a3, a4⟩ := hC
          have hb := pre.bud
          have hb' : (w.told.length : Int) + (s1.len + 1 + hs.len : Nat) + 2000 * (w.left + 1) ≤ 500000 := hb
          have a30 : 0 ≤ w1.left := a3.elim id fun z => by cases z
          omega
        refine ⟨tl, us4, _, rfl, rfl, hus4, sz_lt1 (by omega), ?_⟩
        have tk45 : Tk H4 (L2.upd H4 tl (.lst (us4 ++ [.ref p4]))) := Tk.lst hus4
        have k45 : Kp (B3 rn tl sl) H4 (L2.upd H4 tl (.lst (us4 ++ [.ref p4]))) := Kp.upd (.inr (.inl rfl))
        generalize L2.upd H4 tl (.lst (us4 ++ [.ref p4])) = H5 at r5 tk45 k45 ⊢
        have tk15 := (Tk.same s14).trans tk45
        -- the slot
        have wz : slt < 8 ∧ tt.Wf p.cs p.kinds.length turn true := by
          have := Hds.pick_wf wb pk
          exact this
        have lz := Hds.pick_len pk
        have dz := Hds.pick_dep pk
        replace lz : (0 + off) + 2 + tt.len + 2 ≤ hs.len := lz
        replace dz : tt.dep ≤ hs.dep := dz
        refine rd_ixT (i := 5) (j := 2) rfl (tk15.sqT hE') rfl ⟨_, rfl, rd_ixT (i := 6) (j := 1) rfl ((tk1.trans tk15).sqT hY) rfl ⟨sl, _, (slt : Int), slt, rfl, rfl, r5.slo, ixN_n (by rw [List.length_map]; have := hI.1; show slt < w1.σ.length; omega), ?_⟩⟩
        have r6 := r5.set (k := slt) (i := f.v)
        have k56 : Kp (B3 rn tl sl) H5 (L2.upd H5 sl (.lst ((w1.σ.map V.int).set slt (.int f.v)))) := Kp.upd (.inr (.inr rfl))
        have tk56 : Tk H5 (L2.upd H5 sl (.lst ((w1.σ.map V.int).set slt (.int f.v)))) := Tk.lst r5.slo
        generalize L2.upd H5 sl (.lst ((w1.σ.map V.int).set slt (.int f.v))) = H6 at r6 k56 tk56 ⊢
        have tk16 := tk15.trans tk56
        have tkH6 := tk1.trans tk16
        refine rMethW rfl r6.ins rfl (rd_ixT (i := 6) (j := 2) rfl (tkH6.sqT hY) rfl ⟨_, rfl, _, rfl, _, rfl, (by show 1 ≤ sizeLine; decide), fun p7 hp7 => ?_⟩)
        refine catA_tp (ds := met.map Flt.d) (es := [f.d]) ((tm.mono tkH6).mono (Tk.new hp7)) (Tp.mk hp7 (.cons (t1.mono tk16) .nil)) (by rw [List.length_map]; have := pre.mfew; simp; omega) fun mv2 H8 tm2 s8 => ?_
        have s68 : Same H6 H8 := (Same.new hp7).trans s8
        have tkH8 := tkH6.trans (Tk.same s68)
        rw [show met.map Flt.d ++ [f.d] = (met ++ [f]).map Flt.d by simp] at tm2
        have k08 : Kp (B3 rn tl sl) H H8 := (((k1.trans (Kp.same s14)).trans k45).trans k56).trans (Kp.same s68)
        have pre2 : WPre p dp n d (met ++ [f]) turn true tt { w1 with σ := w1.σ.set slt f.v, told := w1.told ++ [.met f] } := by
          obtain ⟨a1, a2, a3, a4⟩ := hC
          have a30 : 0 ≤ w1.left := a3.elim id fun z => by cases z
          have hb : (w.told.length : Int) + (s1.len + 1 + hs.len : Nat) + 2000 * (w.left + 1) ≤ 500000 := pre.bud
          have hdp : max s1.dep hs.dep + 1 + 6 * (dp - d) ≤ n + 1 := pre.dep
          have hmf : met.length + (max s1.dep hs.dep + 1) ≤ 100 := pre.mfew
          refine ⟨pre.pw, wz.2, hI.set ⟨fv0, fv1⟩, ⟨fun y hy => ?_, fun _ => by simp⟩, by simp; omega, pre.ddp, pre.dps, by omega, by omega, a30, by simp; omega⟩
          rcases List.mem_append.mp hy with z | z
          · exact pre.mok.1 y z
          · have : y = f := by simpa using z
            rw [this]; exact ⟨fk, fv0, fv1, ftr⟩
        refine ⟨_, rfl, pWalkW (r6.same s68) (z2.mono tkH8) tm2 pre2 trivial fun v9 o w2 c2 H9 hR2 hC2 hI2 hO2 r9 t9 k9 tk9 => ?_⟩
        exact q v9 o w2 _ H9 (.triC hR pk hR2) r9 t9 (k08.trans k9)
      · rw [if_neg (by rw [ht]; decide)] at pk
        refine ⟨r', _, off + (2 + tt.len + 2), rfl, s13, tr', ?_⟩
        rw [pk]
        cases r'.pick p.kinds f.k with
        | none => rfl
        | some z => simp only [Option.map_some]; rw [Nat.add_assoc, Nat.add_comm (2 + tt.len + 2) off]
    · rintro σ H2 ⟨r, v6, off, rfl, s2, tr, pk⟩
      cases hds_end tr
      exact ⟨_, rfl, q _ (.flt f) w1 c _ (.triX hR pk) (r1.same s2) (t1.mono (Tk.same s2)) (k1.trans (Kp.same s2))⟩
end
end Lp

/-! LvD: the program's walk: called, call, does. -/
namespace Lp
open PySem PySem.Spec PyProof.Rows L2
def t_slots_for (K : PySem.W.Frag) : TS :=
  tRet (tOp rCat (tCB (rLstOf K) (tCons (tVar 0) (tNil))) (tLc (iRng1 (tCons (tOp rSbI (tC (.int 8)) (tCB (rLenQ K) (tCons (tVar 0) (tNil)))) (tNil))) (gName 1) (tYes) (tC (.int 0)) [1]))

def t_Walker_called (K : PySem.W.Frag) (C_Walker : Addr) (sp_Walker_does : Sp) (sp_slots_for : Sp) (ad_ON : Addr) : TS :=
  tSeq (tAsg (tMeth C_Walker "does" sp_Walker_does [] E0 (tVar 0) (tCons (tOp (rIxT K) (tOp (rIxT K) (tFld K (tVar 0) "functions") (tVar 1)) (tC (.int 1))) (tCons (tCall sp_slots_for [] E0 (tCons (tVar 2) (tNil))) (tCons (tTup (tNil)) (tCons (tVar 3) (tNil)))))) (gName 4)) (tSeq (tIfS (tTest (tOp (rEqD K) (tVar 4) (tC (.ref ad_ON)))) (tRet (tTup (tCons (tC (.str "return")) (tCons (tC (.int 0)) (tNil))))) (tNext)) (tRet (tVar 4)))

def t_Walker_call (K : PySem.W.Frag) (sp_value_of : Sp) (C_Walker : Addr) (sp_Walker_counted : Sp) (sp_Walker_called : Sp) (ad_ON : Addr) : TS :=
  tSeq (tAsg (tLc (iTup K (tOp (rIxT K) (tVar 1) (tC (.int 3)))) (gName 5) (tYes) (tCall sp_value_of [] E0 (tCons (tVar 5) (tCons (tVar 2) (tNil)))) [5]) (gName 4)) (tSeq (tIfS (tNot (tB (tMeth C_Walker "counted" sp_Walker_counted [] E0 (tVar 0) tNil))) (tRet (tTup (tCons (tC (.str "dry")) (tNil)))) (tNext)) (tSeq (tIfS (tTest (tOp rEq (tVar 3) (tFld K (tVar 0) "deep"))) (tRet (tTup (tCons (tC (.str "deep")) (tNil)))) (tNext)) (tSeq (tAsg (tMeth C_Walker "called" sp_Walker_called [] E0 (tVar 0) (tCons (tOp (rIxT K) (tVar 1) (tC (.int 2))) (tCons (tVar 4) (tCons (tOp rAdI (tVar 3) (tC (.int 1))) (tNil))))) (gName 6)) (tSeq (tIfS (tTest (tOp rEq (tOp (rIxT K) (tVar 6) (tC (.int 0))) (tC (.str "return")))) (tSeq (tAsg (tOp (rIxT K) (tVar 6) (tC (.int 1))) (gSub (tVar 2) (tOp (rIxT K) (tVar 1) (tC (.int 1))) rSetL)) (tRet (tC (.ref ad_ON)))) (tNext)) (tSeq (tIfS (tTest (tOp rEq (tOp (rIxT K) (tVar 6) (tC (.int 0))) (tC (.str "fault")))) (tRet (tTup (tCons (tC (.str "fault")) (tCons (tOp (rIxT K) (tVar 6) (tC (.int 1))) (tCons (tOp (rIxT K) (tVar 6) (tC (.int 2))) (tCons (tOp (rCatA K) (tOp (rIxT K) (tVar 6) (tC (.int 3))) (tTup (tCons (tOp (rIxT K) (tVar 1) (tC (.int 4))) (tNil)))) (tNil))))))) (tNext)) (tRet (tVar 6)))))))

def t_Walker_does (K : PySem.W.Frag) (sp_value_of : Sp) (ad_ON : Addr) (C_Walker : Addr) (sp_Walker_row : Sp) (sp_Walker_does : Sp) (sp_Walker_looped : Sp) (sp_Walker_call : Sp) (sp_Walker_tried : Sp) (sp_Walker_cleaned : Sp) : TS :=
  tSeq (tAsg (tOp (rIxT K) (tVar 1) (tC (.int 0))) (gName 5)) (tSeq (tIfS (tTest (tOp rEq (tVar 5) (tC (.str "say")))) (tSeq (tDrop (tBM K "list" rAppend (tFld K (tVar 0) "told") (tCons (tTup (tCons (tC (.str "say")) (tCons (tCall sp_value_of [] E0 (tCons (tOp (rIxT K) (tVar 1) (tC (.int 1))) (tCons (tVar 2) (tNil)))) (tNil)))) (tNil)))) (tRet (tC (.ref ad_ON)))) (tNext)) (tSeq (tIfS (tTest (tOp rEq (tVar 5) (tC (.str "set")))) (tSeq (tAsg (tCall sp_value_of [] E0 (tCons (tOp (rIxT K) (tVar 1) (tC (.int 2))) (tCons (tVar 2) (tNil)))) (gSub (tVar 2) (tOp (rIxT K) (tVar 1) (tC (.int 1))) rSetL)) (tRet (tC (.ref ad_ON)))) (tNext)) (tSeq (tIfS (tTest (tOp rEq (tVar 5) (tC (.str "row")))) (tRet (tMeth C_Walker "row" sp_Walker_row [] E0 (tVar 0) (tCons (tOp (rIxT K) (tVar 1) (tC (.int 1))) (tCons (tVar 2) (tCons (tVar 3) (tCons (tVar 4) (tNil))))))) (tNext)) (tSeq (tIfS (tTest (tOp rEq (tVar 5) (tC (.str "if")))) (tSeq (tIfS (tTest (tOp rNe (tCall sp_value_of [] E0 (tCons (tOp (rIxT K) (tVar 1) (tC (.int 1))) (tCons (tVar 2) (tNil)))) (tC (.int 0)))) (tRet (tMeth C_Walker "does" sp_Walker_does [] E0 (tVar 0) (tCons (tOp (rIxT K) (tVar 1) (tC (.int 2))) (tCons (tVar 2) (tCons (tVar 3) (tCons (tVar 4) (tNil))))))) (tNext)) (tRet (tMeth C_Walker "does" sp_Walker_does [] E0 (tVar 0) (tCons (tOp (rIxT K) (tVar 1) (tC (.int 3))) (tCons (tVar 2) (tCons (tVar 3) (tCons (tVar 4) (tNil)))))))) (tNext)) (tSeq (tIfS (tTest (tOp rEq (tVar 5) (tC (.str "while")))) (tRet (tMeth C_Walker "looped" sp_Walker_looped [] E0 (tVar 0) (tCons (tVar 1) (tCons (tVar 2) (tCons (tVar 3) (tCons (tVar 4) (tNil))))))) (tNext)) (tSeq (tIfS (tTest (tOp rEq (tVar 5) (tC (.str "return")))) (tRet (tTup (tCons (tC (.str "return")) (tCons (tCall sp_value_of [] E0 (tCons (tOp (rIxT K) (tVar 1) (tC (.int 1))) (tCons (tVar 2) (tNil)))) (tNil))))) (tNext)) (tSeq (tIfS (tTest (tOp rEq (tVar 5) (tC (.str "raise")))) (tRet (tTup (tCons (tC (.str "fault")) (tCons (tOp (rIxT K) (tVar 1) (tC (.int 1))) (tCons (tCall sp_value_of [] E0 (tCons (tOp (rIxT K) (tVar 1) (tC (.int 2))) (tCons (tVar 2) (tNil)))) (tCons (tTup (tCons (tOp (rIxT K) (tVar 1) (tC (.int 3))) (tNil))) (tNil))))))) (tNext)) (tSeq (tIfS (tTest (tOp rEq (tVar 5) (tC (.str "again")))) (tRet (tOp (rIxT K) (tVar 3) (tUn rNeg (tC (.int 1))))) (tNext)) (tSeq (tIfS (tTest (tOp rEq (tVar 5) (tC (.str "call")))) (tRet (tMeth C_Walker "call" sp_Walker_call [] E0 (tVar 0) (tCons (tVar 1) (tCons (tVar 2) (tCons (tVar 4) (tNil)))))) (tNext)) (tSeq (tIfS (tTest (tOp rEq (tVar 5) (tC (.str "try")))) (tRet (tMeth C_Walker "tried" sp_Walker_tried [] E0 (tVar 0) (tCons (tVar 1) (tCons (tVar 2) (tCons (tVar 3) (tCons (tVar 4) (tNil))))))) (tNext)) (tSeq (tIfS (tTest (tOp rEq (tVar 5) (tC (.str "clean")))) (tRet (tMeth C_Walker "cleaned" sp_Walker_cleaned [] E0 (tVar 0) (tCons (tVar 1) (tCons (tVar 2) (tCons (tVar 3) (tCons (tVar 4) (tNil))))))) (tNext)) (tRet (tVar 1)))))))))))))

section
variable {K : PySem.W.Frag} {C on : Addr}
def spSlots (K : PySem.W.Frag) : Sp := fun vs H Q _ => ∃ (nl : Addr) (ns : List Int), vs = [.ref nl] ∧ H nl = some (.lst (ns.map V.int)) ∧ ns.length ≤ 3 ∧ ∀ (r : Addr) (H' : Hp), H r = none → H' r = some (.lst ((slotsFor ns).map V.int)) → Same H H' → Q (.ref r) H'
theorem rd_slots_for (vs : List V) (H : Hp) (Q : VK) (E : XK) (h : spSlots K vs H Q E) : t_slots_for K { nx := fun _ H' => Q .non H', rt := Q } (start ["numbers", "k"] vs) H := by
  obtain ⟨nl, ns, rfl, hn, hl, q⟩ := h
  refine ⟨_, rfl, nl, _, rfl, .inl (SqL.of hn), fun l1 hl1 => ?_⟩
  have s1 : Same H (L2.upd H l1 (.lst (ns.map V.int))) := Same.new hl1
  have hl1' : L2.upd H l1 (.lst (ns.map V.int)) l1 = some (.lst (ns.map V.int)) := upd_same
  generalize L2.upd H l1 (.lst (ns.map V.int)) = H1 at s1 hl1' ⊢
  refine ⟨_, rfl, nl, _, rfl, .inl (SqL.of (s1 _ _ hn)), _, _, rfl, rfl, _, rfl, by rw [List.length_map]; omega, by rw [List.length_map]; omega, fun D hD => lc_range (lo := 0) (n := (8 - ((ns.map V.int).length : Int)).toNat) (fun i H' => H' D = some (.lst (((List.range i).map fun _ => (0 : Int)).map V.int)) ∧ Same H1 H')
    ⟨upd_same, Same.new hD⟩ ?_ ?_⟩
  · rintro i H2 hi ⟨hv, s2⟩
    have hi8 : i < 8 := by rw [List.length_map] at hi; omega
    refine ⟨rfl, _, hv, sz_lt1 (by simp; omega), ?_, fun b o e => by rw [upd_ne (ne_of_none e hD)]; exact s2 b o e⟩
    rw [upd_same, List.range_succ, List.map_append, List.map_append]; rfl
  · rintro H2 ⟨hv, s2⟩
    have e8 : (8 - ((ns.map V.int).length : Int)).toNat = 8 - ns.length := by rw [List.length_map]; omega
    rw [e8] at hv
    refine cat_new (K := K) (ds := ns.map .int) (es := ((List.range (8 - ns.length)).map fun _ => (0 : Int)).map .int) (s2 _ _ hl1') hv (tp_ints _) (tp_ints _) (by simp; omega) fun r us H3 hr hus t3 s3 => ?_
    rw [← List.map_append, slots_eq] at t3
    obtain rfl := ints_of t3
    exact q r H3 ((s1.trans s2).free hr) hus ((s1.trans s2).trans s3)
structure CalledPW (K : PySem.W.Frag) (C : Addr) (n : Nat) (vs : List V) (H : Hp) (Q : VK) : Prop where
  ex : ∃ (p : Pg) (dp : Nat) (rn tl sl : Addr) (pv : WV) (w : WSt) (d f : Nat) (fn : Nat × Sm) (ns : List Int) (nl : Addr), vs = [.ref rn, .int (f : Int), .ref nl, .int (d : Int)] ∧ WkSt K C p dp H rn tl sl pv w ∧ H nl = some (.lst (ns.map V.int)) ∧ ns.length ≤ 3 ∧ p.funs[f]? = some fn ∧ WPre p dp n d [] false false fn.2 ⟨slotsFor ns, w.left, w.told⟩ ∧
    ∀ (v' : V) (o : Out) (w1 : WSt) (c : Nat) (H' : Hp), Rn p dp d [] fn.2 ⟨slotsFor ns, w.left, w.told⟩ o w1 c → OutOk p.kinds.length dp d false o → WkSt K C p dp H' rn tl sl pv ⟨w.σ, w1.left, w1.told⟩ → Tp K H' v' (calledEnd o).d → Kp (B3 rn tl sl) H H' → Q v' H'
def spCalledW (K : PySem.W.Frag) (C : Addr) (n : Nat) : Sp := fun vs H Q _ => CalledPW K C n vs H Q
theorem rd_calledW (T : WkTxt K C on) {n : Nat} (vs : List V) (H : Hp) (Q : VK) (E : XK) (h : spCalledW K C n vs H Q E) : t_Walker_called K C (spWalkW K C QAny n) (spSlots K) on { nx := fun _ H' => Q .non H', rt := Q } (start ["self", "number", "numbers", "depth", "end"] vs) H := by
  obtain ⟨p, dp, rn, tl, sl, pv, w, d, f, fn, ns, nl, rfl, rs, hn, hl, hf, pre, q⟩ := h.ex
  have rH : H rn ≠ none := by rw [rs.ins]; simp
  have tH : H tl ≠ none := by obtain ⟨us, h1, _⟩ := rs.told; rw [h1]; simp
  have sH : H sl ≠ none := by rw [rs.slo]; simp
  obtain ⟨fa, fxs, efv, hF, tfs⟩ := rs.ft.tupE
  obtain ⟨fx, hfx, tfx⟩ := tfs.get' (d := funD fn) (by rw [List.getElem?_map, hf]; rfl)
  obtain ⟨fxa, y0, y1, rfl, hX, z0, z1⟩ := Tp.tup2 (show Tp K H fx (.tuple [.int (fn.1 : Int), fn.2.d]) from tfx)
  refine rMethW rfl rs.ins rfl ⟨_, rfl, rn, C, pv.dx, _, _, rfl, rs.ins, T.cl, T.functions, rfl, _, rfl, fa, fxs, (f : Int), _, efv, rfl, hF, atI_nat hfx, fxa, _, ((1 : Nat) : Int), _, rfl, rfl, hX, atI_nat rfl, _, rfl, nl, ns, rfl, hn, hl, fun r H3 hr0 hus s03 => ⟨(by show 0 ≤ sizeLine; decide), fun p1 hp1 => ⟨_, rfl, ?_⟩⟩⟩
  have r3 := rs.same s03
  have s4 : Same H3 (L2.upd H3 p1 (.tup [])) := Same.new hp1
  have tmt : Tp K (L2.upd H3 p1 (.tup [])) (.ref p1) (metD []) := Tp.mk hp1 .nil
  generalize L2.upd H3 p1 (.tup []) = H4 at s4 tmt ⊢
  have r4 := r3.same s4
  have rr : WkSt K C p dp H4 rn tl r pv ⟨slotsFor ns, w.left, w.told⟩ := ⟨r4.ins, r4.told, s4 _ _ hus, r4.kt, r4.ft, r4.n1, fun e => rH (by rw [e]; exact hr0), fun e => tH (by rw [e]; exact hr0)⟩
  refine pWalkW rr ((z1.mono (Tk.same s03)).mono (Tk.same s4)) tmt pre trivial fun v' o w1 c H5 hR hC hI hO r5 t5 k5 tk5 => ?_
  have slr : ¬ B3 rn tl r sl := by
    rintro (z | z | z)
    · exact rs.n2 z.symm
    · exact rs.n3 z.symm
    · exact sH (by rw [z]; exact hr0)
  have k05 : Kp (B3 rn tl sl) H H5 := fun a o' e nb => k5 _ _ (s4 _ _ (s03 _ _ e)) (by
    rintro (z | z | z)
    · exact nb (.inl z)
    · exact nb (.inr (.inl z))
    · rw [z] at e; rw [hr0] at e; cases e)
  have rZ : WkSt K C p dp H5 rn tl sl pv ⟨w.σ, w1.left, w1.told⟩ := ⟨r5.ins, r5.told, k5 _ _ r4.slo slr, r5.kt, r5.ft, rs.n1, rs.n2, rs.n3⟩
  by_cases ho : o = .on
  · subst ho
    refine r_ifT (pb_is (pb_on T (i := 4) rfl t5) rfl) ⟨(by show 2 ≤ sizeLine; decide), fun p2 hp2 => ?_⟩
    exact q _ .on w1 c _ hR hO (rZ.same (Same.new hp2)) (Tp.mk hp2 (.cons (.str _) (.cons (.int _) .nil))) (k05.trans (Kp.new hp2))
  · refine r_ifF (pb_is (pb_on T (i := 4) rfl t5) (decide_eq_false ho)) ⟨_, rfl, ?_⟩
    exact q _ o w1 c _ hR hO rZ (by rw [calledEnd, if_neg ho]; exact t5) k05
structure CallsPW (K : PySem.W.Frag) (C : Addr) (n : Nat) (vs : List V) (H : Hp) (Q : VK) : Prop where
  ex : ∃ (p : Pg) (dp : Nat) (rn tl sl : Addr) (pv : WV) (v : V) (w : WSt) (d : Nat) (met : List Flt) (k f : Nat) (ps : List Ex) (m : Int) (turn hand : Bool), vs = [.ref rn, v, .ref sl, .int (d : Int)] ∧ WkSt K C p dp H rn tl sl pv w ∧ Tp K H v (Sm.call k f ps m).d ∧ WPre p dp (n + 1) d met turn hand (.call k f ps m) w ∧
    ∀ (v' : V) (o : Out) (w1 : WSt) (c : Nat) (H' : Hp), Rn p dp d met (.call k f ps m) w o w1 c → WkSt K C p dp H' rn tl sl pv w1 → Tp K H' v' o.d → Kp (B3 rn tl sl) H H' → Q v' H'
def spCallW (K : PySem.W.Frag) (C : Addr) (n : Nat) : Sp := fun vs H Q _ => CallsPW K C n vs H Q
theorem pCalledW {n : Nat} {H : Hp} {Q : VK} {p : Pg} {dp : Nat} {rn tl sl : Addr} {pv : WV} {w : WSt} {d f : Nat} {fn : Nat × Sm} {ns : List Int} {nl : Addr} {di : Int} (hd : di = ((d : Nat) : Int)) (r : WkSt K C p dp H rn tl sl pv w) (hn : H nl = some (.lst (ns.map V.int))) (hl : ns.length ≤ 3) (hf : p.funs[f]? = some fn) (pre : WPre p dp n d [] false false fn.2 ⟨slotsFor ns, w.left, w.told⟩)
    (q : ∀ (v' : V) (o : Out) (w1 : WSt) (c : Nat) (H' : Hp), Rn p dp d [] fn.2 ⟨slotsFor ns, w.left, w.told⟩ o w1 c → OutOk p.kinds.length dp d false o → WkSt K C p dp H' rn tl sl pv ⟨w.σ, w1.left, w1.told⟩ → Tp K H' v' (calledEnd o).d → Kp (B3 rn tl sl) H H' → Q v' H') : spCalledW K C n [.ref rn, .int (f : Int), .ref nl, .int di] H Q E0 := by
  subst hd
  exact ⟨p, dp, rn, tl, sl, pv, w, d, f, fn, ns, nl, rfl, r, hn, hl, hf, pre, q⟩
abbrev N_callW : List Str := ["self", "one", "slots", "depth", "numbers", "part", "end"]
theorem rd_callW (T : WkTxt K C on) {n : Nat} (vs : List V) (H : Hp) (Q : VK) (E : XK) (h : spCallW K C n vs H Q E) : t_Walker_call K (spVal K 5) C (spCountW K C) (spCalledW K C n) on { nx := fun _ H' => Q .non H', rt := Q } (start N_callW vs) H := by
  obtain ⟨p, dp, rn, tl, sl, pv, v, w, d, met, k, f, ps, m, turn, hand, rfl, rs, tv, pre, q⟩ := h.ex
  obtain ⟨a, x0, x1, x2, x3, x4, rfl, hT, h0, h1, h2, h3, h4⟩ := tv.tup5
  cases h1.intE; cases h2.intE; cases h4.intE
  obtain ⟨pa, pxs, rfl, hP, hps⟩ := h3.tupE
  have lpx : pxs.length = ps.length := by rw [hps.length, List.length_map]
  obtain ⟨k8, hcs, lp, wps, m0, m1⟩ : k < 8 ∧ p.cs[f]? = some ps.length ∧ ps.length ≤ 3 ∧ (∀ e ∈ ps, e.Wf ∧ e.dep ≤ 5) ∧ 0 ≤ m ∧ m < 1000 := pre.wf
  obtain ⟨fn, hfn⟩ : ∃ fn, p.funs[f]? = some fn := by
    unfold Pg.cs at hcs
    rw [List.getElem?_map] at hcs
    cases e : p.funs[f]? with
    | none => rw [e] at hcs; cases hcs
    | some fn => exact ⟨fn, rfl⟩
  refine rd_ixT (j := 3) rfl hT rfl ⟨pa, rfl, ⟨_, hP⟩, fun D hD => lc_tup (K := K) (a := pa) (xs := pxs) (fun i H' => H' D = some (.lst (((ps.take i).map (Ex.val w.σ)).map V.int)) ∧ Same H H') ⟨upd_same, Same.new hD⟩ (fun i H' _ ⟨_, s'⟩ => s'.sqT hP) ?_ ?_⟩
  · rintro i x H1 hx ⟨hv, s1⟩
    obtain ⟨de, hde, te⟩ := hps.get hx
    rw [List.getElem?_map] at hde
    cases ee : ps[i]? with
    | none => rw [ee] at hde; cases hde
    | some e =>
      rw [ee] at hde
      obtain rfl : e.d = de := Option.some.inj hde
      obtain ⟨we, dd⟩ := wps e (List.mem_of_getElem? ee)
      refine ⟨rfl, _, rfl, _, rfl, x, sl, e, w.σ, rfl, te.mono (Tk.same s1), we, dd, SqL.of (s1 _ _ rs.slo), pre.inr, _, hv, sz_lt1 (by simp; omega), ?_, fun b o e => by rw [upd_ne (ne_of_none e hD)]; exact s1 b o e⟩
      rw [upd_same, List.take_succ, ee, List.map_append, List.map_append]; rfl
  rintro H1 ⟨hv, s1⟩
  rw [List.take_of_length_le (by omega)] at hv
  have r1 := rs.same s1
  refine rMethW rfl r1.ins rfl ⟨p, dp, rn, tl, sl, pv, w, rfl, r1, _, rfl, ?_⟩
  have rc := r1.count (i := w.left - 1)
  have nD : rn ≠ D := ne_of_none rs.ins hD
  have hv2 : L2.upd H1 rn (.ins C pv.dx (wfs pv (w.left - 1) dp tl)) D = some (.lst ((ps.map (Ex.val w.σ)).map V.int)) := by rw [upd_ne nD.symm]; exact hv
  have kc : Kp (B3 rn tl sl) H (L2.upd H1 rn (.ins C pv.dx (wfs pv (w.left - 1) dp tl))) := (Kp.same s1).trans (Kp.upd (.inl rfl))
  generalize L2.upd H1 rn (.ins C pv.dx (wfs pv (w.left - 1) dp tl)) = H2 at rc kc hv2 ⊢
  have tk2 := rs.tk kc
  by_cases hl : 0 < w.left
  case neg =>
    refine ifT (by rw [decide_eq_false (by omega)]; rfl) ⟨(by show 1 ≤ sizeLine; decide), fun p1 hp1 => ?_⟩
    exact q _ .dry _ _ _ (.callD (by omega)) (rc.same (Same.new hp1)) (Tp.mk hp1 (.cons (.str _) .nil)) (kc.trans (Kp.new hp1))
  refine ifF (by rw [decide_eq_true (by omega)]; rfl) ?_
  refine ⟨_, rfl, _, rfl, rn, C, pv.dx, _, _, rfl, rc.ins, T.cl, T.deep, rfl, rfl, _, rfl, ?_⟩
  by_cases hd : d = dp
  · subst hd
    refine ifT (dT rfl) ⟨(by show 1 ≤ sizeLine; decide), fun p1 hp1 => ?_⟩
    exact q _ .deep _ _ _ (.callP hl rfl) (rc.same (Same.new hp1)) (Tp.mk hp1 (.cons (.str _) .nil)) (kc.trans (Kp.new hp1))
  refine ifF (dF (fun z => hd (by have := V.int.inj z; omega))) ?_
  have hfm := List.mem_of_getElem? hfn
  have lenf := pre.pw.len fn hfm
  have preF : WPre p dp n (d + 1) [] false false fn.2 ⟨slotsFor (ps.map (Ex.val w.σ)), w.left - 1, w.told⟩ := by
    have hb : (w.told.length : Int) + (exsLen ps + 2 : Nat) + 2000 * (w.left + 1) ≤ 500000 := pre.bud
    have hdp : 1 + 6 * (dp - d) ≤ n + 1 := pre.dep
    have hdd := pre.ddp
    have depf := pre.pw.dep fn hfm
    refine ⟨pre.pw, pre.pw.wf.body fn hfm, slotsFor_in (by simp; omega) (fun y hy => ?_), ⟨(fun _ z => nomatch z), (fun z => nomatch z)⟩, by simp; omega, by omega, pre.dps, by omega, lenf, by show 0 ≤ w.left - 1; omega, by show (w.told.length : Int) + _ + 2000 * (w.left - 1 + 1) ≤ _; omega⟩
    obtain ⟨e, he, rfl⟩ := List.mem_map.mp hy
    exact Ex.val_in pre.inr (wps e he).1
  refine rMethW rfl rc.ins rfl (rd_ixT (j := 2) rfl (tk2.sqT hT) rfl ⟨_, rfl, _, rfl, _, _, rfl, rfl, pCalledW (d := d + 1) (by simp) rc hv2 (by simp; omega) hfn preF fun v' o w1 c H3 hR hO r3 t3 k3 => ?_⟩)
  have k03 := kc.trans k3
  have tk3 := rs.tk k03
  have fin := Rn.call (met := met) (k := k) (m := m) hl hd hfn hR
  obtain ⟨ea, er, rfl, hE, he⟩ := Out.tup t3
  cases o with
  | brk => cases hO
  | cnt => cases hO
  | on =>
    obtain ⟨e1, er', rfl, z1, _⟩ := TpAll.consE (show TpAll K H3 er [.int 0] from he)
    cases z1.intE
    refine r_ifT (pb_is (pb_w (i := 6) rfl hE rfl) rfl) (rd_ixT (i := 6) (j := 1) rfl hE rfl ⟨_, rfl, rd_ixT (j := 1) rfl (tk3.sqT hT) rfl ⟨sl, _, (k : Int), k, rfl, rfl, r3.slo, ixN_n (by rw [List.length_map]; have := pre.inr.1; show k < w.σ.length; omega), ?_⟩⟩)
    exact q _ .on _ _ _ fin (r3.set (k := k) (i := 0)) (T.on _) (k03.trans (Kp.upd (.inr (.inr rfl))))
  | ret i =>
    obtain ⟨e1, er', rfl, z1, _⟩ := TpAll.consE (show TpAll K H3 er [.int i] from he)
    cases z1.intE
    refine r_ifT (pb_is (pb_w (i := 6) rfl hE rfl) rfl) (rd_ixT (i := 6) (j := 1) rfl hE rfl ⟨_, rfl, rd_ixT (j := 1) rfl (tk3.sqT hT) rfl ⟨sl, _, (k : Int), k, rfl, rfl, r3.slo, ixN_n (by rw [List.length_map]; have := pre.inr.1; show k < w.σ.length; omega), ?_⟩⟩)
    exact q _ .on _ _ _ fin (r3.set (k := k) (i := i)) (T.on _) (k03.trans (Kp.upd (.inr (.inr rfl))))
  | flt g =>
    obtain ⟨e1, r1', rfl, z1, he⟩ := TpAll.consE (show TpAll K H3 er [.int (g.k : Int), .int g.v, .tuple (g.tr.map .int)] from he)
    obtain ⟨e2, r2', rfl, z2, he⟩ := TpAll.consE he
    obtain ⟨e3, r3', rfl, z3, he⟩ := TpAll.consE he
    cases he.nilE
    cases z1.intE; cases z2.intE
    refine r_ifF (pb_is (pb_w (i := 6) rfl hE rfl) rfl) (r_ifT (pb_is (pb_w (i := 6) rfl hE rfl) rfl) ?_)
    refine rd_ixT (i := 6) (j := 1) rfl hE rfl (rd_ixT (i := 6) (j := 2) rfl hE rfl (rd_ixT (i := 6) (j := 3) rfl hE rfl (rd_ixT (j := 4) rfl (tk3.sqT hT) rfl ⟨(by show 1 ≤ sizeLine; decide), fun p4 hp4 => ?_⟩)))
    refine catA_tp (ds := g.tr.map .int) (es := [.int m]) (z3.mono (Tk.new hp4)) (Tp.mk hp4 (.cons (.int _) .nil)) (by obtain ⟨_, _, _, hh⟩ := hO; have := pre.dps; simp; omega) fun tv2 H5 t5 s5 => ⟨(by show 4 ≤ sizeLine; decide), fun p6 hp6 => ?_⟩
    have s35 : Same H3 H5 := (Same.new hp4).trans s5
    rw [show g.tr.map PyData.int ++ [.int m] = (g.tr ++ [m]).map .int by simp] at t5
    exact q _ (.flt { g with tr := g.tr ++ [m] }) _ _ _ fin ((r3.same s35).same (Same.new hp6)) (Tp.mk hp6 (.cons (.str _) (.cons (.int _) (.cons (.int _) (.cons t5 .nil))))) ((k03.trans (Kp.same s35)).trans (Kp.new hp6))
  | dry =>
    exact r_ifF (pb_is (pb_w (i := 6) rfl hE rfl) rfl) (r_ifF (pb_is (pb_w (i := 6) rfl hE rfl) rfl) ⟨_, rfl, q _ .dry _ _ _ fin r3 t3 k03⟩)
  | deep =>
    exact r_ifF (pb_is (pb_w (i := 6) rfl hE rfl) rfl) (r_ifF (pb_is (pb_w (i := 6) rfl hE rfl) rfl) ⟨_, rfl, q _ .deep _ _ _ fin r3 t3 k03⟩)
abbrev N_doesW : List Str := ["self", "one", "slots", "met", "depth", "word"]
theorem rd_doesW (T : WkTxt K C on) {n : Nat} (vs : List V) (H : Hp) (Q : VK) (E : XK) (h : spWalkW K C QAny (n + 1) vs H Q E) : t_Walker_does K (spVal K 5) on C (spRowW K C n) (spWalkW K C QAny n) (spWalkW K C QWhl (n + 1)) (spCallW K C n) (spWalkW K C QTri (n + 1)) (spWalkW K C QCln (n + 1)) { nx := fun _ H' => Q .non H', rt := Q } (start N_doesW vs) H := by
  obtain ⟨p, dp, rn, tl, sl, pv, v, mv, w, d, met, s, turn, hand, rfl, rs, tv, tm, pre, _, q⟩ := h.ex
  have tb : w.told.length < 1000000 := by have := pre.bud; have := pre.left; omega
  cases s with
  | say e =>
    obtain ⟨a, x0, x1, rfl, hT, h0, h1⟩ := tv.tup2
    cases h0.strE
    obtain ⟨we, de⟩ : e.Wf ∧ e.dep ≤ 5 := pre.wf
    refine rd_ixT (j := 0) rfl hT rfl (r_ifT (pb_is (pb_eqS rfl) rfl) ?_)
    obtain ⟨us, hus, tus⟩ := rs.told
    refine ⟨_, rfl, rn, C, pv.dx, _, _, rfl, rs.ins, T.cl, T.told, rfl, .inl ⟨rfl, _, SqL.of hus⟩, rd_ixT (j := 1) rfl hT rfl ⟨_, rfl, x1, sl, e, w.σ, rfl, h1, we, de, SqL.of rs.slo, pre.inr, (by show 2 ≤ sizeLine; decide), fun p1 hp1 => ?_⟩⟩
    have r1 := rs.same (Same.new (o := .tup [.str "say", .int (e.val w.σ)]) hp1)
    obtain ⟨us1, hus1, lus1, r2⟩ := r1.say (e := .say (e.val w.σ)) (Tp.mk hp1 (.cons (.str _) (.cons (.int _) .nil)))
    refine ⟨tl, us1, _, rfl, rfl, hus1, sz_lt1 (by omega), ?_⟩
    exact q _ .on _ _ _ .say r2 (T.on _) ((Kp.new hp1).trans (Kp.upd (.inr (.inl rfl))))
  | set k e =>
    obtain ⟨a, x0, x1, x2, rfl, hT, h0, h1, h2⟩ := tv.tup3
    cases h0.strE; cases h1.intE
    obtain ⟨k8, we, de⟩ : k < 8 ∧ e.Wf ∧ e.dep ≤ 5 := pre.wf
    refine rd_ixT (j := 0) rfl hT rfl (r_ifF (pb_is (pb_eqS rfl) rfl) (r_ifT (pb_is (pb_eqS rfl) rfl) ?_))
    refine rd_ixT (j := 2) rfl hT rfl ⟨_, rfl, x2, sl, e, w.σ, rfl, h2, we, de, SqL.of rs.slo, pre.inr, _, rfl, rd_ixT (j := 1) rfl hT rfl ⟨sl, _, (k : Int), k, rfl, rfl, rs.slo, ixN_n (by rw [List.length_map]; have := pre.inr.1; omega), ?_⟩⟩
    exact q _ .on _ _ _ .set (rs.set (k := k) (i := e.val w.σ)) (T.on _) (Kp.upd (.inr (.inr rfl)))
  | row ps =>
    obtain ⟨a, x0, x1, rfl, hT, h0, h1⟩ := tv.tup2
    cases h0.strE
    refine rd_ixT (j := 0) rfl hT rfl (r_ifF (pb_is (pb_eqS rfl) rfl) (r_ifF (pb_is (pb_eqS rfl) rfl) (r_ifT (pb_is (pb_eqS rfl) rfl) ?_)))
    exact rMethW rfl rs.ins rfl (rd_ixT (j := 1) rfl hT rfl ⟨_, rfl, _, rfl, _, rfl, ⟨⟨p, dp, rn, tl, sl, pv, x1, mv, w, d, met, ps, turn, hand, rfl, rs, h1, tm, pre, fun v' o w1 c H' hR r' t' k' => q v' o w1 c H' (.row hR) r' t' k'⟩⟩⟩)
  | ife e s1 s2 =>
    obtain ⟨a, x0, x1, x2, x3, rfl, hT, h0, h1, h2, h3⟩ := tv.tup4
    cases h0.strE
    obtain ⟨⟨we, de⟩, wa, wb⟩ : (e.Wf ∧ e.dep ≤ 5) ∧ s1.Wf p.cs p.kinds.length turn hand ∧ s2.Wf p.cs p.kinds.length turn hand := pre.wf
    refine rd_ixT (j := 0) rfl hT rfl (r_ifF (pb_is (pb_eqS rfl) rfl) (r_ifF (pb_is (pb_eqS rfl) rfl) (r_ifF (pb_is (pb_eqS rfl) rfl) (r_ifT (pb_is (pb_eqS rfl) rfl) ?_))))
    refine rd_ixT (j := 1) rfl hT rfl ⟨_, rfl, x1, sl, e, w.σ, rfl, h1, we, de, SqL.of rs.slo, pre.inr, rfl, _, rfl, ?_⟩
    by_cases hz : e.val w.σ = 0
    · refine ifF (by rw [hz]; rfl) (rMethW rfl rs.ins rfl (rd_ixT (j := 3) rfl hT rfl ⟨_, rfl, _, rfl, _, rfl, pWalkW rs h3 tm (pre.first wb (by show s2.dep + 1 ≤ max s1.dep s2.dep + 1; omega) (by show s2.len ≤ e.len + 1 + s1.len + 1 + s2.len; omega)) trivial fun v' o w1 c H' hR _ _ _ r' t' k' _ => ?_⟩))
      exact q v' o w1 _ H' (.ifF hz hR) r' t' k'
    · refine ifT (by rw [decide_eq_false (fun z => hz (V.int.inj z))]; rfl) (rMethW rfl rs.ins rfl (rd_ixT (j := 2) rfl hT rfl ⟨_, rfl, _, rfl, _, rfl, pWalkW rs h2 tm (pre.first wa (by show s1.dep + 1 ≤ max s1.dep s2.dep + 1; omega) (by show s1.len ≤ e.len + 1 + s1.len + 1 + s2.len; omega)) trivial fun v' o w1 c H' hR _ _ _ r' t' k' _ => ?_⟩))
      exact q v' o w1 _ H' (.ifT hz hR) r' t' k'
  | whl e s1 =>
    obtain ⟨a, x0, x1, x2, rfl, hT, h0, h1, h2⟩ := id tv.tup3
    cases h0.strE
    refine rd_ixT (j := 0) rfl hT rfl (r_ifF (pb_is (pb_eqS rfl) rfl) (r_ifF (pb_is (pb_eqS rfl) rfl) (r_ifF (pb_is (pb_eqS rfl) rfl) (r_ifF (pb_is (pb_eqS rfl) rfl) (r_ifT (pb_is (pb_eqS rfl) rfl) ?_)))))
    exact rMethW rfl rs.ins rfl ⟨_, rfl, _, rfl, _, rfl, _, rfl, pWalkW rs tv tm pre ⟨_, _, rfl⟩ fun v' o w1 c H' hR _ _ _ r' t' k' _ => q v' o w1 c H' hR r' t' k'⟩
  | ret e =>
    obtain ⟨a, x0, x1, rfl, hT, h0, h1⟩ := tv.tup2
    cases h0.strE
    obtain ⟨we, de⟩ : e.Wf ∧ e.dep ≤ 5 := pre.wf
    refine rd_ixT (j := 0) rfl hT rfl (r_ifF (pb_is (pb_eqS rfl) rfl) (r_ifF (pb_is (pb_eqS rfl) rfl) (r_ifF (pb_is (pb_eqS rfl) rfl) (r_ifF (pb_is (pb_eqS rfl) rfl) (r_ifF (pb_is (pb_eqS rfl) rfl) (r_ifT (pb_is (pb_eqS rfl) rfl) ?_))))))
    refine rd_ixT (j := 1) rfl hT rfl ⟨_, rfl, x1, sl, e, w.σ, rfl, h1, we, de, SqL.of rs.slo, pre.inr, (by show 2 ≤ sizeLine; decide), fun p1 hp1 => ?_⟩
    exact q _ (.ret (e.val w.σ)) w _ _ .ret (rs.same (Same.new hp1)) (Tp.mk hp1 (.cons (.str _) (.cons (.int _) .nil))) (Kp.new hp1)
  | rais kd e m =>
    obtain ⟨a, x0, x1, x2, x3, rfl, hT, h0, h1, h2, h3⟩ := tv.tup4
    cases h0.strE; cases h1.intE; cases h3.intE
    obtain ⟨_, ⟨we, de⟩, _⟩ : kd < p.kinds.length ∧ (e.Wf ∧ e.dep ≤ 5) ∧ 0 ≤ m ∧ m < 1000 := pre.wf
    refine rd_ixT (j := 0) rfl hT rfl (r_ifF (pb_is (pb_eqS rfl) rfl) (r_ifF (pb_is (pb_eqS rfl) rfl) (r_ifF (pb_is (pb_eqS rfl) rfl) (r_ifF (pb_is (pb_eqS rfl) rfl) (r_ifF (pb_is (pb_eqS rfl) rfl) (r_ifF (pb_is (pb_eqS rfl) rfl) (r_ifT (pb_is (pb_eqS rfl) rfl) ?_)))))))
    refine rd_ixT (j := 1) rfl hT rfl (rd_ixT (j := 2) rfl hT rfl ⟨_, rfl, x2, sl, e, w.σ, rfl, h2, we, de, SqL.of rs.slo, pre.inr, rd_ixT (j := 3) rfl hT rfl ⟨(by show 1 ≤ sizeLine; decide), fun p1 hp1 => ⟨(by show 4 ≤ sizeLine; decide), fun p2 hp2 => ?_⟩⟩⟩)
    exact q _ (.flt ⟨kd, e.val w.σ, [m]⟩) w _ _ .rais ((rs.same (Same.new hp1)).same (Same.new hp2)) (Tp.mk hp2 (.cons (.str _) (.cons (.int _) (.cons (.int _) (.cons (Tp.mk hp1 (.cons (.int _) .nil)) .nil))))) ((Kp.new hp1).trans (Kp.new hp2))
  | again =>
    obtain ⟨a, x0, rfl, hT, h0⟩ := id tv.tup1
    cases h0.strE
    have hne : met ≠ [] := pre.mok.2 pre.wf
    obtain ⟨ma, mxs, rfl, hM, tms⟩ := tm.tupE
    refine rd_ixT (j := 0) rfl hT rfl (r_ifF (pb_is (pb_eqS rfl) rfl) (r_ifF (pb_is (pb_eqS rfl) rfl) (r_ifF (pb_is (pb_eqS rfl) rfl) (r_ifF (pb_is (pb_eqS rfl) rfl) (r_ifF (pb_is (pb_eqS rfl) rfl) (r_ifF (pb_is (pb_eqS rfl) rfl) (r_ifF (pb_is (pb_eqS rfl) rfl) (r_ifT (pb_is (pb_eqS rfl) rfl) ?_))))))))
    have hl := List.getLast?_eq_some_getLast hne
    have lm : mxs.length = met.length := by rw [tms.length, List.length_map]
    have pos : 0 < met.length := List.length_pos_iff.mpr hne
    obtain ⟨x, hx, tx⟩ := tms.get' (i := met.length - 1) (d := (met.getLast hne).d) (by rw [List.getElem?_map, ← List.getLast?_eq_getElem?, hl]; rfl)
    have hat : atI mxs (-1) = some x := by
      have hsplit : mxs = mxs.dropLast ++ [x] := by
        have hn : mxs ≠ [] := fun z => by rw [z] at lm; simp at lm; omega
        have e1 : mxs.getLast? = some x := by rw [List.getLast?_eq_getElem?, lm]; exact hx
        have e2 : mxs.getLast hn = x := by
          have z := List.getLast?_eq_some_getLast hn
          rw [e1] at z
          exact (Option.some.inj z).symm
        rw [← e2]
        exact (List.dropLast_concat_getLast hn).symm
      rw [hsplit]; exact atI_last _ _
    exact ⟨_, rfl, _, rfl, ma, mxs, -1, x, rfl, rfl, hM, hat, q x (.flt (met.getLast hne)) w 1 H (.again hl) rs tx (Kp.refl _ _)⟩
  | call k f ps m =>
    obtain ⟨a, x0, x1, x2, x3, x4, rfl, hT, h0, h1, h2, h3, h4⟩ := id tv.tup5
    cases h0.strE
    refine rd_ixT (j := 0) rfl hT rfl (r_ifF (pb_is (pb_eqS rfl) rfl) (r_ifF (pb_is (pb_eqS rfl) rfl) (r_ifF (pb_is (pb_eqS rfl) rfl) (r_ifF (pb_is (pb_eqS rfl) rfl) (r_ifF (pb_is (pb_eqS rfl) rfl) (r_ifF (pb_is (pb_eqS rfl) rfl) (r_ifF (pb_is (pb_eqS rfl) rfl) (r_ifF (pb_is (pb_eqS rfl) rfl) (r_ifT (pb_is (pb_eqS rfl) rfl) ?_)))))))))
    exact rMethW rfl rs.ins rfl ⟨_, rfl, _, rfl, _, rfl, ⟨⟨p, dp, rn, tl, sl, pv, _, w, d, met, k, f, ps, m, turn, hand, rfl, rs, tv, pre, q⟩⟩⟩
  | tri s1 hs =>
    obtain ⟨a, x0, x1, x2, rfl, hT, h0, h1, h2⟩ := id tv.tup3
    cases h0.strE
    refine rd_ixT (j := 0) rfl hT rfl (r_ifF (pb_is (pb_eqS rfl) rfl) (r_ifF (pb_is (pb_eqS rfl) rfl) (r_ifF (pb_is (pb_eqS rfl) rfl) (r_ifF (pb_is (pb_eqS rfl) rfl) (r_ifF (pb_is (pb_eqS rfl) rfl) (r_ifF (pb_is (pb_eqS rfl) rfl) (r_ifF (pb_is (pb_eqS rfl) rfl) (r_ifF (pb_is (pb_eqS rfl) rfl) (r_ifF (pb_is (pb_eqS rfl) rfl) (r_ifT (pb_is (pb_eqS rfl) rfl) ?_))))))))))
    exact rMethW rfl rs.ins rfl ⟨_, rfl, _, rfl, _, rfl, _, rfl, pWalkW rs tv tm pre ⟨_, _, rfl⟩ fun v' o w1 c H' hR _ _ _ r' t' k' _ => q v' o w1 c H' hR r' t' k'⟩
  | cln s1 s2 =>
    obtain ⟨a, x0, x1, x2, rfl, hT, h0, h1, h2⟩ := id tv.tup3
    cases h0.strE
    refine rd_ixT (j := 0) rfl hT rfl (r_ifF (pb_is (pb_eqS rfl) rfl) (r_ifF (pb_is (pb_eqS rfl) rfl) (r_ifF (pb_is (pb_eqS rfl) rfl) (r_ifF (pb_is (pb_eqS rfl) rfl) (r_ifF (pb_is (pb_eqS rfl) rfl) (r_ifF (pb_is (pb_eqS rfl) rfl) (r_ifF (pb_is (pb_eqS rfl) rfl) (r_ifF (pb_is (pb_eqS rfl) rfl) (r_ifF (pb_is (pb_eqS rfl) rfl) (r_ifF (pb_is (pb_eqS rfl) rfl) (r_ifT (pb_is (pb_eqS rfl) rfl) ?_)))))))))))
    exact rMethW rfl rs.ins rfl ⟨_, rfl, _, rfl, _, rfl, _, rfl, pWalkW rs tv tm pre ⟨_, _, rfl⟩ fun v' o w1 c H' hR _ _ _ r' t' k' _ => q v' o w1 c H' hR r' t' k'⟩
  | brk =>
    obtain ⟨a, x0, rfl, hT, h0⟩ := id tv.tup1
    cases h0.strE
    refine rd_ixT (j := 0) rfl hT rfl (r_ifF (pb_is (pb_eqS rfl) rfl) (r_ifF (pb_is (pb_eqS rfl) rfl) (r_ifF (pb_is (pb_eqS rfl) rfl) (r_ifF (pb_is (pb_eqS rfl) rfl) (r_ifF (pb_is (pb_eqS rfl) rfl) (r_ifF (pb_is (pb_eqS rfl) rfl) (r_ifF (pb_is (pb_eqS rfl) rfl) (r_ifF (pb_is (pb_eqS rfl) rfl) (r_ifF (pb_is (pb_eqS rfl) rfl) (r_ifF (pb_is (pb_eqS rfl) rfl) (r_ifF (pb_is (pb_eqS rfl) rfl) ?_)))))))))))
    exact ⟨_, rfl, q _ .brk w 1 H .brk rs tv (Kp.refl _ _)⟩
  | cnt =>
    obtain ⟨a, x0, rfl, hT, h0⟩ := id tv.tup1
    cases h0.strE
    refine rd_ixT (j := 0) rfl hT rfl (r_ifF (pb_is (pb_eqS rfl) rfl) (r_ifF (pb_is (pb_eqS rfl) rfl) (r_ifF (pb_is (pb_eqS rfl) rfl) (r_ifF (pb_is (pb_eqS rfl) rfl) (r_ifF (pb_is (pb_eqS rfl) rfl) (r_ifF (pb_is (pb_eqS rfl) rfl) (r_ifF (pb_is (pb_eqS rfl) rfl) (r_ifF (pb_is (pb_eqS rfl) rfl) (r_ifF (pb_is (pb_eqS rfl) rfl) (r_ifF (pb_is (pb_eqS rfl) rfl) (r_ifF (pb_is (pb_eqS rfl) rfl) ?_)))))))))))
    exact ⟨_, rfl, q _ .cnt w 1 H .cnt rs tv (Kp.refl _ _)⟩
end
end Lp

/-! LvE: both walks whole. -/
namespace Lp
open PySem PySem.Spec PyProof.Rows L2
def t_Walker_init (K : PySem.W.Frag) : TS :=
  tSeq (sFld K (tVar 0) (tOp (rIxT K) (tVar 1) (tC (.int 0))) "kinds") (tSeq (sFld K (tVar 0) (tOp (rIxT K) (tVar 1) (tC (.int 1))) "functions") (tSeq (sFld K (tVar 0) (tVar 2) "left") (tSeq (sFld K (tVar 0) (tVar 3) "deep") (sFld K (tVar 0) (tLst (tNil)) "told"))))

def t_walked (K : PySem.W.Frag) (C_Walker : Addr) (sp_Walker_init : Sp) (sp_Walker_called : Sp) : TS :=
  tSeq (tAsg (tMake C_Walker sp_Walker_init [] E0 (tCons (tVar 0) (tCons (tVar 2) (tCons (tVar 3) (tNil))))) (gName 4)) (tSeq (tAsg (tMeth C_Walker "called" sp_Walker_called [] E0 (tVar 4) (tCons (tC (.int 0)) (tCons (tVar 1) (tCons (tC (.int 1)) (tNil))))) (gName 5)) (tRet (tTup (tCons (tFld K (tVar 4) "told") (tCons (tVar 5) (tNil))))))

def t_law_walked (K : PySem.W.Frag) (sp_law_called : Sp) : TS :=
  tSeq (tAsg (tLst (tCons (tVar 0) (tCons (tVar 2) (tCons (tVar 3) (tCons (tLst (tNil)) (tNil)))))) (gName 4)) (tSeq (tAsg (tCall sp_law_called [] E0 (tCons (tVar 4) (tCons (tC (.int 0)) (tCons (tVar 1) (tCons (tC (.int 1)) (tNil)))))) (gName 5)) (tRet (tTup (tCons (tOp (rIxL K) (tVar 4) (tC (.int 3))) (tCons (tVar 5) (tNil))))))

def t_law_numbers (K : PySem.W.Frag) (sp_law_take : Sp) : TS :=
  tRet (tLc (iRng1 (tCons (tVar 1) (tNil))) (gName 2) (tYes) (tCall sp_law_take [] E0 (tCons (tVar 0) (tCons (tC (.int 10007)) (tNil)))) [2])

section
variable {K : PySem.W.Frag} {C on : Addr}
mutual
theorem Dp.tkS {H H' : Hp} (s : Same H H') : ∀ (d : PyData) (v : V), Dp K H v d → Dp K H' v d
  | _, _, .non => .non
  | _, _, .bl k => .bl k
  | _, _, .int i => .int i
  | _, _, .str x => .str x
  | _, _, .lst h a => .lst (s.seq h) (DpAll.tkS s _ _ a)
  | _, _, .tup h a => .tup (s.sqT h) (DpAll.tkS s _ _ a)
theorem DpAll.tkS {H H' : Hp} (s : Same H H') : ∀ (ds : List PyData) (vs : List V), DpAll K H vs ds → DpAll K H' vs ds
  | _, _, .nil => .nil
  | _, _, .cons h a => .cons (Dp.tkS s _ _ h) (DpAll.tkS s _ _ a)
end
/-- what a walk hands back -/
def walkedD (o : Out) (w1 : WSt) : PyData := .tuple [.list (w1.told.map Ev.d), (calledEnd o).d]
/-- what a walk is handed -/
structure WIn (p : Pg) (fn : Nat × Sm) (ns : List Int) (most : Int) (dp : Nat) : Prop where
  pw : PgW p
  f0 : p.funs[0]? = some fn
  few : ns.length ≤ 3
  inr : ∀ n ∈ ns, 0 ≤ n ∧ n < 10007
  m0 : 0 ≤ most
  m1 : most ≤ 100
  d0 : 1 ≤ dp
  d1 : dp ≤ 6
theorem WIn.pre {p : Pg} {fn : Nat × Sm} {ns : List Int} {most : Int} {dp : Nat} (h : WIn p fn ns most dp) : WPre p dp 41 1 [] false false fn.2 ⟨slotsFor ns, most, []⟩ := by
  have hm := List.mem_of_getElem? h.f0
  have h1 := h.pw.dep fn hm
  have h2 := h.pw.len fn hm
  have := h.d0; have := h.d1; have := h.few; have := h.m0; have := h.m1
  exact ⟨h.pw, h.pw.wf.body fn hm, slotsFor_in (by omega) h.inr, ⟨(fun _ z => nomatch z), (fun z => nomatch z)⟩, by simp; omega, by omega, by omega, by omega, h2, h.m0, by simp; omega⟩
structure WalkedP (K : PySem.W.Frag) (vs : List V) (H : Hp) (Q : VK) : Prop where
  ex : ∃ (p : Pg) (fn : Nat × Sm) (ns : List Int) (most : Int) (dp : Nat) (pv : V) (nl : Addr), vs = [pv, .ref nl, .int most, .int (dp : Int)] ∧ WIn p fn ns most dp ∧ Tp K H pv p.d ∧ H nl = some (.lst (ns.map V.int)) ∧
    ∀ (v : V) (o : Out) (w1 : WSt) (c : Nat) (H' : Hp), Rn p dp 1 [] fn.2 ⟨slotsFor ns, most, []⟩ o w1 c → OutOk p.kinds.length dp 1 false o → Dp K H' v (walkedD o w1) → Same H H' → Q v H'
def spWalked (K : PySem.W.Frag) : Sp := fun vs H Q _ => WalkedP K vs H Q
theorem rd_law_walked (vs : List V) (H : Hp) (Q : VK) (E : XK) (h : spWalked K vs H Q E) : t_law_walked K (spCalledL K 41) { nx := fun _ H' => Q .non H', rt := Q } (start ["_law_program_here", "_law_numbers_here", "_law_most", "_law_deep", "_law_run", "_law_end"] vs) H := by
  obtain ⟨p, fn, ns, most, dp, pv, nl, rfl, hi, tp, hn, q⟩ := h.ex
  refine ⟨_, rfl, _, rfl, _, rfl, (by show 0 ≤ sizeLine; decide), fun tl htl => ⟨(by show 4 ≤ sizeLine; decide), fun rn hrn => ?_⟩⟩
  have s1 : Same H (L2.upd H tl (.lst [])) := Same.new htl
  have tt : L2.upd H tl (.lst []) tl = some (.lst []) := upd_same
  have s2 : Same (L2.upd H tl (.lst [])) (L2.upd (L2.upd H tl (.lst [])) rn (.lst [pv, .int most, .int (dp : Int), .ref tl])) := Same.new hrn
  have rt : L2.upd (L2.upd H tl (.lst [])) rn (.lst [pv, .int most, .int (dp : Int), .ref tl]) rn = some (.lst [pv, .int most, .int (dp : Int), .ref tl]) := upd_same
  generalize L2.upd H tl (.lst []) = H1 at s1 tt s2 rt hrn ⊢
  generalize L2.upd H1 rn (.lst [pv, .int most, .int (dp : Int), .ref tl]) = H2 at s2 rt ⊢
  have s12 := s1.trans s2
  have rs : RunSt K p dp H2 rn tl nl pv ⟨ns, most, []⟩ := ⟨rt, ⟨[], s2 _ _ tt, .nil⟩, s12 _ _ hn, tp.mono (Tk.same s12), (ne_of_none tt hrn).symm, (ne_of_none (s1 _ _ hn) hrn).symm, (ne_of_none hn htl).symm⟩
  have hr1 := s1.free hrn
  refine ⟨_, rfl, _, rfl, pCalled (d := 1) (f := 0) rfl rs (s12 _ _ hn) hi.few hi.f0 hi.pre fun v' o w1 c H3 hR hO r3 t3 k3 => ?_⟩
  obtain ⟨us, hus, tus⟩ := r3.told
  refine rd_ixL (j := 3) rfl (SqL.of r3.run) rfl ⟨_, rfl, (by show 2 ≤ sizeLine; decide), fun p1 hp1 => ?_⟩
  have s4 : Same H3 (L2.upd H3 p1 (.tup [.ref tl, v'])) := Same.new hp1
  refine q _ o w1 c _ hR hO (.tup (SqT.of upd_same) (.cons (.lst (SqL.of (s4 _ _ hus)) (tus.mono (Tk.same s4)).dp) (.cons (t3.mono (Tk.same s4)).dp .nil))) ?_
  intro a u e
  refine s4 _ _ ?_
  by_cases ha : a = nl
  · subst ha
    rw [hn] at e; cases e
    exact r3.slo
  · refine k3 _ _ (s12 _ _ e) ?_
    rintro (z | z | z)
    · exact ne_of_none e hr1 z
    · exact ne_of_none e htl z
    · exact ha z
def spWkInit (K : PySem.W.Frag) (C : Addr) : Sp := fun vs H Q _ => ∃ (c dx : Addr) (pgv : V) (p : Pg) (most : Int) (dp : Nat), vs = [.ref c, pgv, .int most, .int (dp : Int)] ∧ H c = some (.ins C dx []) ∧ Tp K H pgv p.d ∧
  ∀ (pv : WV) (tl : Addr) (H' : Hp), pv.dx = dx → H tl = none → H' c = some (.ins C dx (wfs pv most dp tl)) → H' tl = some (.lst []) → Tp K H' pv.kv (.tuple (p.kinds.map kindD)) → Tp K H' pv.fv (.tuple (p.funs.map funD)) → Kp (fun x => x = c) H H' → Q .non H'
theorem rd_wk_init (T : WkTxt K C on) (vs : List V) (H : Hp) (Q : VK) (E : XK) (h : spWkInit K C vs H Q E) : t_Walker_init K { nx := fun _ H' => Q .non H', rt := Q } (start ["self", "program", "most", "deep"] vs) H := by
  obtain ⟨c, dx, pgv, p, most, dp, rfl, hc, tp, q⟩ := h
  obtain ⟨a, kv, fv, rfl, hT, tk_, tf_⟩ := Tp.tup2 (show Tp K H pgv (.tuple [.tuple (p.kinds.map kindD), .tuple (p.funs.map funD)]) from tp)
  refine rd_ixT (j := 0) rfl hT rfl ⟨_, rfl, c, C, dx, _, rfl, hc, T.cl, T.kinds, (by show 0 < 1000; decide), ?_⟩
  have kp1 : Kp (fun x => x = c) H (L2.upd H c (.ins C dx (putF "kinds" kv []))) := Kp.upd rfl
  have tk1 : Tk H (L2.upd H c (.ins C dx (putF "kinds" kv []))) := Tk.ins hc
  have c1 : L2.upd H c (.ins C dx (putF "kinds" kv [])) c = some (.ins C dx [("kinds", kv)]) := upd_same
  generalize L2.upd H c (.ins C dx (putF "kinds" kv [])) = H1 at kp1 tk1 c1 ⊢
  refine rd_ixT (j := 1) rfl (tk1.sqT hT) rfl ⟨_, rfl, c, C, dx, _, rfl, c1, T.cl, T.functions, (by show 1 < 1000; decide), ?_⟩
  have kp2 : Kp (fun x => x = c) H (L2.upd H1 c (.ins C dx (putF "functions" fv [("kinds", kv)]))) := kp1.trans (Kp.upd rfl)
  have tk2 : Tk H (L2.upd H1 c (.ins C dx (putF "functions" fv [("kinds", kv)]))) := tk1.trans (Tk.ins c1)
  have c2 : L2.upd H1 c (.ins C dx (putF "functions" fv [("kinds", kv)])) c = some (.ins C dx [("kinds", kv), ("functions", fv)]) := upd_same
  generalize L2.upd H1 c (.ins C dx (putF "functions" fv [("kinds", kv)])) = H2 at kp2 tk2 c2 ⊢
  refine ⟨_, rfl, _, rfl, c, C, dx, _, rfl, c2, T.cl, T.left, (by show 2 < 1000; decide), ?_⟩
  have kp3 : Kp (fun x => x = c) H (L2.upd H2 c (.ins C dx (putF "left" (.int most) [("kinds", kv), ("functions", fv)]))) := kp2.trans (Kp.upd rfl)
  have tk3 : Tk H (L2.upd H2 c (.ins C dx (putF "left" (.int most) [("kinds", kv), ("functions", fv)]))) := tk2.trans (Tk.ins c2)
  have c3 : L2.upd H2 c (.ins C dx (putF "left" (.int most) [("kinds", kv), ("functions", fv)])) c = some (.ins C dx [("kinds", kv), ("functions", fv), ("left", .int most)]) := upd_same
  generalize L2.upd H2 c (.ins C dx (putF "left" (.int most) [("kinds", kv), ("functions", fv)])) = H3 at kp3 tk3 c3 ⊢
  refine ⟨_, rfl, _, rfl, c, C, dx, _, rfl, c3, T.cl, T.deep, (by show 3 < 1000; decide), ?_⟩
  have kp4 : Kp (fun x => x = c) H (L2.upd H3 c (.ins C dx (putF "deep" (.int (dp : Int)) [("kinds", kv), ("functions", fv), ("left", .int most)]))) := kp3.trans (Kp.upd rfl)
  have tk4 : Tk H (L2.upd H3 c (.ins C dx (putF "deep" (.int (dp : Int)) [("kinds", kv), ("functions", fv), ("left", .int most)]))) := tk3.trans (Tk.ins c3)
  have c4 : L2.upd H3 c (.ins C dx (putF "deep" (.int (dp : Int)) [("kinds", kv), ("functions", fv), ("left", .int most)])) c = some (.ins C dx [("kinds", kv), ("functions", fv), ("left", .int most), ("deep", .int (dp : Int))]) := upd_same
  generalize L2.upd H3 c (.ins C dx (putF "deep" (.int (dp : Int)) [("kinds", kv), ("functions", fv), ("left", .int most)])) = H4 at kp4 tk4 c4 ⊢
  refine ⟨(by show 0 ≤ sizeLine; decide), fun tl htl => ⟨_, rfl, c, C, dx, _, rfl, by rw [upd_ne (ne_of_none c4 htl)]; exact c4, T.cl, T.told, (by show 4 < 1000; decide), ?_⟩⟩
  have ct : c ≠ tl := ne_of_none c4 htl
  have htlH : H tl = none := kp4.free htl (fun z => ct z.symm)
  have tk5 : Tk H4 (L2.upd (L2.upd H4 tl (.lst [])) c (.ins C dx (putF "told" (.ref tl) [("kinds", kv), ("functions", fv), ("left", .int most), ("deep", .int (dp : Int))]))) := (Tk.new htl).trans (Tk.ins (by rw [upd_ne ct]; exact c4))
  refine q ⟨dx, kv, fv⟩ tl _ rfl htlH (by rw [upd_same]; rfl) (by rw [upd_ne ct.symm, upd_same]) (tk_.mono (tk4.trans tk5)) (tf_.mono (tk4.trans tk5)) ((kp4.trans (Kp.new htl)).trans (Kp.upd rfl))
theorem rd_walked (T : WkTxt K C on) (vs : List V) (H : Hp) (Q : VK) (E : XK) (h : spWalked K vs H Q E) : t_walked K C (spWkInit K C) (spCalledW K C 41) { nx := fun _ H' => Q .non H', rt := Q } (start ["program", "numbers", "most", "deep", "walker", "end"] vs) H := by
  obtain ⟨p, fn, ns, most, dp, pgv, nl, rfl, hi, tp, hn, q⟩ := h.ex
  refine ⟨_, rfl, _, rfl, _, rfl, fun rn dx hrn hdx dxr => ?_⟩
  have s0 : Same H (L2.upd (L2.upd H dx (.own rn)) rn (.ins C dx [])) := fun b o e => by rw [upd_ne (ne_of_none e hrn), upd_ne (ne_of_none e hdx)]; exact e
  refine ⟨rn, dx, pgv, p, most, dp, rfl, upd_same, tp.mono (Tk.same s0), fun pv tl H2 ed htl hr2 ht2 tk_ tf_ k2 => ⟨rfl, ?_⟩⟩
  subst ed
  have s2 : Same H H2 := fun b o e => k2 _ _ (s0 _ _ e) (ne_of_none e hrn)
  have htlH : H tl = none := s0.free htl
  have rs : WkSt K C p dp H2 rn tl nl pv ⟨ns, most, []⟩ := ⟨hr2, ⟨[], ht2, .nil⟩, s2 _ _ hn, tk_, tf_, ne_of hr2 ht2 (by intro z; cases z), (ne_of_none hn hrn).symm, (ne_of_none hn htlH).symm⟩
  refine rMethW rfl rs.ins rfl ⟨_, rfl, pCalledW (d := 1) (f := 0) rfl rs (s2 _ _ hn) hi.few hi.f0 hi.pre fun v' o w1 c H3 hR hO r3 t3 k3 => ?_⟩
  obtain ⟨us, hus, tus⟩ := r3.told
  refine ⟨_, rfl, rn, C, pv.dx, _, _, rfl, r3.ins, T.cl, T.told, rfl, _, rfl, (by show 2 ≤ sizeLine; decide), fun p1 hp1 => ?_⟩
  have s4 : Same H3 (L2.upd H3 p1 (.tup [.ref tl, v'])) := Same.new hp1
  refine q _ o w1 c _ hR hO (.tup (SqT.of upd_same) (.cons (.lst (SqL.of (s4 _ _ hus)) (tus.mono (Tk.same s4)).dp) (.cons (t3.mono (Tk.same s4)).dp .nil))) ?_
  intro a u e
  refine s4 _ _ ?_
  by_cases ha : a = nl
  · subst ha
    rw [hn] at e; cases e
    exact r3.slo
  · refine k3 _ _ (s2 _ _ e) ?_
    rintro (z | z | z)
    · exact ne_of_none e hrn z
    · exact ne_of_none e htlH z
    · exact ha z
def spNums (K : PySem.W.Frag) : Sp := fun vs H Q _ => ∃ (b : Addr) (l : List Int) (m : Nat), vs = [.ref b, .int (m : Int)] ∧ H b = some (.lst (l.map V.int)) ∧ m ≤ 1000 ∧
  ∀ (r : Addr) (ns l' : List Int) (H' : Hp), ns.length = m → (∀ n ∈ ns, 0 ≤ n ∧ n < 10007) → H r = none → H' r = some (.lst (ns.map V.int)) → H' b = some (.lst (l'.map V.int)) → Kp (fun x => x = b) H H' → Q (.ref r) H'
theorem rd_law_numbers (vs : List V) (H : Hp) (Q : VK) (E : XK) (h : spNums K vs H Q E) : t_law_numbers K spTake { nx := fun _ H' => Q .non H', rt := Q } (start ["_law_box", "_law_many", "_law_k"] vs) H := by
  obtain ⟨b, l, m, rfl, hb, hm, q⟩ := h
  refine ⟨_, rfl, _, rfl, by omega, by omega, fun s hs => lc_range (lo := 0) (n := ((m : Int)).toNat) (fun i H' => ∃ σ l : List Int, σ.length = i ∧ (∀ n ∈ σ, 0 ≤ n ∧ n < 10007) ∧ H' s = some (.lst (σ.map V.int)) ∧ H' b = some (.lst (l.map V.int)) ∧ Kp (fun x => x = b) H H')
    ⟨[], l, rfl, (by simp), upd_same, by rw [upd_ne (ne_of_none hb hs)]; exact hb, Kp.new hs⟩ ?_ ?_⟩
  · rintro i H1 hi ⟨σ, l, hl, hr, h1, h2, kp1⟩
    have sb : s ≠ b := fun e => by rw [e, hb] at hs; cases hs
    refine ⟨rfl, _, rfl, b, l, 10007, rfl, h2, by decide, by decide, fun r l' H2 r0 r1 hb2 kp => ⟨_, kp s _ h1 sb, by rw [List.length_map]; exact sz_lt1 (by omega), σ ++ [r], l', by simp [hl], ?_, ?_, ?_, ?_⟩⟩
    · intro n hn
      rcases List.mem_append.mp hn with z | z
      · exact hr n z
      · have e : n = r := by simpa using z
        rw [e]; exact ⟨r0, r1⟩
    · rw [upd_same, List.map_append]; rfl
    · rw [upd_ne sb.symm]; exact hb2
    · exact (kp1.trans kp).late hs
  · rintro H1 ⟨σ, l, hl, hr, h1, h2, kp1⟩
    exact q s σ l H1 (by omega) hr hs h1 h2 kp1
end
end Lp

/-! Lw4: what was told is small. -/
namespace Lp
open PySem PySem.Spec PyProof.Rows L2
def EvOk (D : Nat) (es : List Ev) : Prop := ∀ f, Ev.met f ∈ es → f.tr.length ≤ D
section
variable {p : Pg} {dp nk : Nat}
mutual
theorem Rn.evs (hp : PgR p) (hn : nk = p.kinds.length) : ∀ {d met s w o w1 c turn hand}, Rn p dp d met s w o w1 c → s.Wf p.cs nk turn hand → InR w.σ → MetOk nk dp d hand met → d ≤ dp → EvOk (dp + 1) w.told → EvOk (dp + 1) w1.told
  | _, _, _, w, _, _, _, _, _, .say, _, _, _, _, h => fun f hf => by
    rcases List.mem_append.mp hf with z | z
    · exact h f z
    · simp at z
  | _, _, _, w, _, _, _, _, _, .set, _, _, _, _, h => h
  | _, _, _, w, _, _, _, _, _, .row a, wf, hr, hm, hd, h => RnS.evs hp hn a wf hr hm hd h
  | _, _, _, w, _, _, _, _, _, .ifT _ a, wf, hr, hm, hd, h => Rn.evs hp hn a wf.2.1 hr hm hd h
  | _, _, _, w, _, _, _, _, _, .ifF _ a, wf, hr, hm, hd, h => Rn.evs hp hn a wf.2.2 hr hm hd h
  | _, _, _, w, _, _, _, _, _, .whl0 _, _, _, _, _, h => h
  | _, _, _, w, _, _, _, _, _, .whlD _ _, _, _, _, _, h => h
  | _, _, _, w, _, _, _, _, _, .whlB _ _ a, wf, hr, hm, hd, h => Rn.evs hp hn a wf.2 hr hm hd h
  | _, _, _, w, _, _, _, _, _, .whlN _ _ a _ a2, wf, hr, hm, hd, h => Rn.evs hp hn a2 wf (Rn.ok hp hn a wf.2 hr hm hd).1 hm hd (Rn.evs hp hn a wf.2 hr hm hd h)
  | _, _, _, w, _, _, _, _, _, .whlX _ _ a _ _ _, wf, hr, hm, hd, h => Rn.evs hp hn a wf.2 hr hm hd h
  | _, _, _, w, _, _, _, _, _, .brk, _, _, _, _, h => h
  | _, _, _, w, _, _, _, _, _, .cnt, _, _, _, _, h => h
  | _, _, _, w, _, _, _, _, _, .ret, _, _, _, _, h => h
  | _, _, _, w, _, _, _, _, _, .rais, _, _, _, _, h => h
  | _, _, _, w, _, _, _, _, _, .again _, _, _, _, _, h => h
  | _, _, _, w, _, _, _, _, _, .callD _, _, _, _, _, h => h
  | _, _, _, w, _, _, _, _, _, .callP _ _, _, _, _, _, h => h
  | d, _, _, w, _, _, _, _, _, .call (ps := ps) (fn := fn) _ ne g a, wf, hr, hm, hd, h => by
    obtain ⟨_, _, hl, hps, _, _⟩ := wf
    have hs : InR (slotsFor (ps.map (Ex.val w.σ))) := slotsFor_in (by simp; omega) (fun n hn2 => by
      obtain ⟨e, he, rfl⟩ := List.mem_map.mp hn2
      exact Ex.val_in hr (hps e he).1)
    have hmm : MetOk nk dp (d + 1) false [] := ⟨(fun _ z => nomatch z), (fun z => nomatch z)⟩
    have hw : fn.2.Wf p.cs nk false false := by rw [hn]; exact hp.body _ (List.mem_of_getElem? g)
    have r := Rn.evs hp hn a hw hs hmm (by omega) h
    exact r
  | _, _, _, w, _, _, _, _, _, .tri a _, wf, hr, hm, hd, h => Rn.evs hp hn a wf.1 hr hm hd h
  | d, met, _, w, _, _, _, _, _, .triC (f := f) a g a2, wf, hr, hm, hd, h => by
    obtain ⟨h1, h2⟩ := Rn.ok hp hn a wf.1 hr hm hd
    obtain ⟨_, wz⟩ := Hds.pick_wf wf.2 g
    refine Rn.evs hp hn a2 wz (h1.set ⟨h2.2.1, h2.2.2.1⟩) ⟨fun y hy => ?_, fun _ => by simp⟩ hd (fun y hy => ?_)
    · rcases List.mem_append.mp hy with z | z
      · exact hm.1 y z
      · have : y = f := by simpa using z
        rw [this]; exact h2
    · rcases List.mem_append.mp hy with z | z
      · exact Rn.evs hp hn a wf.1 hr hm hd h y z
      · have : y = f := by simpa using z
        rw [this]
        have := h2.2.2.2
        omega
  | _, _, _, w, _, _, _, _, _, .triX a _, wf, hr, hm, hd, h => Rn.evs hp hn a wf.1 hr hm hd h
  | _, _, _, w, _, _, _, _, _, .clnX a _, wf, hr, hm, hd, h => Rn.evs hp hn a wf.1 hr hm hd h
  | _, _, _, w, _, _, _, _, _, .cln a _ a2, wf, hr, hm, hd, h => Rn.evs hp hn a2 wf.2 (Rn.ok hp hn a wf.1 hr hm hd).1 hm hd (Rn.evs hp hn a wf.1 hr hm hd h)
theorem RnS.evs (hp : PgR p) (hn : nk = p.kinds.length) : ∀ {d met s w o w1 c turn hand}, RnS p dp d met s w o w1 c → s.Wf p.cs nk turn hand → InR w.σ → MetOk nk dp d hand met → d ≤ dp → EvOk (dp + 1) w.told → EvOk (dp + 1) w1.told
  | _, _, _, w, _, _, _, _, _, .nil, _, _, _, _, h => h
  | _, _, _, w, _, _, _, _, _, .next a a2, wf, hr, hm, hd, h => RnS.evs hp hn a2 wf.2 (Rn.ok hp hn a wf.1 hr hm hd).1 hm hd (Rn.evs hp hn a wf.1 hr hm hd h)
  | _, _, _, w, _, _, _, _, _, .stop a _, wf, hr, hm, hd, h => Rn.evs hp hn a wf.1 hr hm hd h
end
end
section
variable {p : Pg} {dp : Nat}
mutual
theorem Rn.left_ge : ∀ {d met s w o w1 c}, Rn p dp d met s w o w1 c → 0 ≤ w.left → -1 ≤ w1.left ∧ (o ≠ .dry → 0 ≤ w1.left)
  | _, _, _, w, _, _, _, .say, h => ⟨by show -1 ≤ w.left; omega, fun _ => h⟩
  | _, _, _, w, _, _, _, .set, h => ⟨by show -1 ≤ w.left; omega, fun _ => h⟩
  | _, _, _, w, _, _, _, .row a, h => RnS.left_ge a h
  | _, _, _, w, _, _, _, .ifT _ a, h => Rn.left_ge a h
  | _, _, _, w, _, _, _, .ifF _ a, h => Rn.left_ge a h
  | _, _, _, w, _, _, _, .whl0 _, h => ⟨by omega, fun _ => h⟩
  | _, _, _, w, _, _, _, .whlD _ _, h => ⟨by show -1 ≤ w.left - 1; omega, fun z => absurd rfl z⟩
  | _, _, _, w, _, _, _, .whlB _ l a, h => by
    obtain ⟨h1, h2⟩ := Rn.left_ge a (by show 0 ≤ w.left - 1; omega)
    exact ⟨h1, fun _ => h2 (by simp)⟩
  | _, _, _, w, _, _, _, .whlN _ l a q a2, h => by
    obtain ⟨h1, h2⟩ := Rn.left_ge a (by show 0 ≤ w.left - 1; omega)
    exact Rn.left_ge a2 (h2 (by rcases q with rfl | rfl <;> simp))
  | _, _, _, w, _, _, _, .whlX _ l a _ _ _, h => Rn.left_ge a (by show 0 ≤ w.left - 1; omega)
  | _, _, _, w, _, _, _, .brk, h => ⟨by omega, fun _ => h⟩
  | _, _, _, w, _, _, _, .cnt, h => ⟨by omega, fun _ => h⟩
  | _, _, _, w, _, _, _, .ret, h => ⟨by omega, fun _ => h⟩
  | _, _, _, w, _, _, _, .rais, h => ⟨by omega, fun _ => h⟩
  | _, _, _, w, _, _, _, .again _, h => ⟨by omega, fun _ => h⟩
  | _, _, _, w, _, _, _, .callD _, h => ⟨by show -1 ≤ w.left - 1; omega, fun z => absurd rfl z⟩
  | _, _, _, w, _, _, _, .callP l _, h => ⟨by show -1 ≤ w.left - 1; omega, fun _ => by show 0 ≤ w.left - 1; omega⟩
  | _, _, _, w, _, _, _, .call (o := o) l _ _ a, h => by
    obtain ⟨h1, h2⟩ := Rn.left_ge a (by show 0 ≤ w.left - 1; omega)
    exact ⟨h1, fun z => h2 (fun y => z (by rw [y]; rfl))⟩
  | _, _, _, w, _, _, _, .tri a _, h => Rn.left_ge a h
  | _, _, _, w, _, _, _, .triC a _ a2, h => by
    obtain ⟨h1, h2⟩ := Rn.left_ge a h
    exact Rn.left_ge a2 (h2 (by simp))
  | _, _, _, w, _, _, _, .triX a _, h => Rn.left_ge a h
  | _, _, _, w, _, _, _, .clnX a _, h => Rn.left_ge a h
  | _, _, _, w, _, _, _, .cln (o := o) (o2 := o2) a q a2, h => by
    obtain ⟨h1, h2⟩ := Rn.left_ge a h
    have ho : o ≠ .dry := fun z => by rw [z] at q; cases q
    obtain ⟨k1, k2⟩ := Rn.left_ge a2 (h2 ho)
    refine ⟨k1, fun z => k2 fun y => z ?_⟩
    rw [y]; rfl
theorem RnS.left_ge : ∀ {d met s w o w1 c}, RnS p dp d met s w o w1 c → 0 ≤ w.left → -1 ≤ w1.left ∧ (o ≠ .dry → 0 ≤ w1.left)
  | _, _, _, w, _, _, _, .nil, h => ⟨by omega, fun _ => h⟩
  | _, _, _, w, _, _, _, .next a a2, h => by
    obtain ⟨h1, h2⟩ := Rn.left_ge a h
    exact RnS.left_ge a2 (h2 (by simp))
  | _, _, _, w, _, _, _, .stop a _, h => Rn.left_ge a h
end
end
theorem ints_wid (l : List Int) : widAll (l.map PyData.int) = 0 := by induction l with | nil => rfl | cons i l ih => simp [widAll, wid, ih]
theorem ints_dep (l : List Int) : PyData.depthAll (l.map PyData.int) = 0 := by induction l with | nil => rfl | cons i l ih => simp [PyData.depthAll, PyData.depth, ih]
theorem evs_small {D : Nat} : ∀ {es : List Ev}, EvOk D es → PyData.depthAll (es.map Ev.d) ≤ 2 ∧ widAll (es.map Ev.d) ≤ max D 4
  | [], _ => by simp [PyData.depthAll, widAll]
  | .say n :: es, h => by
    obtain ⟨h1, h2⟩ := evs_small (es := es) fun f hf => h f (List.mem_cons_of_mem _ hf)
    simp [PyData.depthAll, widAll, Ev.d, PyData.depth, wid]; omega
  | .met f :: es, h => by
    obtain ⟨h1, h2⟩ := evs_small (es := es) fun f hf => h f (List.mem_cons_of_mem _ hf)
    have := h f List.mem_cons_self
    simp [PyData.depthAll, widAll, Ev.d, Flt.tl, PyData.depth, wid, ints_wid, ints_dep]; omega
theorem out_small {nk dp d : Nat} {turn : Bool} {o : Out} (hd : dp ≤ 1000) (h : OutOk nk dp d turn o) : (calledEnd o).d.depth ≤ 2 ∧ wid (calledEnd o).d ≤ 1004 := by
  cases o with
  | flt f =>
    have := h.2.2.2
    simp [calledEnd, Out.d, Out.r, Flt.tl, PyData.depth, PyData.depthAll, wid, widAll, ints_wid, ints_dep]; omega
  | _ => simp [calledEnd, Out.d, Out.r, PyData.depth, PyData.depthAll, wid, widAll]
theorem walked_small {p : Pg} {fn : Nat × Sm} {ns : List Int} {most : Int} {dp : Nat} {o : Out} {w1 : WSt} {c : Nat} (h : WIn p fn ns most dp) (hR : Rn p dp 1 [] fn.2 ⟨slotsFor ns, most, []⟩ o w1 c) (hO : OutOk p.kinds.length dp 1 false o) : (walkedD o w1).depth < 5 ∧ wid (walkedD o w1) ≤ 1000000 := by
  have pre := h.pre
  have ev := Rn.evs pre.pw.r rfl hR pre.wf pre.inr pre.mok pre.ddp (fun f hf => nomatch hf)
  obtain ⟨c1, c2, c3, c4⟩ := Rn.cost pre.pw.len hR pre.len pre.left
  obtain ⟨e1, e2⟩ := evs_small ev
  have hd := h.d1
  obtain ⟨o1, o2⟩ := out_small (by omega) hO
  have m1 := h.m1
  have lf := pre.len
  replace c1 : (c : Int) ≤ fn.2.len + 2000 * (most - w1.left) := c1
  replace c4 : w1.told.length ≤ 0 + c := c4
  obtain ⟨lw, _⟩ := Rn.left_ge hR (by show (0 : Int) ≤ most; exact h.m0)
  have ll : w1.told.length ≤ 250000 := by omega
  unfold walkedD
  simp only [PyData.depth, PyData.depthAll, wid, widAll, List.length_map, List.length_cons, List.length_nil]
  omega
end Lp

namespace Lr
open PySem PySem.Spec PyProof.Rows L2 Lp
def topS (i : Nat) : Stmt := PySem.Challenge.pw_leaps_k11_whole_walked.main.body.getD i (.Pass ⟨0, 0, 0, 0⟩)
def spLaw (K : PySem.W.Frag) : Sp := fun vs H Q _ => ∃ (a : Addr) (ns : List Int), vs = [.ref a] ∧ SqL K H a (ns.map V.int) ∧ ns.length ≤ 63 ∧ ∀ H', Q (.bl true) H'
def t_law (K : PySem.W.Frag) (sp_law_program : Sp) (sp_law_numbers : Sp) (sp_law_take : Sp) (sp_law_walked : Sp) (sp_law_alike : Sp) (sp_walked : Sp) : TS :=
  tSeq (tAsg (tCB (rLstOf K) (tCons (tVar 0) (tNil))) (gName 1)) (tSeq (tAsg (tCall sp_law_program [] E0 (tCons (tVar 1) (tNil))) (gName 2)) (tSeq (tAsg (tCall sp_law_numbers [] E0 (tCons (tVar 1) (tCons (tOp (rIxT K) (tOp (rIxT K) (tOp (rIxT K) (tVar 2) (tC (.int 1))) (tC (.int 0))) (tC (.int 0))) (tNil)))) (gName 3)) (tSeq (tAsg (tOp rAdI (tC (.int 1)) (tCall sp_law_take [] E0 (tCons (tVar 1) (tCons (tC (.int 30)) (tNil))))) (gName 4)) (tSeq (tAsg (tOp rAdI (tC (.int 1)) (tCall sp_law_take [] E0 (tCons (tVar 1) (tCons (tC (.int 6)) (tNil))))) (gName 5)) (tSeq (tAsg (tCall sp_law_walked [] E0 (tCons (tVar 2) (tCons (tVar 3) (tCons (tVar 4) (tCons (tVar 5) (tNil)))))) (gName 6)) (tSeq (tAsg (tCB (rLstOf K) (tCons (tVar 3) (tNil))) (gName 7)) (tSeq (tFor (iRng1 (tCons (tC (.int 2)) (tNil))) (gName 8) (tIfS (tOr (tNot (tB (tCall sp_law_alike [] E0 (tCons (tCall sp_walked [] E0 (tCons (tVar 2) (tCons (tVar 7) (tCons (tVar 4) (tCons (tVar 5) (tNil)))))) (tCons (tVar 6) (tNil)))))) (tTest (tOp (rNeD K) (tVar 7) (tVar 3)))) (tRet (tC (.bl false))) (tNext))) (tRet (tC (.bl true))))))))))

theorem PgOk.pgW {p : Pg} (ok : PgOk p) : PgW p := ⟨ok.wf, ok.small.dep, fun f hf => by have := ok.small.len f hf; omega⟩
theorem rd_law {K : PySem.W.Frag} (vs : List V) (H : Hp) (Q : VK) (E : XK) (h : spLaw K vs H Q E) : t_law K (spProgram K) (spNums K) spTake (spWalked K) (spAlike K 5) (spWalked K) { nx := fun _ H' => Q .non H', rt := Q } (start ["_law_script", "_law_box", "_law_program_here", "_law_numbers_here", "_law_most", "_law_deep", "_law_due", "_law_handed", "_law_k"] vs) H := by
  obtain ⟨a, ns0, rfl, hS, hlen, q⟩ := h
  refine ⟨_, rfl, a, _, rfl, .inl hS, fun b hb => ?_⟩
  refine ⟨_, rfl, b, ns0, rfl, upd_same, fun v p l1 H1 ok tp hb1 kp1 => ?_⟩
  obtain ⟨pa, kv, fv, rfl, hP, tk_, tf_⟩ := Tp.tup2 (show Tp K H1 v (.tuple [.tuple (p.kinds.map kindD), .tuple (p.funs.map funD)]) from tp)
  obtain ⟨fa, fxs, rfl, hF, tfs⟩ := tf_.tupE
  have f0 := ok.wf.f0
  obtain ⟨fn, hfn⟩ : ∃ fn, p.funs[0]? = some fn := ⟨p.funs[0], List.getElem?_eq_getElem f0⟩
  obtain ⟨fx, hfx, tfx⟩ := tfs.get' (d := funD fn) (by rw [List.getElem?_map, hfn]; rfl)
  obtain ⟨fxa, y0, y1, rfl, hX, z0, z1⟩ := Tp.tup2 (show Tp K H1 fx (.tuple [.int (fn.1 : Int), fn.2.d]) from tfx)
  cases z0.intE
  have many := ok.wf.many fn (List.mem_of_getElem? hfn)
  refine ⟨_, rfl, _, rfl, pa, _, ((1 : Nat) : Int), _, rfl, rfl, hP, atI_nat rfl, fa, fxs, ((0 : Nat) : Int), _, rfl, rfl, hF, atI_nat hfx, fxa, _, ((0 : Nat) : Int), _, rfl, rfl, hX, atI_nat rfl, b, l1, fn.1, rfl, hb1, by omega, fun nl ns l2 H2 hns hin hnl hn2 hb2 kp2 => ?_⟩
  have nlb : nl ≠ b := fun z => by rw [z, hb1] at hnl; cases hnl
  refine ⟨_, rfl, b, l2, 30, rfl, hb2, by decide, by decide, fun m l3 H3 m0 m1 hb3 kp3 => ⟨_, _, rfl, rfl, ?_⟩⟩
  refine ⟨_, rfl, b, l3, 6, rfl, hb3, by decide, by decide, fun dq l4 H4 d0 d1 hb4 kp4 => ⟨_, _, rfl, rfl, ?_⟩⟩
  have kp24 : Kp (fun x => x = b) H2 H4 := kp3.trans kp4
  have kp14 : Kp (fun x => x = b) H1 H4 := kp2.trans kp24
  have tk14 : Tk H1 H4 := kp14.tk1 hb1
  have hn4 := kp24 _ _ hn2 nlb
  have edp : (1 : Int) + dq = (((1 + dq).toNat : Nat) : Int) := by omega
  have win : WIn p fn ns (1 + m) (1 + dq).toNat := ⟨PgOk.pgW ok, hfn, by omega, hin, by omega, by omega, by omega, by omega⟩
  have tp4 := tp.mono tk14
  refine ⟨_, rfl, _, rfl, _, rfl, _, rfl, ⟨⟨p, fn, ns, 1 + m, (1 + dq).toNat, _, nl, by rw [← edp]; rfl, win, tp4, hn4, fun due o w1 c H5 hR hO td s5 => ?_⟩⟩⟩
  refine ⟨_, rfl, nl, _, rfl, .inl (SqL.of (s5 _ _ hn4)), fun hl hhl => ?_⟩
  have s6 : Same H5 (L2.upd H5 hl (.lst (ns.map V.int))) := Same.new hhl
  have hh6 : L2.upd H5 hl (.lst (ns.map V.int)) hl = some (.lst (ns.map V.int)) := upd_same
  generalize L2.upd H5 hl (.lst (ns.map V.int)) = H6 at s6 hh6 ⊢
  have s46 := s5.trans s6
  refine ⟨2, rfl, by decide, by decide, for_range (lo := 0) (n := (2 : Int).toNat) (fun i σ H' => ∃ v8 : Option V, σ = [some (.ref a), some (.ref b), some (.ref pa), some (.ref nl), some (.int (1 + m)), some (.int (1 + dq)), some due, some (.ref hl), v8] ∧ Same H6 H')
    ⟨_, rfl, Same.refl _⟩ ?_ (fun σ H' ⟨_, _, _⟩ => q _)⟩
  rintro i σ H7 hi ⟨v8, rfl, s7⟩
  have s47 := s46.trans s7
  refine ⟨_, rfl, _, rfl, _, rfl, _, rfl, ⟨⟨p, fn, ns, 1 + m, (1 + dq).toNat, _, hl, by rw [← edp]; rfl, win, tp4.mono (Tk.same s47), s7 _ _ hh6, fun v' o' w1' c' H8 hR' hO' td' s8 => ?_⟩⟩⟩
  obtain ⟨rfl, rfl, rfl⟩ := Rn.det hR hR'
  obtain ⟨sd, sw⟩ := walked_small win hR hO
  have s78 := s7.trans s8
  refine ⟨_, rfl, v', due, _, rfl, td', Dp.tkS (s6.trans s78) _ _ td, sd, sw, _, rfl, ifF rfl ?_⟩
  refine ⟨_, rfl, _, rfl, _, _, .lst (SqL.of (s78 _ _ hh6)) (dp_ints ns), .lst (SqL.of ((s46.trans s78) _ _ hn4)) (dp_ints ns), shaped_ints ns, shaped_ints ns, _, rfl, ifF ?_ ?_⟩
  · rw [SeqAt.eqv_refl (.list (ns.map PyData.int)) (SeqAt.canLay_of_shaped (shaped_ints ns))]; rfl
  · exact ⟨_, rfl, s78⟩
section
variable {P : Program} {w : World} {K : PySem.W.Frag} {mg : Str → Option Value} {base : Heap} {k : Nat}
abbrev s_under : Stmt := topS 3
abbrev N_under : List Str := ["kinds", "kind", "other"]
theorem sc_under : FnScope N_under ["kinds", "kind", "other"] (defScope s_under) := ⟨rfl, rfl, rfl, by decide +kernel, rfl, by decide +kernel, by decide +kernel⟩
theorem ok_under  {f : Addr} {fd : FuncData} (D : FunD K "under" "under" (defArgs s_under) (defBody s_under) (defScope s_under) [] [] f fd)  {sp : Sp}
    (len : ∀ vs H Q E, sp vs H Q E → vs.length = 3)
    (rd : ∀ vs H Q E, sp vs H Q E → t_under K { nx := fun _ H' => Q .non H', rt := Q } (start N_under vs) H) : FnOk P w K mg base CX0 (k + 1) f fd ["kinds", "kind", "other"] sp := by
  refine D.ok sc_under len (fun cdv A outer s H vs Q E hr h => ⟨t_under K, PSs.nox ?_, rd vs H Q E h⟩)
  · unfold t_under
    exact pss_cons (ps_while PassesOwn.never (PW.pt (pw_and (pt_cmpR op_notN (pv 1) (pe_non) (nomark _)) (pw_and1 (pt_cmpR op_ne (pv 1) (pv 2) (nomark _))))) (pss_one (ps_set (i := 1) sc_under.nd rfl (by first | exact Or.inl rfl | exact Or.inr rfl) (pe_ix ix_tup (pv 0) (pv 1) (fun _ _ => rfl)))))
        (pss_one (ps_ret (pe_cmpR op_notN (pv 1) (pe_non) (nomark _))))

abbrev s_meets : Stmt := topS 4
abbrev N_meets : List Str := ["kinds", "wanted", "kind"]
theorem sc_meets : FnScope N_meets ["kinds", "wanted", "kind"] (defScope s_meets) := ⟨rfl, rfl, rfl, by decide +kernel, rfl, by decide +kernel, by decide +kernel⟩
theorem ok_meets {sp_under : Sp} {f : Addr} {fd : FuncData} (D : FunD K "meets" "meets" (defArgs s_meets) (defBody s_meets) (defScope s_meets) [] [] f fd) (c_under : Cal P w K mg base k "under" ["kinds", "kind", "other"] sp_under) {sp : Sp}
    (len : ∀ vs H Q E, sp vs H Q E → vs.length = 3)
    (rd : ∀ vs H Q E, sp vs H Q E → t_meets K sp_under { nx := fun _ H' => Q .non H', rt := Q } (start N_meets vs) H) : FnOk P w K mg base CX0 (k + 1) f fd ["kinds", "wanted", "kind"] sp := by
  refine D.ok sc_meets len (fun cdv A outer s H vs Q E hr h => ⟨t_meets K sp_under, PSs.nox ?_, rd vs H Q E h⟩)
  · unfold t_meets
    exact pss_one (ps_ret (pe_or (pe_cmpR op_isN (pv 1) (pe_non) (nomark _)) (pe_one (pc c_under hr (pa_cons (pv 0) (pa_cons (pv 2) (pa_cons (pv 1) (pa_nil))))))))

abbrev s_joined : Stmt := topS 5
abbrev N_joined : List Str := ["word", "one", "two"]
theorem sc_joined : FnScope N_joined ["word", "one", "two"] (defScope s_joined) := ⟨rfl, rfl, rfl, by decide +kernel, rfl, by decide +kernel, by decide +kernel⟩
theorem ok_joined  {f : Addr} {fd : FuncData} (D : FunD K "joined" "joined" (defArgs s_joined) (defBody s_joined) (defScope s_joined) [] [] f fd) (Gc_MODULE : ∃ t, mg "MODULE" = some (.int 10007 t)) (B_int : mg "int" = none) {sp : Sp}
    (len : ∀ vs H Q E, sp vs H Q E → vs.length = 3)
    (rd : ∀ vs H Q E, sp vs H Q E → t_joined K { nx := fun _ H' => Q .non H', rt := Q } (start N_joined vs) H) : FnOk P w K mg base CX0 (k + 1) f fd ["word", "one", "two"] sp := by
  refine D.ok sc_joined len (fun cdv A outer s H vs Q E hr h => ⟨t_joined K, PSs.nox ?_, rd vs H Q E h⟩)
  · unfold t_joined
    exact pss_cons (ps_if (pt_cmpR op_eq (pv 0) (pe_str) (nomark _)) (pss_one (ps_ret (pe_op op_mod (pe_op op_add (pv 1) (pv 2)) (pgi Gc_MODULE)))) (pss_nil))
        (pss_cons (ps_if (pt_cmpR op_eq (pv 0) (pe_str) (nomark _)) (pss_one (ps_ret (pe_op op_mod (pe_op op_sub (pv 1) (pv 2)) (pgi Gc_MODULE)))) (pss_nil))
        (pss_cons (ps_if (pt_cmpR op_eq (pv 0) (pe_str) (nomark _)) (pss_one (ps_ret (pe_op op_mod (pe_op op_mul (pv 1) (pv 2)) (pgi Gc_MODULE)))) (pss_nil))
        (pss_one (ps_ret (pe_callTy call_int1 (by rfl) B_int (by decide +kernel) (pa_cons (pe_cmpR op_lt (pv 1) (pv 2) (nomark _)) (pa_nil)))))))

abbrev s_value_of : Stmt := topS 6
abbrev N_value_of : List Str := ["part", "slots"]
theorem sc_value_of : FnScope N_value_of ["part", "slots"] (defScope s_value_of) := ⟨rfl, rfl, rfl, by decide +kernel, rfl, by decide +kernel, by decide +kernel⟩
theorem ok_value_of {sp_joined : Sp} {sp_value_of : Sp} {f : Addr} {fd : FuncData} (D : FunD K "value_of" "value_of" (defArgs s_value_of) (defBody s_value_of) (defScope s_value_of) [] [] f fd) (c_joined : Cal P w K mg base k "joined" ["word", "one", "two"] sp_joined) (c_value_of : Cal P w K mg base k "value_of" ["part", "slots"] sp_value_of) {sp : Sp}
    (len : ∀ vs H Q E, sp vs H Q E → vs.length = 2)
    (rd : ∀ vs H Q E, sp vs H Q E → t_value_of K sp_joined sp_value_of { nx := fun _ H' => Q .non H', rt := Q } (start N_value_of vs) H) : FnOk P w K mg base CX0 (k + 1) f fd ["part", "slots"] sp := by
  refine D.ok sc_value_of len (fun cdv A outer s H vs Q E hr h => ⟨t_value_of K sp_joined sp_value_of, PSs.nox ?_, rd vs H Q E h⟩)
  · unfold t_value_of
    exact pss_cons (ps_if (pt_cmpR op_eq (pe_ix ix_tup (pv 0) (pe_int) (fun _ _ => rfl)) (pe_str) (nomark _)) (pss_one (ps_ret (pe_ix ix_tup (pv 0) (pe_int) (fun _ _ => rfl)))) (pss_nil))
        (pss_cons (ps_if (pt_cmpR op_eq (pe_ix ix_tup (pv 0) (pe_int) (fun _ _ => rfl)) (pe_str) (nomark _)) (pss_one (ps_ret (pe_ix ix_list (pv 1) (pe_ix ix_tup (pv 0) (pe_int) (fun _ _ => rfl)) (fun _ _ => rfl)))) (pss_nil))
        (pss_one (ps_ret (pc c_joined hr (pa_cons (pe_ix ix_tup (pv 0) (pe_int) (fun _ _ => rfl)) (pa_cons (pc c_value_of hr (pa_cons (pe_ix ix_tup (pv 0) (pe_int) (fun _ _ => rfl)) (pa_cons (pv 1) (pa_nil)))) (pa_cons (pc c_value_of hr (pa_cons (pe_ix ix_tup (pv 0) (pe_int) (fun _ _ => rfl)) (pa_cons (pv 1) (pa_nil)))) (pa_nil))))))))

abbrev s_slots_for : Stmt := topS 7
abbrev N_slots_for : List Str := ["numbers", "k"]
theorem sc_slots_for : FnScope N_slots_for ["numbers"] (defScope s_slots_for) := ⟨rfl, rfl, rfl, by decide +kernel, rfl, by decide +kernel, by decide +kernel⟩
theorem ok_slots_for  {f : Addr} {fd : FuncData} (D : FunD K "slots_for" "slots_for" (defArgs s_slots_for) (defBody s_slots_for) (defScope s_slots_for) [] [] f fd) (B_list : mg "list" = none) (B_range : mg "range" = none) (Gc_SLOTS : ∃ t, mg "SLOTS" = some (.int 8 t)) (B_len : mg "len" = none) {sp : Sp}
    (len : ∀ vs H Q E, sp vs H Q E → vs.length = 1)
    (rd : ∀ vs H Q E, sp vs H Q E → t_slots_for K { nx := fun _ H' => Q .non H', rt := Q } (start N_slots_for vs) H) : FnOk P w K mg base CX0 (k + 1) f fd ["numbers"] sp := by
  refine D.ok sc_slots_for len (fun cdv A outer s H vs Q E hr h => ⟨t_slots_for K, PSs.nox ?_, rd vs H Q E h⟩)
  · unfold t_slots_for
    exact pss_one (ps_ret (pe_op op_cat (pe_callTy call_list_of (by rfl) B_list (by decide +kernel) (pa_cons (pv 0) (pa_nil))) (pe_lc (own := [("k", 1)]) (g := gName 1) rfl sc_slots_for.nd (pi_range1 (by rfl) B_range (pa_cons (pe_op op_sub (pgi Gc_SLOTS) (pe_callB call_len_seq (by rfl) B_len PySem.boot_len (pa_cons (pv 0) (pa_nil)))) (pa_nil))) (blkOk_by (own := [("k", 1)]) (N := N_slots_for) (sc := defScope s_slots_for) (by decide +kernel)) (fun _ _ _ _ _ => pg_name (i := 1) sc_slots_for.nd rfl (Or.inl rfl)) (fun _ _ _ _ _ => pts_nil) (fun _ _ _ _ _ => pe_int))))

abbrev s_Walker_init : Stmt := inClass (topS 10) 0
abbrev N_Walker_init : List Str := ["self", "program", "most", "deep"]
theorem sc_Walker_init : FnScope N_Walker_init ["self", "program", "most", "deep"] (defScope s_Walker_init) := ⟨rfl, rfl, rfl, by decide +kernel, rfl, by decide +kernel, by decide +kernel⟩
theorem ok_Walker_init  {f : Addr} {fd : FuncData} (D : FunD K "__init__" "Walker.__init__" (defArgs s_Walker_init) (defBody s_Walker_init) (defScope s_Walker_init) [] [] f fd)  {sp : Sp}
    (len : ∀ vs H Q E, sp vs H Q E → vs.length = 4)
    (rd : ∀ vs H Q E, sp vs H Q E → t_Walker_init K { nx := fun _ H' => Q .non H', rt := Q } (start N_Walker_init vs) H) : FnOk P w K mg base CX0 (k + 1) f fd ["self", "program", "most", "deep"] sp := by
  refine D.ok sc_Walker_init len (fun cdv A outer s H vs Q E hr h => ⟨t_Walker_init K, PSs.nox ?_, rd vs H Q E h⟩)
  · unfold t_Walker_init
    exact pss_cons (ps_fld (pv 0) (pe_ix ix_tup (pv 1) (pe_int) (fun _ _ => rfl)) (by rfl))
        (pss_cons (ps_fld (pv 0) (pe_ix ix_tup (pv 1) (pe_int) (fun _ _ => rfl)) (by rfl))
        (pss_cons (ps_fld (pv 0) (pv 2) (by rfl))
        (pss_cons (ps_fld (pv 0) (pv 3) (by rfl))
        (pss_one (ps_fld (pv 0) (pe_lst (pa_nil)) (by rfl))))))

abbrev s_Walker_counted : Stmt := inClass (topS 10) 2
abbrev N_Walker_counted : List Str := ["self"]
theorem sc_Walker_counted : FnScope N_Walker_counted ["self"] (defScope s_Walker_counted) := ⟨rfl, rfl, rfl, by decide +kernel, rfl, by decide +kernel, by decide +kernel⟩
theorem ok_Walker_counted  {f : Addr} {fd : FuncData} (D : FunD K "counted" "Walker.counted" (defArgs s_Walker_counted) (defBody s_Walker_counted) (defScope s_Walker_counted) [] [] f fd)  {sp : Sp}
    (len : ∀ vs H Q E, sp vs H Q E → vs.length = 1)
    (rd : ∀ vs H Q E, sp vs H Q E → t_Walker_counted K { nx := fun _ H' => Q .non H', rt := Q } (start N_Walker_counted vs) H) : FnOk P w K mg base CX0 (k + 1) f fd ["self"] sp := by
  refine D.ok sc_Walker_counted len (fun cdv A outer s H vs Q E hr h => ⟨t_Walker_counted K, PSs.nox ?_, rd vs H Q E h⟩)
  · unfold t_Walker_counted
    exact pss_cons (ps_fld (pv 0) (pe_op op_sub (pe_fld (pv 0) (by rfl)) (pe_int)) (by rfl))
        (pss_one (ps_ret (pe_cmpR op_ge (pe_fld (pv 0) (by rfl)) (pe_int) (nomark _))))

abbrev s_Walker_row : Stmt := inClass (topS 10) 4
abbrev N_Walker_row : List Str := ["self", "parts", "slots", "met", "depth", "part", "end"]
theorem sc_Walker_row : FnScope N_Walker_row ["self", "parts", "slots", "met", "depth"] (defScope s_Walker_row) := ⟨rfl, rfl, rfl, by decide +kernel, rfl, by decide +kernel, by decide +kernel⟩
theorem ok_Walker_row {C_Walker : Addr} {sp_Walker_does : Sp} {ad_ON : Addr} {f : Addr} {fd : FuncData} (D : FunD K "row" "Walker.row" (defArgs s_Walker_row) (defBody s_Walker_row) (defScope s_Walker_row) [] [] f fd) (c_Walker_does : CalM P w K mg base k C_Walker "does" ["self", "one", "slots", "met", "depth"] sp_Walker_does) (Go_ON : mg "ON" = some (.ref ad_ON)) {sp : Sp}
    (len : ∀ vs H Q E, sp vs H Q E → vs.length = 5)
    (rd : ∀ vs H Q E, sp vs H Q E → t_Walker_row K C_Walker sp_Walker_does ad_ON { nx := fun _ H' => Q .non H', rt := Q } (start N_Walker_row vs) H) : FnOk P w K mg base CX0 (k + 1) f fd ["self", "parts", "slots", "met", "depth"] sp := by
  refine D.ok sc_Walker_row len (fun cdv A outer s H vs Q E hr h => ⟨t_Walker_row K C_Walker sp_Walker_does ad_ON, PSs.nox ?_, rd vs H Q E h⟩)
  · unfold t_Walker_row
    exact pss_cons (ps_for PassesOwn.never rfl (pi_tup (pv 1)) (pg_name (i := 5) sc_Walker_row.nd rfl (by first | exact Or.inl rfl | exact Or.inr rfl)) (pss_cons (ps_set (i := 6) sc_Walker_row.nd rfl (by first | exact Or.inl rfl | exact Or.inr rfl) (pm c_Walker_does hr (pv 0) (pa_cons (pv 5) (pa_cons (pv 2) (pa_cons (pv 3) (pa_cons (pv 4) (pa_nil)))))))
        (pss_one (ps_if (pt_cmpR (op_neD hr.units) (pv 6) (pe_glob (by rfl) Go_ON rfl) (nomark _)) (pss_one (ps_ret (pv 6))) (pss_nil)))))
        (pss_one (ps_ret (pe_glob (by rfl) Go_ON rfl)))

abbrev s_Walker_looped : Stmt := inClass (topS 10) 5
abbrev N_Walker_looped : List Str := ["self", "one", "slots", "met", "depth", "end"]
theorem sc_Walker_looped : FnScope N_Walker_looped ["self", "one", "slots", "met", "depth"] (defScope s_Walker_looped) := ⟨rfl, rfl, rfl, by decide +kernel, rfl, by decide +kernel, by decide +kernel⟩
theorem ok_Walker_looped {sp_value_of : Sp} {C_Walker : Addr} {sp_Walker_counted : Sp} {sp_Walker_does : Sp} {ad_ON : Addr} {f : Addr} {fd : FuncData} (D : FunD K "looped" "Walker.looped" (defArgs s_Walker_looped) (defBody s_Walker_looped) (defScope s_Walker_looped) [] [] f fd) (c_value_of : Cal P w K mg base k "value_of" ["part", "slots"] sp_value_of) (c_Walker_counted : CalM P w K mg base k C_Walker "counted" ["self"] sp_Walker_counted) (c_Walker_does : CalM P w K mg base k C_Walker "does" ["self", "one", "slots", "met", "depth"] sp_Walker_does) (Go_ON : mg "ON" = some (.ref ad_ON)) {sp : Sp}
    (len : ∀ vs H Q E, sp vs H Q E → vs.length = 5)
    (rd : ∀ vs H Q E, sp vs H Q E → t_Walker_looped K sp_value_of C_Walker sp_Walker_counted sp_Walker_does ad_ON { nx := fun _ H' => Q .non H', rt := Q } (start N_Walker_looped vs) H) : FnOk P w K mg base CX0 (k + 1) f fd ["self", "one", "slots", "met", "depth"] sp := by
  refine D.ok sc_Walker_looped len (fun cdv A outer s H vs Q E hr h => ⟨t_Walker_looped K sp_value_of C_Walker sp_Walker_counted sp_Walker_does ad_ON, PSs.nox ?_, rd vs H Q E h⟩)
  · unfold t_Walker_looped
    exact pss_cons (ps_while PassesOwn.never (pt_cmpR op_ne (pc c_value_of hr (pa_cons (pe_ix ix_tup (pv 1) (pe_int) (fun _ _ => rfl)) (pa_cons (pv 2) (pa_nil)))) (pe_int) (nomark _)) (pss_cons (ps_if (pt_not (pt_val (pm0 c_Walker_counted hr (pv 0)))) (pss_one (ps_ret (pe_tup (pa_cons (pe_str) (pa_nil))))) (pss_nil))
        (pss_cons (ps_set (i := 5) sc_Walker_looped.nd rfl (by first | exact Or.inl rfl | exact Or.inr rfl) (pm c_Walker_does hr (pv 0) (pa_cons (pe_ix ix_tup (pv 1) (pe_int) (fun _ _ => rfl)) (pa_cons (pv 2) (pa_cons (pv 3) (pa_cons (pv 4) (pa_nil)))))))
        (pss_cons (ps_if (pt_cmpR op_eq (pe_ix ix_tup (pv 5) (pe_int) (fun _ _ => rfl)) (pe_str) (nomark _)) (pss_one (ps_ret (pe_glob (by rfl) Go_ON rfl))) (pss_nil))
        (pss_one (ps_if (PW.pt (pw_and (pt_cmpR (op_neD hr.units) (pv 5) (pe_glob (by rfl) Go_ON rfl) (nomark _)) (pw_and1 (pt_cmpR op_ne (pe_ix ix_tup (pv 5) (pe_int) (fun _ _ => rfl)) (pe_str) (nomark _))))) (pss_one (ps_ret (pv 5))) (pss_nil)))))))
        (pss_one (ps_ret (pe_glob (by rfl) Go_ON rfl)))

abbrev s_Walker_called : Stmt := inClass (topS 10) 1
abbrev N_Walker_called : List Str := ["self", "number", "numbers", "depth", "end"]
theorem sc_Walker_called : FnScope N_Walker_called ["self", "number", "numbers", "depth"] (defScope s_Walker_called) := ⟨rfl, rfl, rfl, by decide +kernel, rfl, by decide +kernel, by decide +kernel⟩
theorem ok_Walker_called {C_Walker : Addr} {sp_Walker_does : Sp} {sp_slots_for : Sp} {ad_ON : Addr} {f : Addr} {fd : FuncData} (D : FunD K "called" "Walker.called" (defArgs s_Walker_called) (defBody s_Walker_called) (defScope s_Walker_called) [] [] f fd) (c_Walker_does : CalM P w K mg base k C_Walker "does" ["self", "one", "slots", "met", "depth"] sp_Walker_does) (c_slots_for : Cal P w K mg base k "slots_for" ["numbers"] sp_slots_for) (Go_ON : mg "ON" = some (.ref ad_ON)) {sp : Sp}
    (len : ∀ vs H Q E, sp vs H Q E → vs.length = 4)
    (rd : ∀ vs H Q E, sp vs H Q E → t_Walker_called K C_Walker sp_Walker_does sp_slots_for ad_ON { nx := fun _ H' => Q .non H', rt := Q } (start N_Walker_called vs) H) : FnOk P w K mg base CX0 (k + 1) f fd ["self", "number", "numbers", "depth"] sp := by
  refine D.ok sc_Walker_called len (fun cdv A outer s H vs Q E hr h => ⟨t_Walker_called K C_Walker sp_Walker_does sp_slots_for ad_ON, PSs.nox ?_, rd vs H Q E h⟩)
  · unfold t_Walker_called
    exact pss_cons (ps_set (i := 4) sc_Walker_called.nd rfl (by first | exact Or.inl rfl | exact Or.inr rfl) (pm c_Walker_does hr (pv 0) (pa_cons (pe_ix ix_tup (pe_ix ix_tup (pe_fld (pv 0) (by rfl)) (pv 1) (fun _ _ => rfl)) (pe_int) (fun _ _ => rfl)) (pa_cons (pc c_slots_for hr (pa_cons (pv 2) (pa_nil))) (pa_cons (pe_tup (pa_nil)) (pa_cons (pv 3) (pa_nil)))))))
        (pss_cons (ps_if (pt_cmpR (op_eqD hr.units) (pv 4) (pe_glob (by rfl) Go_ON rfl) (nomark _)) (pss_one (ps_ret (pe_tup (pa_cons (pe_str) (pa_cons (pe_int) (pa_nil)))))) (pss_nil))
        (pss_one (ps_ret (pv 4))))

abbrev s_Walker_call : Stmt := inClass (topS 10) 6
abbrev N_Walker_call : List Str := ["self", "one", "slots", "depth", "numbers", "part", "end"]
theorem sc_Walker_call : FnScope N_Walker_call ["self", "one", "slots", "depth"] (defScope s_Walker_call) := ⟨rfl, rfl, rfl, by decide +kernel, rfl, by decide +kernel, by decide +kernel⟩
theorem ok_Walker_call {sp_value_of : Sp} {C_Walker : Addr} {sp_Walker_counted : Sp} {sp_Walker_called : Sp} {ad_ON : Addr} {f : Addr} {fd : FuncData} (D : FunD K "call" "Walker.call" (defArgs s_Walker_call) (defBody s_Walker_call) (defScope s_Walker_call) [] [] f fd) (c_value_of : Cal P w K mg base k "value_of" ["part", "slots"] sp_value_of) (c_Walker_counted : CalM P w K mg base k C_Walker "counted" ["self"] sp_Walker_counted) (c_Walker_called : CalM P w K mg base k C_Walker "called" ["self", "number", "numbers", "depth"] sp_Walker_called) (Go_ON : mg "ON" = some (.ref ad_ON)) {sp : Sp}
    (len : ∀ vs H Q E, sp vs H Q E → vs.length = 4)
    (rd : ∀ vs H Q E, sp vs H Q E → t_Walker_call K sp_value_of C_Walker sp_Walker_counted sp_Walker_called ad_ON { nx := fun _ H' => Q .non H', rt := Q } (start N_Walker_call vs) H) : FnOk P w K mg base CX0 (k + 1) f fd ["self", "one", "slots", "depth"] sp := by
  refine D.ok sc_Walker_call len (fun cdv A outer s H vs Q E hr h => ⟨t_Walker_call K sp_value_of C_Walker sp_Walker_counted sp_Walker_called ad_ON, PSs.nox ?_, rd vs H Q E h⟩)
  · unfold t_Walker_call
    exact pss_cons (ps_setLc (i := 4) (own := [("part", 5)]) (g := gName 5) rfl sc_Walker_call.nd rfl rfl (sw_true rfl rfl rfl (by decide +kernel)) (pi_tup (pe_ix ix_tup (pv 1) (pe_int) (fun _ _ => rfl))) (blkOk_by (own := [("part", 5)]) (N := N_Walker_call) (sc := defScope s_Walker_call) (by decide +kernel)) (fun _ _ _ _ _ => pg_name (i := 5) sc_Walker_call.nd rfl (Or.inl rfl)) (fun _ _ _ _ _ => pts_nil) (fun _ _ _ _ _ => pc c_value_of hr (pa_cons (pv 5) (pa_cons (pv 2) (pa_nil)))))
        (pss_cons (ps_if (pt_not (pt_val (pm0 c_Walker_counted hr (pv 0)))) (pss_one (ps_ret (pe_tup (pa_cons (pe_str) (pa_nil))))) (pss_nil))
        (pss_cons (ps_if (pt_cmpR op_eq (pv 3) (pe_fld (pv 0) (by rfl)) (nomark _)) (pss_one (ps_ret (pe_tup (pa_cons (pe_str) (pa_nil))))) (pss_nil))
        (pss_cons (ps_set (i := 6) sc_Walker_call.nd rfl (by first | exact Or.inl rfl | exact Or.inr rfl) (pm c_Walker_called hr (pv 0) (pa_cons (pe_ix ix_tup (pv 1) (pe_int) (fun _ _ => rfl)) (pa_cons (pv 4) (pa_cons (pe_op op_add (pv 3) (pe_int)) (pa_nil))))))
        (pss_cons (ps_if (pt_cmpR op_eq (pe_ix ix_tup (pv 6) (pe_int) (fun _ _ => rfl)) (pe_str) (nomark _)) (pss_cons (ps_asg (pe_ix ix_tup (pv 6) (pe_int) (fun _ _ => rfl)) (pg_sub (pv 2) (pe_ix ix_tup (pv 1) (pe_int) (fun _ _ => rfl)) set_list))
        (pss_one (ps_ret (pe_glob (by rfl) Go_ON rfl)))) (pss_nil))
        (pss_cons (ps_if (pt_cmpR op_eq (pe_ix ix_tup (pv 6) (pe_int) (fun _ _ => rfl)) (pe_str) (nomark _)) (pss_one (ps_ret (pe_tup (pa_cons (pe_str) (pa_cons (pe_ix ix_tup (pv 6) (pe_int) (fun _ _ => rfl)) (pa_cons (pe_ix ix_tup (pv 6) (pe_int) (fun _ _ => rfl)) (pa_cons (pe_op op_catA (pe_ix ix_tup (pv 6) (pe_int) (fun _ _ => rfl)) (pe_tup (pa_cons (pe_ix ix_tup (pv 1) (pe_int) (fun _ _ => rfl)) (pa_nil)))) (pa_nil)))))))) (pss_nil))
        (pss_one (ps_ret (pv 6))))))))

abbrev s_Walker_tried : Stmt := inClass (topS 10) 7
abbrev N_Walker_tried : List Str := ["self", "one", "slots", "met", "depth", "end", "handler"]
theorem sc_Walker_tried : FnScope N_Walker_tried ["self", "one", "slots", "met", "depth"] (defScope s_Walker_tried) := ⟨rfl, rfl, rfl, by decide +kernel, rfl, by decide +kernel, by decide +kernel⟩
theorem ok_Walker_tried {C_Walker : Addr} {sp_Walker_does : Sp} {sp_meets : Sp} {f : Addr} {fd : FuncData} (D : FunD K "tried" "Walker.tried" (defArgs s_Walker_tried) (defBody s_Walker_tried) (defScope s_Walker_tried) [] [] f fd) (c_Walker_does : CalM P w K mg base k C_Walker "does" ["self", "one", "slots", "met", "depth"] sp_Walker_does) (c_meets : Cal P w K mg base k "meets" ["kinds", "wanted", "kind"] sp_meets) {sp : Sp}
    (len : ∀ vs H Q E, sp vs H Q E → vs.length = 5)
    (rd : ∀ vs H Q E, sp vs H Q E → t_Walker_tried K C_Walker sp_Walker_does sp_meets { nx := fun _ H' => Q .non H', rt := Q } (start N_Walker_tried vs) H) : FnOk P w K mg base CX0 (k + 1) f fd ["self", "one", "slots", "met", "depth"] sp := by
  refine D.ok sc_Walker_tried len (fun cdv A outer s H vs Q E hr h => ⟨t_Walker_tried K C_Walker sp_Walker_does sp_meets, PSs.nox ?_, rd vs H Q E h⟩)
  · unfold t_Walker_tried
    exact pss_cons (ps_set (i := 5) sc_Walker_tried.nd rfl (by first | exact Or.inl rfl | exact Or.inr rfl) (pm c_Walker_does hr (pv 0) (pa_cons (pe_ix ix_tup (pv 1) (pe_int) (fun _ _ => rfl)) (pa_cons (pv 2) (pa_cons (pv 3) (pa_cons (pv 4) (pa_nil)))))))
        (pss_cons (ps_if (pt_cmpR op_ne (pe_ix ix_tup (pv 5) (pe_int) (fun _ _ => rfl)) (pe_str) (nomark _)) (pss_one (ps_ret (pv 5))) (pss_nil))
        (pss_cons (ps_for PassesOwn.never rfl (pi_tup (pe_ix ix_tup (pv 1) (pe_int) (fun _ _ => rfl))) (pg_name (i := 6) sc_Walker_tried.nd rfl (by first | exact Or.inl rfl | exact Or.inr rfl)) (pss_one (ps_if (pt_val (pc c_meets hr (pa_cons (pe_fld (pv 0) (by rfl)) (pa_cons (pe_ix ix_tup (pv 6) (pe_int) (fun _ _ => rfl)) (pa_cons (pe_ix ix_tup (pv 5) (pe_int) (fun _ _ => rfl)) (pa_nil)))))) (pss_cons (ps_expr (pe_bm PySem.F.plainAttrs_list PySem.F.slot_list_append PySem.F.type_list_append mt_append (pe_fld (pv 0) (by rfl)) (pa_cons (pe_tup (pa_cons (pe_str) (pa_cons (pe_ix ix_tup (pv 5) (pe_int) (fun _ _ => rfl)) (pa_cons (pe_ix ix_tup (pv 5) (pe_int) (fun _ _ => rfl)) (pa_cons (pe_ix ix_tup (pv 5) (pe_int) (fun _ _ => rfl)) (pa_nil)))))) (pa_nil))))
        (pss_cons (ps_asg (pe_ix ix_tup (pv 5) (pe_int) (fun _ _ => rfl)) (pg_sub (pv 2) (pe_ix ix_tup (pv 6) (pe_int) (fun _ _ => rfl)) set_list))
        (pss_one (ps_ret (pm c_Walker_does hr (pv 0) (pa_cons (pe_ix ix_tup (pv 6) (pe_int) (fun _ _ => rfl)) (pa_cons (pv 2) (pa_cons (pe_op op_catA (pv 3) (pe_tup (pa_cons (pv 5) (pa_nil)))) (pa_cons (pv 4) (pa_nil)))))))))) (pss_nil))))
        (pss_one (ps_ret (pv 5)))))

abbrev s_Walker_cleaned : Stmt := inClass (topS 10) 8
abbrev N_Walker_cleaned : List Str := ["self", "one", "slots", "met", "depth", "end", "last"]
theorem sc_Walker_cleaned : FnScope N_Walker_cleaned ["self", "one", "slots", "met", "depth"] (defScope s_Walker_cleaned) := ⟨rfl, rfl, rfl, by decide +kernel, rfl, by decide +kernel, by decide +kernel⟩
theorem ok_Walker_cleaned {C_Walker : Addr} {sp_Walker_does : Sp} {ad_ON : Addr} {f : Addr} {fd : FuncData} (D : FunD K "cleaned" "Walker.cleaned" (defArgs s_Walker_cleaned) (defBody s_Walker_cleaned) (defScope s_Walker_cleaned) [] [] f fd) (c_Walker_does : CalM P w K mg base k C_Walker "does" ["self", "one", "slots", "met", "depth"] sp_Walker_does) (Go_ON : mg "ON" = some (.ref ad_ON)) {sp : Sp}
    (len : ∀ vs H Q E, sp vs H Q E → vs.length = 5)
    (rd : ∀ vs H Q E, sp vs H Q E → t_Walker_cleaned K C_Walker sp_Walker_does ad_ON { nx := fun _ H' => Q .non H', rt := Q } (start N_Walker_cleaned vs) H) : FnOk P w K mg base CX0 (k + 1) f fd ["self", "one", "slots", "met", "depth"] sp := by
  refine D.ok sc_Walker_cleaned len (fun cdv A outer s H vs Q E hr h => ⟨t_Walker_cleaned K C_Walker sp_Walker_does ad_ON, PSs.nox ?_, rd vs H Q E h⟩)
  · unfold t_Walker_cleaned
    exact pss_cons (ps_set (i := 5) sc_Walker_cleaned.nd rfl (by first | exact Or.inl rfl | exact Or.inr rfl) (pm c_Walker_does hr (pv 0) (pa_cons (pe_ix ix_tup (pv 1) (pe_int) (fun _ _ => rfl)) (pa_cons (pv 2) (pa_cons (pv 3) (pa_cons (pv 4) (pa_nil)))))))
        (pss_cons (ps_if (pt_cmpR op_in_seq (pe_ix ix_tup (pv 5) (pe_int) (fun _ _ => rfl)) (pe_tup (pa_cons (pe_str) (pa_cons (pe_str) (pa_nil)))) (by rfl)) (pss_one (ps_ret (pv 5))) (pss_nil))
        (pss_cons (ps_set (i := 6) sc_Walker_cleaned.nd rfl (by first | exact Or.inl rfl | exact Or.inr rfl) (pm c_Walker_does hr (pv 0) (pa_cons (pe_ix ix_tup (pv 1) (pe_int) (fun _ _ => rfl)) (pa_cons (pv 2) (pa_cons (pv 3) (pa_cons (pv 4) (pa_nil)))))))
        (pss_cons (ps_if (pt_cmpR (op_eqD hr.units) (pv 6) (pe_glob (by rfl) Go_ON rfl) (nomark _)) (pss_one (ps_ret (pv 5))) (pss_nil))
        (pss_one (ps_ret (pv 6))))))

abbrev s_Walker_does : Stmt := inClass (topS 10) 3
abbrev N_Walker_does : List Str := ["self", "one", "slots", "met", "depth", "word"]
theorem sc_Walker_does : FnScope N_Walker_does ["self", "one", "slots", "met", "depth"] (defScope s_Walker_does) := ⟨rfl, rfl, rfl, by decide +kernel, rfl, by decide +kernel, by decide +kernel⟩
theorem ok_Walker_does {sp_value_of : Sp} {ad_ON : Addr} {C_Walker : Addr} {sp_Walker_row : Sp} {sp_Walker_does : Sp} {sp_Walker_looped : Sp} {sp_Walker_call : Sp} {sp_Walker_tried : Sp} {sp_Walker_cleaned : Sp} {f : Addr} {fd : FuncData} (D : FunD K "does" "Walker.does" (defArgs s_Walker_does) (defBody s_Walker_does) (defScope s_Walker_does) [] [] f fd) (c_value_of : Cal P w K mg base k "value_of" ["part", "slots"] sp_value_of) (Go_ON : mg "ON" = some (.ref ad_ON)) (c_Walker_row : CalM P w K mg base k C_Walker "row" ["self", "parts", "slots", "met", "depth"] sp_Walker_row) (c_Walker_does : CalM P w K mg base k C_Walker "does" ["self", "one", "slots", "met", "depth"] sp_Walker_does) (c_Walker_looped : CalM P w K mg base k C_Walker "looped" ["self", "one", "slots", "met", "depth"] sp_Walker_looped) (c_Walker_call : CalM P w K mg base k C_Walker "call" ["self", "one", "slots", "depth"] sp_Walker_call) (c_Walker_tried : CalM P w K mg base k C_Walker "tried" ["self", "one", "slots", "met", "depth"] sp_Walker_tried) (c_Walker_cleaned : CalM P w K mg base k C_Walker "cleaned" ["self", "one", "slots", "met", "depth"] sp_Walker_cleaned) {sp : Sp}
    (len : ∀ vs H Q E, sp vs H Q E → vs.length = 5)
    (rd : ∀ vs H Q E, sp vs H Q E → t_Walker_does K sp_value_of ad_ON C_Walker sp_Walker_row sp_Walker_does sp_Walker_looped sp_Walker_call sp_Walker_tried sp_Walker_cleaned { nx := fun _ H' => Q .non H', rt := Q } (start N_Walker_does vs) H) : FnOk P w K mg base CX0 (k + 1) f fd ["self", "one", "slots", "met", "depth"] sp := by
  refine D.ok sc_Walker_does len (fun cdv A outer s H vs Q E hr h => ⟨t_Walker_does K sp_value_of ad_ON C_Walker sp_Walker_row sp_Walker_does sp_Walker_looped sp_Walker_call sp_Walker_tried sp_Walker_cleaned, PSs.nox ?_, rd vs H Q E h⟩)
  · unfold t_Walker_does
    exact pss_cons (ps_set (i := 5) sc_Walker_does.nd rfl (by first | exact Or.inl rfl | exact Or.inr rfl) (pe_ix ix_tup (pv 1) (pe_int) (fun _ _ => rfl)))
        (pss_cons (ps_if (pt_cmpR op_eq (pv 5) (pe_str) (nomark _)) (pss_cons (ps_expr (pe_bm PySem.F.plainAttrs_list PySem.F.slot_list_append PySem.F.type_list_append mt_append (pe_fld (pv 0) (by rfl)) (pa_cons (pe_tup (pa_cons (pe_str) (pa_cons (pc c_value_of hr (pa_cons (pe_ix ix_tup (pv 1) (pe_int) (fun _ _ => rfl)) (pa_cons (pv 2) (pa_nil)))) (pa_nil)))) (pa_nil))))
        (pss_one (ps_ret (pe_glob (by rfl) Go_ON rfl)))) (pss_nil))
        (pss_cons (ps_if (pt_cmpR op_eq (pv 5) (pe_str) (nomark _)) (pss_cons (ps_asg (pc c_value_of hr (pa_cons (pe_ix ix_tup (pv 1) (pe_int) (fun _ _ => rfl)) (pa_cons (pv 2) (pa_nil)))) (pg_sub (pv 2) (pe_ix ix_tup (pv 1) (pe_int) (fun _ _ => rfl)) set_list))
        (pss_one (ps_ret (pe_glob (by rfl) Go_ON rfl)))) (pss_nil))
        (pss_cons (ps_if (pt_cmpR op_eq (pv 5) (pe_str) (nomark _)) (pss_one (ps_ret (pm c_Walker_row hr (pv 0) (pa_cons (pe_ix ix_tup (pv 1) (pe_int) (fun _ _ => rfl)) (pa_cons (pv 2) (pa_cons (pv 3) (pa_cons (pv 4) (pa_nil)))))))) (pss_nil))
        (pss_cons (ps_if (pt_cmpR op_eq (pv 5) (pe_str) (nomark _)) (pss_cons (ps_if (pt_cmpR op_ne (pc c_value_of hr (pa_cons (pe_ix ix_tup (pv 1) (pe_int) (fun _ _ => rfl)) (pa_cons (pv 2) (pa_nil)))) (pe_int) (nomark _)) (pss_one (ps_ret (pm c_Walker_does hr (pv 0) (pa_cons (pe_ix ix_tup (pv 1) (pe_int) (fun _ _ => rfl)) (pa_cons (pv 2) (pa_cons (pv 3) (pa_cons (pv 4) (pa_nil)))))))) (pss_nil))
        (pss_one (ps_ret (pm c_Walker_does hr (pv 0) (pa_cons (pe_ix ix_tup (pv 1) (pe_int) (fun _ _ => rfl)) (pa_cons (pv 2) (pa_cons (pv 3) (pa_cons (pv 4) (pa_nil))))))))) (pss_nil))
        (pss_cons (ps_if (pt_cmpR op_eq (pv 5) (pe_str) (nomark _)) (pss_one (ps_ret (pm c_Walker_looped hr (pv 0) (pa_cons (pv 1) (pa_cons (pv 2) (pa_cons (pv 3) (pa_cons (pv 4) (pa_nil)))))))) (pss_nil))
        (pss_cons (ps_if (pt_cmpR op_eq (pv 5) (pe_str) (nomark _)) (pss_one (ps_ret (pe_tup (pa_cons (pe_str) (pa_cons (pc c_value_of hr (pa_cons (pe_ix ix_tup (pv 1) (pe_int) (fun _ _ => rfl)) (pa_cons (pv 2) (pa_nil)))) (pa_nil)))))) (pss_nil))
        (pss_cons (ps_if (pt_cmpR op_eq (pv 5) (pe_str) (nomark _)) (pss_one (ps_ret (pe_tup (pa_cons (pe_str) (pa_cons (pe_ix ix_tup (pv 1) (pe_int) (fun _ _ => rfl)) (pa_cons (pc c_value_of hr (pa_cons (pe_ix ix_tup (pv 1) (pe_int) (fun _ _ => rfl)) (pa_cons (pv 2) (pa_nil)))) (pa_cons (pe_tup (pa_cons (pe_ix ix_tup (pv 1) (pe_int) (fun _ _ => rfl)) (pa_nil))) (pa_nil)))))))) (pss_nil))
        (pss_cons (ps_if (pt_cmpR op_eq (pv 5) (pe_str) (nomark _)) (pss_one (ps_ret (pe_ix ix_tup (pv 3) (pe_un un_neg (pe_int)) (fun _ _ => rfl)))) (pss_nil))
        (pss_cons (ps_if (pt_cmpR op_eq (pv 5) (pe_str) (nomark _)) (pss_one (ps_ret (pm c_Walker_call hr (pv 0) (pa_cons (pv 1) (pa_cons (pv 2) (pa_cons (pv 4) (pa_nil))))))) (pss_nil))
        (pss_cons (ps_if (pt_cmpR op_eq (pv 5) (pe_str) (nomark _)) (pss_one (ps_ret (pm c_Walker_tried hr (pv 0) (pa_cons (pv 1) (pa_cons (pv 2) (pa_cons (pv 3) (pa_cons (pv 4) (pa_nil)))))))) (pss_nil))
        (pss_cons (ps_if (pt_cmpR op_eq (pv 5) (pe_str) (nomark _)) (pss_one (ps_ret (pm c_Walker_cleaned hr (pv 0) (pa_cons (pv 1) (pa_cons (pv 2) (pa_cons (pv 3) (pa_cons (pv 4) (pa_nil)))))))) (pss_nil))
        (pss_one (ps_ret (pv 1))))))))))))))

abbrev s_walked : Stmt := topS 11
abbrev N_walked : List Str := ["program", "numbers", "most", "deep", "walker", "end"]
theorem sc_walked : FnScope N_walked ["program", "numbers", "most", "deep"] (defScope s_walked) := ⟨rfl, rfl, rfl, by decide +kernel, rfl, by decide +kernel, by decide +kernel⟩
theorem ok_walked {C_Walker : Addr} {sp_Walker_init : Sp} {sp_Walker_called : Sp} {f : Addr} {fd : FuncData} (D : FunD K "walked" "walked" (defArgs s_walked) (defBody s_walked) (defScope s_walked) [] [] f fd) (c_Walker_init : CalC P w K mg base k "Walker" C_Walker ["self", "program", "most", "deep"] sp_Walker_init) (c_Walker_called : CalM P w K mg base k C_Walker "called" ["self", "number", "numbers", "depth"] sp_Walker_called) {sp : Sp}
    (len : ∀ vs H Q E, sp vs H Q E → vs.length = 4)
    (rd : ∀ vs H Q E, sp vs H Q E → t_walked K C_Walker sp_Walker_init sp_Walker_called { nx := fun _ H' => Q .non H', rt := Q } (start N_walked vs) H) : FnOk P w K mg base CX0 (k + 2) f fd ["program", "numbers", "most", "deep"] sp := by
  refine D.ok sc_walked len (fun cdv A outer s H vs Q E hr h => ⟨t_walked K C_Walker sp_Walker_init sp_Walker_called, PSs.nox ?_, rd vs H Q E h⟩)
  · have hrm := hr; have hr : Room k _ := hr.mono (by omega)
    unfold t_walked
    exact pss_cons (ps_set (i := 4) sc_walked.nd rfl (by first | exact Or.inl rfl | exact Or.inr rfl) (pk c_Walker_init hrm (pa_cons (pv 0) (pa_cons (pv 2) (pa_cons (pv 3) (pa_nil))))))
        (pss_cons (ps_set (i := 5) sc_walked.nd rfl (by first | exact Or.inl rfl | exact Or.inr rfl) (pm c_Walker_called hr (pv 4) (pa_cons (pe_int) (pa_cons (pv 1) (pa_cons (pe_int) (pa_nil))))))
        (pss_one (ps_ret (pe_tup (pa_cons (pe_fld (pv 4) (by rfl)) (pa_cons (pv 5) (pa_nil)))))))

abbrev s_law_take : Stmt := topS 13
abbrev N_law_take : List Str := ["_law_box", "_law_many", "_law_number"]
theorem sc_law_take : FnScope N_law_take ["_law_box", "_law_many"] (defScope s_law_take) := ⟨rfl, rfl, rfl, by decide +kernel, rfl, by decide +kernel, by decide +kernel⟩
theorem ok_law_take  {f : Addr} {fd : FuncData} (D : FunD K "_law_take" "_law_take" (defArgs s_law_take) (defBody s_law_take) (defScope s_law_take) [] [] f fd)  {sp : Sp}
    (len : ∀ vs H Q E, sp vs H Q E → vs.length = 2)
    (rd : ∀ vs H Q E, sp vs H Q E → t_law_take K { nx := fun _ H' => Q .non H', rt := Q } (start N_law_take vs) H) : FnOk P w K mg base CX0 (k + 1) f fd ["_law_box", "_law_many"] sp := by
  refine D.ok sc_law_take len (fun cdv A outer s H vs Q E hr h => ⟨t_law_take K, PSs.nox ?_, rd vs H Q E h⟩)
  · unfold t_law_take
    exact pss_cons (ps_if (pt_cmpR (op_eqD hr.units) (pv 0) (pe_lst (pa_nil)) (nomark _)) (pss_one (ps_ret (pe_int))) (pss_nil))
        (pss_cons (ps_set (i := 2) sc_law_take.nd rfl (by first | exact Or.inl rfl | exact Or.inr rfl) (pe_ix ix_list (pv 0) (pe_int) (fun _ _ => rfl)))
        (pss_cons (ps_asg (pe_op op_fdivW (pv 2) (pv 1)) (pg_sub (pv 0) (pe_int) set_list))
        (pss_cons (ps_if (PW.pt (pw_or (pt_cmpR op_eq (pe_ix ix_list (pv 0) (pe_int) (fun _ _ => rfl)) (pe_int) (nomark _)) (pw_or1 (pt_cmpR op_eq (pe_ix ix_list (pv 0) (pe_int) (fun _ _ => rfl)) (pe_un un_neg (pe_int)) (nomark _))))) (pss_one (ps_expr (pe_bm PySem.F.plainAttrs_list PySem.F.slot_list_pop PySem.F.type_list_pop mt_popAt (pv 0) (pa_cons (pe_int) (pa_nil))))) (pss_nil))
        (pss_one (ps_ret (pe_op op_mod (pv 2) (pv 1)))))))

abbrev s_law_alike : Stmt := topS 14
abbrev N_law_alike : List Str := ["_law_found", "_law_due", "_law_k"]
theorem sc_law_alike : FnScope N_law_alike ["_law_found", "_law_due"] (defScope s_law_alike) := ⟨rfl, rfl, rfl, by decide +kernel, rfl, by decide +kernel, by decide +kernel⟩
theorem ok_law_alike {sp_law_alike : Sp} {f : Addr} {fd : FuncData} (D : FunD K "_law_alike" "_law_alike" (defArgs s_law_alike) (defBody s_law_alike) (defScope s_law_alike) [] [] f fd) (B_isinstance : mg "isinstance" = none) (B_bool : mg "bool" = none) (B_int : mg "int" = none) (B_str : mg "str" = none) (B_tuple : mg "tuple" = none) (B_list : mg "list" = none) (B_len : mg "len" = none) (B_range : mg "range" = none) (c_law_alike : Cal P w K mg base k "_law_alike" ["_law_found", "_law_due"] sp_law_alike) {sp : Sp}
    (len : ∀ vs H Q E, sp vs H Q E → vs.length = 2)
    (rd : ∀ vs H Q E, sp vs H Q E → t_law_alike K sp_law_alike { nx := fun _ H' => Q .non H', rt := Q } (start N_law_alike vs) H) : FnOk P w K mg base CX0 (k + 1) f fd ["_law_found", "_law_due"] sp := by
  refine D.ok sc_law_alike len (fun cdv A outer s H vs Q E hr h => ⟨t_law_alike K sp_law_alike, PSs.nox ?_, rd vs H Q E h⟩)
  · unfold t_law_alike
    exact pss_cons (ps_if (pt_cmpR op_isN (pv 1) (pe_non) (nomark _)) (pss_one (ps_ret (pe_cmpR op_isN (pv 0) (pe_non) (nomark _)))) (pss_nil))
        (pss_cons (ps_if (pt_val (pe_callB call_isi (by rfl) B_isinstance (by decide +kernel) (pa_cons (pv 1) (pa_cons (pe_bltn (by rfl) B_bool (by decide +kernel) rfl) (pa_nil))))) (pss_one (ps_ret (pe_and (pe_callB call_isi (by rfl) B_isinstance (by decide +kernel) (pa_cons (pv 0) (pa_cons (pe_bltn (by rfl) B_bool (by decide +kernel) rfl) (pa_nil)))) (pe_one (pe_cmpR op_eq (pv 0) (pv 1) (nomark _)))))) (pss_nil))
        (pss_cons (ps_if (pt_val (pe_callB call_isi (by rfl) B_isinstance (by decide +kernel) (pa_cons (pv 1) (pa_cons (pe_bltn (by rfl) B_int (by decide +kernel) rfl) (pa_nil))))) (pss_one (ps_ret (pe_and (pe_callB call_isi (by rfl) B_isinstance (by decide +kernel) (pa_cons (pv 0) (pa_cons (pe_bltn (by rfl) B_int (by decide +kernel) rfl) (pa_nil)))) (pe_and (pe_not (pe_callB call_isi (by rfl) B_isinstance (by decide +kernel) (pa_cons (pv 0) (pa_cons (pe_bltn (by rfl) B_bool (by decide +kernel) rfl) (pa_nil))))) (pe_one (pe_cmpR op_eq (pv 0) (pv 1) (nomark _))))))) (pss_nil))
        (pss_cons (ps_if (pt_val (pe_callB call_isi (by rfl) B_isinstance (by decide +kernel) (pa_cons (pv 1) (pa_cons (pe_bltn (by rfl) B_str (by decide +kernel) rfl) (pa_nil))))) (pss_one (ps_ret (pe_and (pe_callB call_isi (by rfl) B_isinstance (by decide +kernel) (pa_cons (pv 0) (pa_cons (pe_bltn (by rfl) B_str (by decide +kernel) rfl) (pa_nil)))) (pe_one (pe_cmpR op_eq (pv 0) (pv 1) (nomark _)))))) (pss_nil))
        (pss_cons (ps_if (PW.pt (pw_or (pt_cmpR op_ne (pe_callB call_isi (by rfl) B_isinstance (by decide +kernel) (pa_cons (pv 1) (pa_cons (pe_bltn (by rfl) B_tuple (by decide +kernel) rfl) (pa_nil)))) (pe_callB call_isi (by rfl) B_isinstance (by decide +kernel) (pa_cons (pv 0) (pa_cons (pe_bltn (by rfl) B_tuple (by decide +kernel) rfl) (pa_nil)))) (nomark _)) (pw_or1 (pt_cmpR op_ne (pe_callB call_isi (by rfl) B_isinstance (by decide +kernel) (pa_cons (pv 1) (pa_cons (pe_bltn (by rfl) B_list (by decide +kernel) rfl) (pa_nil)))) (pe_callB call_isi (by rfl) B_isinstance (by decide +kernel) (pa_cons (pv 0) (pa_cons (pe_bltn (by rfl) B_list (by decide +kernel) rfl) (pa_nil)))) (nomark _))))) (pss_one (ps_ret (pe_bl))) (pss_nil))
        (pss_cons (ps_if (pt_cmpR op_ne (pe_callB call_len_seq (by rfl) B_len PySem.boot_len (pa_cons (pv 0) (pa_nil))) (pe_callB call_len_seq (by rfl) B_len PySem.boot_len (pa_cons (pv 1) (pa_nil))) (nomark _)) (pss_one (ps_ret (pe_bl))) (pss_nil))
        (pss_cons (ps_for PassesOwn.never rfl (pi_range1 (by rfl) B_range (pa_cons (pe_callB call_len_seq (by rfl) B_len PySem.boot_len (pa_cons (pv 1) (pa_nil))) (pa_nil))) (pg_name (i := 2) sc_law_alike.nd rfl (by first | exact Or.inl rfl | exact Or.inr rfl)) (pss_one (ps_if (pt_not (pt_val (pc c_law_alike hr (pa_cons (pe_ix ix_seq (pv 0) (pv 2) (fun _ _ => rfl)) (pa_cons (pe_ix ix_seq (pv 1) (pv 2) (fun _ _ => rfl)) (pa_nil)))))) (pss_one (ps_ret (pe_bl))) (pss_nil))))
        (pss_one (ps_ret (pe_bl)))))))))

abbrev s_law_part : Stmt := topS 15
abbrev N_law_part : List Str := ["_law_box", "_law_deep", "_law_kind", "_law_word", "_law_one"]
theorem sc_law_part : FnScope N_law_part ["_law_box", "_law_deep"] (defScope s_law_part) := ⟨rfl, rfl, rfl, by decide +kernel, rfl, by decide +kernel, by decide +kernel⟩
theorem ok_law_part {sp_law_take : Sp} {sp_law_part : Sp} {f : Addr} {fd : FuncData} (D : FunD K "_law_part" "_law_part" (defArgs s_law_part) (defBody s_law_part) (defScope s_law_part) [] [] f fd) (c_law_take : Cal P w K mg base k "_law_take" ["_law_box", "_law_many"] sp_law_take) (c_law_part : Cal P w K mg base k "_law_part" ["_law_box", "_law_deep"] sp_law_part) {sp : Sp}
    (len : ∀ vs H Q E, sp vs H Q E → vs.length = 2)
    (rd : ∀ vs H Q E, sp vs H Q E → t_law_part K sp_law_take sp_law_part { nx := fun _ H' => Q .non H', rt := Q } (start N_law_part vs) H) : FnOk P w K mg base CX0 (k + 1) f fd ["_law_box", "_law_deep"] sp := by
  refine D.ok sc_law_part len (fun cdv A outer s H vs Q E hr h => ⟨t_law_part K sp_law_take sp_law_part, PSs.nox ?_, rd vs H Q E h⟩)
  · unfold t_law_part
    exact pss_cons (ps_set (i := 2) sc_law_part.nd rfl (by first | exact Or.inl rfl | exact Or.inr rfl) (pc c_law_take hr (pa_cons (pv 0) (pa_cons (pe_int) (pa_nil)))))
        (pss_cons (ps_if (pt_cmpR op_lt (pv 2) (pe_int) (nomark _)) (pss_one (ps_ret (pe_tup (pa_cons (pe_str) (pa_cons (pc c_law_take hr (pa_cons (pv 0) (pa_cons (pe_int) (pa_nil)))) (pa_nil)))))) (pss_nil))
        (pss_cons (ps_if (PW.pt (pw_or (pt_cmpR op_eq (pv 1) (pe_int) (nomark _)) (pw_or1 (pt_cmpR op_eq (pv 2) (pe_int) (nomark _))))) (pss_one (ps_ret (pe_tup (pa_cons (pe_str) (pa_cons (pc c_law_take hr (pa_cons (pv 0) (pa_cons (pe_int) (pa_nil)))) (pa_nil)))))) (pss_nil))
        (pss_cons (ps_if (pt_cmpR op_lt (pv 2) (pe_int) (nomark _)) (pss_one (ps_ret (pe_tup (pa_cons (pe_str) (pa_cons (pc c_law_take hr (pa_cons (pv 0) (pa_cons (pe_int) (pa_nil)))) (pa_nil)))))) (pss_nil))
        (pss_cons (ps_set (i := 3) sc_law_part.nd rfl (by first | exact Or.inl rfl | exact Or.inr rfl) (pe_ix ix_list (pe_lst (pa_cons (pe_str) (pa_cons (pe_str) (pa_cons (pe_str) (pa_cons (pe_str) (pa_nil)))))) (pc c_law_take hr (pa_cons (pv 0) (pa_cons (pe_int) (pa_nil)))) (fun _ _ => rfl)))
        (pss_cons (ps_set (i := 4) sc_law_part.nd rfl (by first | exact Or.inl rfl | exact Or.inr rfl) (pc c_law_part hr (pa_cons (pv 0) (pa_cons (pe_op op_sub (pv 1) (pe_int)) (pa_nil)))))
        (pss_one (ps_ret (pe_tup (pa_cons (pv 3) (pa_cons (pv 4) (pa_cons (pc c_law_part hr (pa_cons (pv 0) (pa_cons (pe_op op_sub (pv 1) (pe_int)) (pa_nil)))) (pa_nil))))))))))))

abbrev s_law_value : Stmt := topS 16
abbrev N_law_value : List Str := ["_law_part_here", "_law_slots", "_law_word", "_law_one", "_law_two"]
theorem sc_law_value : FnScope N_law_value ["_law_part_here", "_law_slots"] (defScope s_law_value) := ⟨rfl, rfl, rfl, by decide +kernel, rfl, by decide +kernel, by decide +kernel⟩
theorem ok_law_value {sp_law_value : Sp} {f : Addr} {fd : FuncData} (D : FunD K "_law_value" "_law_value" (defArgs s_law_value) (defBody s_law_value) (defScope s_law_value) [] [] f fd) (c_law_value : Cal P w K mg base k "_law_value" ["_law_part_here", "_law_slots"] sp_law_value) (B_int : mg "int" = none) {sp : Sp}
    (len : ∀ vs H Q E, sp vs H Q E → vs.length = 2)
    (rd : ∀ vs H Q E, sp vs H Q E → t_law_value K sp_law_value { nx := fun _ H' => Q .non H', rt := Q } (start N_law_value vs) H) : FnOk P w K mg base CX0 (k + 1) f fd ["_law_part_here", "_law_slots"] sp := by
  refine D.ok sc_law_value len (fun cdv A outer s H vs Q E hr h => ⟨t_law_value K sp_law_value, PSs.nox ?_, rd vs H Q E h⟩)
  · unfold t_law_value
    exact pss_cons (ps_set (i := 2) sc_law_value.nd rfl (by first | exact Or.inl rfl | exact Or.inr rfl) (pe_ix ix_tup (pv 0) (pe_int) (fun _ _ => rfl)))
        (pss_cons (ps_if (pt_cmpR op_eq (pv 2) (pe_str) (nomark _)) (pss_one (ps_ret (pe_ix ix_tup (pv 0) (pe_int) (fun _ _ => rfl)))) (pss_nil))
        (pss_cons (ps_if (pt_cmpR op_eq (pv 2) (pe_str) (nomark _)) (pss_one (ps_ret (pe_ix ix_list (pv 1) (pe_ix ix_tup (pv 0) (pe_int) (fun _ _ => rfl)) (fun _ _ => rfl)))) (pss_nil))
        (pss_cons (ps_set (i := 3) sc_law_value.nd rfl (by first | exact Or.inl rfl | exact Or.inr rfl) (pc c_law_value hr (pa_cons (pe_ix ix_tup (pv 0) (pe_int) (fun _ _ => rfl)) (pa_cons (pv 1) (pa_nil)))))
        (pss_cons (ps_set (i := 4) sc_law_value.nd rfl (by first | exact Or.inl rfl | exact Or.inr rfl) (pc c_law_value hr (pa_cons (pe_ix ix_tup (pv 0) (pe_int) (fun _ _ => rfl)) (pa_cons (pv 1) (pa_nil)))))
        (pss_cons (ps_if (pt_cmpR op_eq (pv 2) (pe_str) (nomark _)) (pss_one (ps_ret (pe_callTy call_int1 (by rfl) B_int (by decide +kernel) (pa_cons (pe_cmpR op_lt (pv 3) (pv 4) (nomark _)) (pa_nil))))) (pss_nil))
        (pss_cons (ps_if (pt_cmpR op_eq (pv 2) (pe_str) (nomark _)) (pss_one (ps_ret (pe_op op_mod (pe_op op_add (pv 3) (pv 4)) (pe_int)))) (pss_nil))
        (pss_cons (ps_if (pt_cmpR op_eq (pv 2) (pe_str) (nomark _)) (pss_one (ps_ret (pe_op op_mod (pe_op op_sub (pe_op op_add (pv 3) (pe_op op_mul (pe_int) (pe_int))) (pv 4)) (pe_int)))) (pss_nil))
        (pss_one (ps_ret (pe_op op_mod (pe_op op_mul (pv 3) (pv 4)) (pe_int)))))))))))

abbrev s_law_kinds : Stmt := topS 17
abbrev N_law_kinds : List Str := ["_law_box", "_law_most", "_law_kinds_here", "_law_k", "_law_above_here"]
theorem sc_law_kinds : FnScope N_law_kinds ["_law_box", "_law_most"] (defScope s_law_kinds) := ⟨rfl, rfl, rfl, by decide +kernel, rfl, by decide +kernel, by decide +kernel⟩
theorem ok_law_kinds {sp_law_take : Sp} {f : Addr} {fd : FuncData} (D : FunD K "_law_kinds" "_law_kinds" (defArgs s_law_kinds) (defBody s_law_kinds) (defScope s_law_kinds) [] [] f fd) (B_range : mg "range" = none) (c_law_take : Cal P w K mg base k "_law_take" ["_law_box", "_law_many"] sp_law_take) (B_int : mg "int" = none) (B_tuple : mg "tuple" = none) {sp : Sp}
    (len : ∀ vs H Q E, sp vs H Q E → vs.length = 2)
    (rd : ∀ vs H Q E, sp vs H Q E → t_law_kinds K sp_law_take { nx := fun _ H' => Q .non H', rt := Q } (start N_law_kinds vs) H) : FnOk P w K mg base CX0 (k + 1) f fd ["_law_box", "_law_most"] sp := by
  refine D.ok sc_law_kinds len (fun cdv A outer s H vs Q E hr h => ⟨t_law_kinds K sp_law_take, PSs.nox ?_, rd vs H Q E h⟩)
  · unfold t_law_kinds
    exact pss_cons (ps_set (i := 2) sc_law_kinds.nd rfl (by first | exact Or.inl rfl | exact Or.inr rfl) (pe_lst (pa_nil)))
        (pss_cons (ps_for PassesOwn.never rfl (pi_range1 (by rfl) B_range (pa_cons (pe_op op_add (pe_int) (pc c_law_take hr (pa_cons (pv 0) (pa_cons (pv 1) (pa_nil))))) (pa_nil))) (pg_name (i := 3) sc_law_kinds.nd rfl (by first | exact Or.inl rfl | exact Or.inr rfl)) (pss_cons (ps_set (i := 4) sc_law_kinds.nd rfl (by first | exact Or.inl rfl | exact Or.inr rfl) (pc c_law_take hr (pa_cons (pv 0) (pa_cons (pe_op op_add (pv 3) (pe_int)) (pa_nil)))))
        (pss_one (ps_expr (pe_bm PySem.F.plainAttrs_list PySem.F.slot_list_append PySem.F.type_list_append mt_append (pv 2) (pa_cons (pe_ix ix_list (pe_lst (pa_cons (pe_non) (pa_cons (pe_op op_sub (pv 4) (pe_int)) (pa_nil)))) (pe_callTy call_int1 (by rfl) B_int (by decide +kernel) (pa_cons (pe_cmpR op_gt (pv 4) (pe_int) (nomark _)) (pa_nil))) (fun _ _ => rfl)) (pa_nil)))))))
        (pss_one (ps_ret (pe_callTy call_tuple_of (by rfl) B_tuple (by decide +kernel) (pa_cons (pv 2) (pa_nil))))))

abbrev s_law_above : Stmt := topS 18
abbrev N_law_above : List Str := ["_law_kinds_here", "_law_kind", "_law_row", "_law_k", "_law_last"]
theorem sc_law_above : FnScope N_law_above ["_law_kinds_here", "_law_kind"] (defScope s_law_above) := ⟨rfl, rfl, rfl, by decide +kernel, rfl, by decide +kernel, by decide +kernel⟩
theorem ok_law_above  {f : Addr} {fd : FuncData} (D : FunD K "_law_above" "_law_above" (defArgs s_law_above) (defBody s_law_above) (defScope s_law_above) [] [] f fd) (B_range : mg "range" = none) (B_len : mg "len" = none) {sp : Sp}
    (len : ∀ vs H Q E, sp vs H Q E → vs.length = 2)
    (rd : ∀ vs H Q E, sp vs H Q E → t_law_above K { nx := fun _ H' => Q .non H', rt := Q } (start N_law_above vs) H) : FnOk P w K mg base CX0 (k + 1) f fd ["_law_kinds_here", "_law_kind"] sp := by
  refine D.ok sc_law_above len (fun cdv A outer s H vs Q E hr h => ⟨t_law_above K, PSs.nox ?_, rd vs H Q E h⟩)
  · unfold t_law_above
    exact pss_cons (ps_set (i := 2) sc_law_above.nd rfl (by first | exact Or.inl rfl | exact Or.inr rfl) (pe_lst (pa_cons (pv 1) (pa_nil))))
        (pss_cons (ps_for PassesOwn.never rfl (pi_range1 (by rfl) B_range (pa_cons (pe_callB call_len_seq (by rfl) B_len PySem.boot_len (pa_cons (pv 0) (pa_nil))) (pa_nil))) (pg_name (i := 3) sc_law_above.nd rfl (by first | exact Or.inl rfl | exact Or.inr rfl)) (pss_cons (ps_set (i := 4) sc_law_above.nd rfl (by first | exact Or.inl rfl | exact Or.inr rfl) (pe_ix ix_tup (pv 0) (pe_ix ix_list (pv 2) (pe_un un_neg (pe_int)) (fun _ _ => rfl)) (fun _ _ => rfl)))
        (pss_one (ps_if (pt_cmpR op_notN (pv 4) (pe_non) (nomark _)) (pss_one (ps_expr (pe_bm PySem.F.plainAttrs_list PySem.F.slot_list_append PySem.F.type_list_append mt_append (pv 2) (pa_cons (pv 4) (pa_nil))))) (pss_nil)))))
        (pss_one (ps_ret (pv 2))))

abbrev s_law_call : Stmt := topS 19
abbrev N_law_call : List Str := ["_law_box", "_law_shape", "_law_number", "_law_slot", "_law_parts", "_law_k"]
theorem sc_law_call : FnScope N_law_call ["_law_box", "_law_shape"] (defScope s_law_call) := ⟨rfl, rfl, rfl, by decide +kernel, rfl, by decide +kernel, by decide +kernel⟩
theorem ok_law_call {sp_law_take : Sp} {sp_law_part : Sp} {f : Addr} {fd : FuncData} (D : FunD K "_law_call" "_law_call" (defArgs s_law_call) (defBody s_law_call) (defScope s_law_call) [] [] f fd) (c_law_take : Cal P w K mg base k "_law_take" ["_law_box", "_law_many"] sp_law_take) (B_len : mg "len" = none) (B_range : mg "range" = none) (c_law_part : Cal P w K mg base k "_law_part" ["_law_box", "_law_deep"] sp_law_part) (B_tuple : mg "tuple" = none) {sp : Sp}
    (len : ∀ vs H Q E, sp vs H Q E → vs.length = 2)
    (rd : ∀ vs H Q E, sp vs H Q E → t_law_call K sp_law_take sp_law_part { nx := fun _ H' => Q .non H', rt := Q } (start N_law_call vs) H) : FnOk P w K mg base CX0 (k + 1) f fd ["_law_box", "_law_shape"] sp := by
  refine D.ok sc_law_call len (fun cdv A outer s H vs Q E hr h => ⟨t_law_call K sp_law_take sp_law_part, PSs.nox ?_, rd vs H Q E h⟩)
  · unfold t_law_call
    exact pss_cons (ps_set (i := 2) sc_law_call.nd rfl (by first | exact Or.inl rfl | exact Or.inr rfl) (pc c_law_take hr (pa_cons (pv 0) (pa_cons (pe_callB call_len_seq (by rfl) B_len PySem.boot_len (pa_cons (pe_ix ix_list (pv 1) (pe_int) (fun _ _ => rfl)) (pa_nil))) (pa_nil)))))
        (pss_cons (ps_set (i := 3) sc_law_call.nd rfl (by first | exact Or.inl rfl | exact Or.inr rfl) (pc c_law_take hr (pa_cons (pv 0) (pa_cons (pe_int) (pa_nil)))))
        (pss_cons (ps_setLc (i := 4) (own := [("_law_k", 5)]) (g := gName 5) rfl sc_law_call.nd rfl rfl (sw_true rfl rfl rfl (by decide +kernel)) (pi_range1 (by rfl) B_range (pa_cons (pe_ix ix_list (pe_ix ix_list (pv 1) (pe_int) (fun _ _ => rfl)) (pv 2) (fun _ _ => rfl)) (pa_nil))) (blkOk_by (own := [("_law_k", 5)]) (N := N_law_call) (sc := defScope s_law_call) (by decide +kernel)) (fun _ _ _ _ _ => pg_name (i := 5) sc_law_call.nd rfl (Or.inl rfl)) (fun _ _ _ _ _ => pts_nil) (fun _ _ _ _ _ => pc c_law_part hr (pa_cons (pv 0) (pa_cons (pe_int) (pa_nil)))))
        (pss_one (ps_ret (pe_tup (pa_cons (pe_str) (pa_cons (pv 3) (pa_cons (pv 2) (pa_cons (pe_callTy call_tuple_of (by rfl) B_tuple (by decide +kernel) (pa_cons (pv 4) (pa_nil))) (pa_cons (pc c_law_take hr (pa_cons (pv 0) (pa_cons (pe_int) (pa_nil)))) (pa_nil)))))))))))

abbrev s_law_simple : Stmt := topS 20
abbrev N_law_simple : List Str := ["_law_box", "_law_shape", "_law_turn", "_law_handler_here", "_law_kind", "_law_number"]
theorem sc_law_simple : FnScope N_law_simple ["_law_box", "_law_shape", "_law_turn", "_law_handler_here"] (defScope s_law_simple) := ⟨rfl, rfl, rfl, by decide +kernel, rfl, by decide +kernel, by decide +kernel⟩
theorem ok_law_simple {sp_law_take : Sp} {sp_law_call : Sp} {sp_law_part : Sp} {f : Addr} {fd : FuncData} (D : FunD K "_law_simple" "_law_simple" (defArgs s_law_simple) (defBody s_law_simple) (defScope s_law_simple) [] [] f fd) (c_law_take : Cal P w K mg base k "_law_take" ["_law_box", "_law_many"] sp_law_take) (c_law_call : Cal P w K mg base k "_law_call" ["_law_box", "_law_shape"] sp_law_call) (c_law_part : Cal P w K mg base k "_law_part" ["_law_box", "_law_deep"] sp_law_part) {sp : Sp}
    (len : ∀ vs H Q E, sp vs H Q E → vs.length = 4)
    (rd : ∀ vs H Q E, sp vs H Q E → t_law_simple K sp_law_take sp_law_call sp_law_part { nx := fun _ H' => Q .non H', rt := Q } (start N_law_simple vs) H) : FnOk P w K mg base CX0 (k + 1) f fd ["_law_box", "_law_shape", "_law_turn", "_law_handler_here"] sp := by
  refine D.ok sc_law_simple len (fun cdv A outer s H vs Q E hr h => ⟨t_law_simple K sp_law_take sp_law_call sp_law_part, PSs.nox ?_, rd vs H Q E h⟩)
  · unfold t_law_simple
    exact pss_cons (ps_set (i := 4) sc_law_simple.nd rfl (by first | exact Or.inl rfl | exact Or.inr rfl) (pc c_law_take hr (pa_cons (pv 0) (pa_cons (pe_int) (pa_nil)))))
        (pss_cons (ps_if (PW.pt (pw_and (pt_cmpR op_eq (pv 4) (pe_int) (nomark _)) (pw_and1 (pt_val (pv 3))))) (pss_one (ps_ret (pe_tup (pa_cons (pe_str) (pa_nil))))) (pss_nil))
        (pss_cons (ps_if (PW.pt (pw_and (pt_cmpR op_eq (pv 4) (pe_int) (nomark _)) (pw_and1 (pt_val (pv 2))))) (pss_one (ps_ret (pe_tup (pa_cons (pe_ix ix_list (pe_lst (pa_cons (pe_str) (pa_cons (pe_str) (pa_nil)))) (pc c_law_take hr (pa_cons (pv 0) (pa_cons (pe_int) (pa_nil)))) (fun _ _ => rfl)) (pa_nil))))) (pss_nil))
        (pss_cons (ps_if (pt_cmpR op_eq (pv 4) (pe_int) (nomark _)) (pss_one (ps_ret (pc c_law_call hr (pa_cons (pv 0) (pa_cons (pv 1) (pa_nil)))))) (pss_nil))
        (pss_cons (ps_if (pt_cmpR op_eq (pv 4) (pe_int) (nomark _)) (pss_cons (ps_set (i := 5) sc_law_simple.nd rfl (by first | exact Or.inl rfl | exact Or.inr rfl) (pc c_law_part hr (pa_cons (pv 0) (pa_cons (pe_int) (pa_nil)))))
        (pss_one (ps_ret (pe_tup (pa_cons (pe_str) (pa_cons (pc c_law_take hr (pa_cons (pv 0) (pa_cons (pe_ix ix_list (pv 1) (pe_int) (fun _ _ => rfl)) (pa_nil)))) (pa_cons (pv 5) (pa_cons (pc c_law_take hr (pa_cons (pv 0) (pa_cons (pe_int) (pa_nil)))) (pa_nil))))))))) (pss_nil))
        (pss_cons (ps_if (pt_cmpR op_eq (pv 4) (pe_int) (nomark _)) (pss_one (ps_ret (pe_tup (pa_cons (pe_str) (pa_cons (pc c_law_part hr (pa_cons (pv 0) (pa_cons (pe_int) (pa_nil)))) (pa_nil)))))) (pss_nil))
        (pss_cons (ps_if (pt_cmpR op_eq (pv 4) (pe_int) (nomark _)) (pss_one (ps_ret (pe_tup (pa_cons (pe_str) (pa_cons (pe_tup (pa_nil)) (pa_nil)))))) (pss_nil))
        (pss_cons (ps_if (pt_cmpR op_eq (pv 4) (pe_int) (nomark _)) (pss_one (ps_ret (pe_tup (pa_cons (pe_str) (pa_cons (pc c_law_take hr (pa_cons (pv 0) (pa_cons (pe_int) (pa_nil)))) (pa_cons (pc c_law_part hr (pa_cons (pv 0) (pa_cons (pe_int) (pa_nil)))) (pa_nil))))))) (pss_nil))
        (pss_one (ps_ret (pe_tup (pa_cons (pe_str) (pa_cons (pc c_law_part hr (pa_cons (pv 0) (pa_cons (pe_int) (pa_nil)))) (pa_nil)))))))))))))

abbrev s_law_handler : Stmt := topS 21
abbrev N_law_handler : List Str := ["_law_box", "_law_shape", "_law_deep", "_law_turn", "_law_kind", "_law_slot"]
theorem sc_law_handler : FnScope N_law_handler ["_law_box", "_law_shape", "_law_deep", "_law_turn"] (defScope s_law_handler) := ⟨rfl, rfl, rfl, by decide +kernel, rfl, by decide +kernel, by decide +kernel⟩
theorem ok_law_handler {sp_law_take : Sp} {sp_law_statement : Sp} {f : Addr} {fd : FuncData} (D : FunD K "_law_handler" "_law_handler" (defArgs s_law_handler) (defBody s_law_handler) (defScope s_law_handler) [] [] f fd) (c_law_take : Cal P w K mg base k "_law_take" ["_law_box", "_law_many"] sp_law_take) (c_law_statement : Cal P w K mg base k "_law_statement" ["_law_box", "_law_shape", "_law_deep", "_law_turn", "_law_handler_here"] sp_law_statement) {sp : Sp}
    (len : ∀ vs H Q E, sp vs H Q E → vs.length = 4)
    (rd : ∀ vs H Q E, sp vs H Q E → t_law_handler K sp_law_take sp_law_statement { nx := fun _ H' => Q .non H', rt := Q } (start N_law_handler vs) H) : FnOk P w K mg base CX0 (k + 1) f fd ["_law_box", "_law_shape", "_law_deep", "_law_turn"] sp := by
  refine D.ok sc_law_handler len (fun cdv A outer s H vs Q E hr h => ⟨t_law_handler K sp_law_take sp_law_statement, PSs.nox ?_, rd vs H Q E h⟩)
  · unfold t_law_handler
    exact pss_cons (ps_set (i := 4) sc_law_handler.nd rfl (by first | exact Or.inl rfl | exact Or.inr rfl) (pc c_law_take hr (pa_cons (pv 0) (pa_cons (pe_op op_add (pe_ix ix_list (pv 1) (pe_int) (fun _ _ => rfl)) (pe_int)) (pa_nil)))))
        (pss_cons (ps_set (i := 5) sc_law_handler.nd rfl (by first | exact Or.inl rfl | exact Or.inr rfl) (pc c_law_take hr (pa_cons (pv 0) (pa_cons (pe_int) (pa_nil)))))
        (pss_cons (ps_if (pt_cmpR op_eq (pv 4) (pe_ix ix_list (pv 1) (pe_int) (fun _ _ => rfl)) (nomark _)) (pss_one (ps_set (i := 4) sc_law_handler.nd rfl (by first | exact Or.inl rfl | exact Or.inr rfl) (pe_non))) (pss_nil))
        (pss_one (ps_ret (pe_tup (pa_cons (pv 4) (pa_cons (pv 5) (pa_cons (pc c_law_statement hr (pa_cons (pv 0) (pa_cons (pv 1) (pa_cons (pv 2) (pa_cons (pv 3) (pa_cons (pe_bl) (pa_nil))))))) (pa_nil)))))))))

abbrev s_law_statement : Stmt := topS 22
abbrev N_law_statement : List Str := ["_law_box", "_law_shape", "_law_deep", "_law_turn", "_law_handler_here", "_law_kind", "_law_k", "_law_many", "_law_part_here", "_law_yes", "_law_inner"]
theorem sc_law_statement : FnScope N_law_statement ["_law_box", "_law_shape", "_law_deep", "_law_turn", "_law_handler_here"] (defScope s_law_statement) := ⟨rfl, rfl, rfl, by decide +kernel, rfl, by decide +kernel, by decide +kernel⟩
theorem ok_law_statement {sp_law_take : Sp} {sp_law_simple : Sp} {sp_law_statement : Sp} {sp_law_part : Sp} {sp_law_handler : Sp} {f : Addr} {fd : FuncData} (D : FunD K "_law_statement" "_law_statement" (defArgs s_law_statement) (defBody s_law_statement) (defScope s_law_statement) [] [] f fd) (c_law_take : Cal P w K mg base k "_law_take" ["_law_box", "_law_many"] sp_law_take) (c_law_simple : Cal P w K mg base k "_law_simple" ["_law_box", "_law_shape", "_law_turn", "_law_handler_here"] sp_law_simple) (B_tuple : mg "tuple" = none) (B_range : mg "range" = none) (c_law_statement : Cal P w K mg base k "_law_statement" ["_law_box", "_law_shape", "_law_deep", "_law_turn", "_law_handler_here"] sp_law_statement) (c_law_part : Cal P w K mg base k "_law_part" ["_law_box", "_law_deep"] sp_law_part) (c_law_handler : Cal P w K mg base k "_law_handler" ["_law_box", "_law_shape", "_law_deep", "_law_turn"] sp_law_handler) {sp : Sp}
    (len : ∀ vs H Q E, sp vs H Q E → vs.length = 5)
    (rd : ∀ vs H Q E, sp vs H Q E → t_law_statement K sp_law_take sp_law_simple sp_law_statement sp_law_part sp_law_handler { nx := fun _ H' => Q .non H', rt := Q } (start N_law_statement vs) H) : FnOk P w K mg base CX0 (k + 1) f fd ["_law_box", "_law_shape", "_law_deep", "_law_turn", "_law_handler_here"] sp := by
  refine D.ok sc_law_statement len (fun cdv A outer s H vs Q E hr h => ⟨t_law_statement K sp_law_take sp_law_simple sp_law_statement sp_law_part sp_law_handler, PSs.nox ?_, rd vs H Q E h⟩)
  · unfold t_law_statement
    exact pss_cons (ps_set (i := 5) sc_law_statement.nd rfl (by first | exact Or.inl rfl | exact Or.inr rfl) (pc c_law_take hr (pa_cons (pv 0) (pa_cons (pe_int) (pa_nil)))))
        (pss_cons (ps_if (PW.pt (pw_or (pt_cmpR op_eq (pv 2) (pe_int) (nomark _)) (pw_or1 (pt_cmpR op_lt (pv 5) (pe_int) (nomark _))))) (pss_one (ps_ret (pc c_law_simple hr (pa_cons (pv 0) (pa_cons (pv 1) (pa_cons (pv 3) (pa_cons (pv 4) (pa_nil)))))))) (pss_nil))
        (pss_cons (ps_if (PW.pt (pw_and (pt_cmpR op_eq (pv 5) (pe_int) (nomark _)) (pw_and1 (pt_cmpR op_eq (pc c_law_take hr (pa_cons (pv 0) (pa_cons (pe_int) (pa_nil)))) (pe_int) (nomark _))))) (pss_one (ps_ret (pe_tup (pa_cons (pe_str) (pa_cons (pe_callTy call_tuple_of (by rfl) B_tuple (by decide +kernel) (pa_cons (pe_lc (own := [("_law_k", 6)]) (g := gName 6) rfl sc_law_statement.nd (pi_range1 (by rfl) B_range (pa_cons (pc c_law_take hr (pa_cons (pv 0) (pa_cons (pe_int) (pa_nil)))) (pa_nil))) (blkOk_by (own := [("_law_k", 6)]) (N := N_law_statement) (sc := defScope s_law_statement) (by decide +kernel)) (fun _ _ _ _ _ => pg_name (i := 6) sc_law_statement.nd rfl (Or.inl rfl)) (fun _ _ _ _ _ => pts_nil) (fun _ _ _ _ _ => pc c_law_simple hr (pa_cons (pv 0) (pa_cons (pv 1) (pa_cons (pv 3) (pa_cons (pv 4) (pa_nil))))))) (pa_nil))) (pa_nil)))))) (pss_nil))
        (pss_cons (ps_if (pt_cmpR op_lt (pv 5) (pe_int) (nomark _)) (pss_cons (ps_set (i := 7) sc_law_statement.nd rfl (by first | exact Or.inl rfl | exact Or.inr rfl) (pe_op op_add (pe_int) (pc c_law_take hr (pa_cons (pv 0) (pa_cons (pe_int) (pa_nil))))))
        (pss_one (ps_ret (pe_tup (pa_cons (pe_str) (pa_cons (pe_callTy call_tuple_of (by rfl) B_tuple (by decide +kernel) (pa_cons (pe_lc (own := [("_law_k", 6)]) (g := gName 6) rfl sc_law_statement.nd (pi_range1 (by rfl) B_range (pa_cons (pv 7) (pa_nil))) (blkOk_by (own := [("_law_k", 6)]) (N := N_law_statement) (sc := defScope s_law_statement) (by decide +kernel)) (fun _ _ _ _ _ => pg_name (i := 6) sc_law_statement.nd rfl (Or.inl rfl)) (fun _ _ _ _ _ => pts_nil) (fun _ _ _ _ _ => pc c_law_statement hr (pa_cons (pv 0) (pa_cons (pv 1) (pa_cons (pe_op op_sub (pv 2) (pe_int)) (pa_cons (pv 3) (pa_cons (pv 4) (pa_nil)))))))) (pa_nil))) (pa_nil))))))) (pss_nil))
        (pss_cons (ps_if (pt_cmpR op_eq (pv 5) (pe_int) (nomark _)) (pss_cons (ps_set (i := 8) sc_law_statement.nd rfl (by first | exact Or.inl rfl | exact Or.inr rfl) (pc c_law_part hr (pa_cons (pv 0) (pa_cons (pe_int) (pa_nil)))))
        (pss_cons (ps_set (i := 9) sc_law_statement.nd rfl (by first | exact Or.inl rfl | exact Or.inr rfl) (pc c_law_statement hr (pa_cons (pv 0) (pa_cons (pv 1) (pa_cons (pe_op op_sub (pv 2) (pe_int)) (pa_cons (pv 3) (pa_cons (pv 4) (pa_nil))))))))
        (pss_one (ps_ret (pe_tup (pa_cons (pe_str) (pa_cons (pv 8) (pa_cons (pv 9) (pa_cons (pc c_law_statement hr (pa_cons (pv 0) (pa_cons (pv 1) (pa_cons (pe_op op_sub (pv 2) (pe_int)) (pa_cons (pv 3) (pa_cons (pv 4) (pa_nil))))))) (pa_nil)))))))))) (pss_nil))
        (pss_cons (ps_if (pt_cmpR op_lt (pv 5) (pe_int) (nomark _)) (pss_cons (ps_set (i := 8) sc_law_statement.nd rfl (by first | exact Or.inl rfl | exact Or.inr rfl) (pc c_law_part hr (pa_cons (pv 0) (pa_cons (pe_int) (pa_nil)))))
        (pss_one (ps_ret (pe_tup (pa_cons (pe_str) (pa_cons (pv 8) (pa_cons (pc c_law_statement hr (pa_cons (pv 0) (pa_cons (pv 1) (pa_cons (pe_op op_sub (pv 2) (pe_int)) (pa_cons (pe_bl) (pa_cons (pv 4) (pa_nil))))))) (pa_nil)))))))) (pss_nil))
        (pss_cons (ps_set (i := 10) sc_law_statement.nd rfl (by first | exact Or.inl rfl | exact Or.inr rfl) (pc c_law_statement hr (pa_cons (pv 0) (pa_cons (pv 1) (pa_cons (pe_op op_sub (pv 2) (pe_int)) (pa_cons (pv 3) (pa_cons (pv 4) (pa_nil))))))))
        (pss_cons (ps_if (pt_cmpR op_lt (pv 5) (pe_int) (nomark _)) (pss_cons (ps_set (i := 7) sc_law_statement.nd rfl (by first | exact Or.inl rfl | exact Or.inr rfl) (pe_op op_add (pe_int) (pc c_law_take hr (pa_cons (pv 0) (pa_cons (pe_int) (pa_nil))))))
        (pss_one (ps_ret (pe_tup (pa_cons (pe_str) (pa_cons (pv 10) (pa_cons (pe_callTy call_tuple_of (by rfl) B_tuple (by decide +kernel) (pa_cons (pe_lc (own := [("_law_k", 6)]) (g := gName 6) rfl sc_law_statement.nd (pi_range1 (by rfl) B_range (pa_cons (pv 7) (pa_nil))) (blkOk_by (own := [("_law_k", 6)]) (N := N_law_statement) (sc := defScope s_law_statement) (by decide +kernel)) (fun _ _ _ _ _ => pg_name (i := 6) sc_law_statement.nd rfl (Or.inl rfl)) (fun _ _ _ _ _ => pts_nil) (fun _ _ _ _ _ => pc c_law_handler hr (pa_cons (pv 0) (pa_cons (pv 1) (pa_cons (pe_op op_sub (pv 2) (pe_int)) (pa_cons (pv 3) (pa_nil))))))) (pa_nil))) (pa_nil)))))))) (pss_nil))
        (pss_one (ps_ret (pe_tup (pa_cons (pe_str) (pa_cons (pv 10) (pa_cons (pc c_law_statement hr (pa_cons (pv 0) (pa_cons (pv 1) (pa_cons (pe_op op_sub (pv 2) (pe_int)) (pa_cons (pv 3) (pa_cons (pv 4) (pa_nil))))))) (pa_nil))))))))))))))

abbrev s_law_program : Stmt := topS 23
abbrev N_law_program : List Str := ["_law_box", "_law_kinds_here", "_law_shape", "_law_k", "_law_functions", "_law_many", "_law_parts"]
theorem sc_law_program : FnScope N_law_program ["_law_box"] (defScope s_law_program) := ⟨rfl, rfl, rfl, by decide +kernel, rfl, by decide +kernel, by decide +kernel⟩
theorem ok_law_program {sp_law_kinds : Sp} {sp_law_take : Sp} {sp_law_statement : Sp} {f : Addr} {fd : FuncData} (D : FunD K "_law_program" "_law_program" (defArgs s_law_program) (defBody s_law_program) (defScope s_law_program) [] [] f fd) (c_law_kinds : Cal P w K mg base k "_law_kinds" ["_law_box", "_law_most"] sp_law_kinds) (B_range : mg "range" = none) (c_law_take : Cal P w K mg base k "_law_take" ["_law_box", "_law_many"] sp_law_take) (B_len : mg "len" = none) (c_law_statement : Cal P w K mg base k "_law_statement" ["_law_box", "_law_shape", "_law_deep", "_law_turn", "_law_handler_here"] sp_law_statement) (B_tuple : mg "tuple" = none) {sp : Sp}
    (len : ∀ vs H Q E, sp vs H Q E → vs.length = 1)
    (rd : ∀ vs H Q E, sp vs H Q E → t_law_program K sp_law_kinds sp_law_take sp_law_statement { nx := fun _ H' => Q .non H', rt := Q } (start N_law_program vs) H) : FnOk P w K mg base CX0 (k + 1) f fd ["_law_box"] sp := by
  refine D.ok sc_law_program len (fun cdv A outer s H vs Q E hr h => ⟨t_law_program K sp_law_kinds sp_law_take sp_law_statement, PSs.nox ?_, rd vs H Q E h⟩)
  · unfold t_law_program
    exact pss_cons (ps_set (i := 1) sc_law_program.nd rfl (by first | exact Or.inl rfl | exact Or.inr rfl) (pc c_law_kinds hr (pa_cons (pv 0) (pa_cons (pe_int) (pa_nil)))))
        (pss_cons (ps_set (i := 2) sc_law_program.nd rfl (by first | exact Or.inl rfl | exact Or.inr rfl) (pe_lst (pa_cons (pe_lc (own := [("_law_k", 3)]) (g := gName 3) rfl sc_law_program.nd (pi_range1 (by rfl) B_range (pa_cons (pe_op op_add (pe_int) (pc c_law_take hr (pa_cons (pv 0) (pa_cons (pe_int) (pa_nil))))) (pa_nil))) (blkOk_by (own := [("_law_k", 3)]) (N := N_law_program) (sc := defScope s_law_program) (by decide +kernel)) (fun _ _ _ _ _ => pg_name (i := 3) sc_law_program.nd rfl (Or.inl rfl)) (fun _ _ _ _ _ => pts_nil) (fun _ _ _ _ _ => pc c_law_take hr (pa_cons (pv 0) (pa_cons (pe_int) (pa_nil))))) (pa_cons (pe_callB call_len_seq (by rfl) B_len PySem.boot_len (pa_cons (pv 1) (pa_nil))) (pa_nil)))))
        (pss_cons (ps_set (i := 4) sc_law_program.nd rfl (by first | exact Or.inl rfl | exact Or.inr rfl) (pe_lst (pa_nil)))
        (pss_cons (ps_for PassesOwn.never rfl (pi_list (pe_ix ix_list (pv 2) (pe_int) (fun _ _ => rfl))) (pg_name (i := 5) sc_law_program.nd rfl (by first | exact Or.inl rfl | exact Or.inr rfl)) (pss_cons (ps_setLc (i := 6) (own := [("_law_k", 3)]) (g := gName 3) rfl sc_law_program.nd rfl rfl (sw_true rfl rfl rfl (by decide +kernel)) (pi_range1 (by rfl) B_range (pa_cons (pe_op op_add (pe_int) (pc c_law_take hr (pa_cons (pv 0) (pa_cons (pe_int) (pa_nil))))) (pa_nil))) (blkOk_by (own := [("_law_k", 3)]) (N := N_law_program) (sc := defScope s_law_program) (by decide +kernel)) (fun _ _ _ _ _ => pg_name (i := 3) sc_law_program.nd rfl (Or.inl rfl)) (fun _ _ _ _ _ => pts_nil) (fun _ _ _ _ _ => pc c_law_statement hr (pa_cons (pv 0) (pa_cons (pv 2) (pa_cons (pe_int) (pa_cons (pe_bl) (pa_cons (pe_bl) (pa_nil))))))))
        (pss_one (ps_expr (pe_bm PySem.F.plainAttrs_list PySem.F.slot_list_append PySem.F.type_list_append mt_append (pv 4) (pa_cons (pe_tup (pa_cons (pv 5) (pa_cons (pe_tup (pa_cons (pe_str) (pa_cons (pe_callTy call_tuple_of (by rfl) B_tuple (by decide +kernel) (pa_cons (pv 6) (pa_nil))) (pa_nil)))) (pa_nil)))) (pa_nil)))))))
        (pss_one (ps_ret (pe_tup (pa_cons (pv 1) (pa_cons (pe_callTy call_tuple_of (by rfl) B_tuple (by decide +kernel) (pa_cons (pv 4) (pa_nil))) (pa_nil)))))))))

abbrev s_law_met : Stmt := topS 24
abbrev N_law_met : List Str := ["_law_kinds_here", "_law_wanted", "_law_kind"]
theorem sc_law_met : FnScope N_law_met ["_law_kinds_here", "_law_wanted", "_law_kind"] (defScope s_law_met) := ⟨rfl, rfl, rfl, by decide +kernel, rfl, by decide +kernel, by decide +kernel⟩
theorem ok_law_met {sp_law_above : Sp} {f : Addr} {fd : FuncData} (D : FunD K "_law_met" "_law_met" (defArgs s_law_met) (defBody s_law_met) (defScope s_law_met) [] [] f fd) (c_law_above : Cal P w K mg base k "_law_above" ["_law_kinds_here", "_law_kind"] sp_law_above) {sp : Sp}
    (len : ∀ vs H Q E, sp vs H Q E → vs.length = 3)
    (rd : ∀ vs H Q E, sp vs H Q E → t_law_met K sp_law_above { nx := fun _ H' => Q .non H', rt := Q } (start N_law_met vs) H) : FnOk P w K mg base CX0 (k + 1) f fd ["_law_kinds_here", "_law_wanted", "_law_kind"] sp := by
  refine D.ok sc_law_met len (fun cdv A outer s H vs Q E hr h => ⟨t_law_met K sp_law_above, PSs.nox ?_, rd vs H Q E h⟩)
  · unfold t_law_met
    exact pss_one (ps_ret (pe_or (pe_cmpR op_isN (pv 1) (pe_non) (nomark _)) (pe_one (pe_cmpR op_in_seq (pv 1) (pc c_law_above hr (pa_cons (pv 0) (pa_cons (pv 2) (pa_nil)))) (by rfl)))))

abbrev s_law_counted : Stmt := topS 25
abbrev N_law_counted : List Str := ["_law_run"]
theorem sc_law_counted : FnScope N_law_counted ["_law_run"] (defScope s_law_counted) := ⟨rfl, rfl, rfl, by decide +kernel, rfl, by decide +kernel, by decide +kernel⟩
theorem ok_law_counted  {f : Addr} {fd : FuncData} (D : FunD K "_law_counted" "_law_counted" (defArgs s_law_counted) (defBody s_law_counted) (defScope s_law_counted) [] [] f fd)  {sp : Sp}
    (len : ∀ vs H Q E, sp vs H Q E → vs.length = 1)
    (rd : ∀ vs H Q E, sp vs H Q E → t_law_counted K { nx := fun _ H' => Q .non H', rt := Q } (start N_law_counted vs) H) : FnOk P w K mg base CX0 (k + 1) f fd ["_law_run"] sp := by
  refine D.ok sc_law_counted len (fun cdv A outer s H vs Q E hr h => ⟨t_law_counted K, PSs.nox ?_, rd vs H Q E h⟩)
  · unfold t_law_counted
    exact pss_cons (ps_asg (pe_op op_sub (pe_ix ix_list (pv 0) (pe_int) (fun _ _ => rfl)) (pe_int)) (pg_sub (pv 0) (pe_int) set_list))
        (pss_one (ps_ret (pe_cmpR op_ge (pe_ix ix_list (pv 0) (pe_int) (fun _ _ => rfl)) (pe_int) (nomark _))))

abbrev s_law_rowed : Stmt := topS 31
abbrev N_law_rowed : List Str := ["_law_run", "_law_parts", "_law_slots", "_law_met_here", "_law_depth", "_law_part_here", "_law_end"]
theorem sc_law_rowed : FnScope N_law_rowed ["_law_run", "_law_parts", "_law_slots", "_law_met_here", "_law_depth"] (defScope s_law_rowed) := ⟨rfl, rfl, rfl, by decide +kernel, rfl, by decide +kernel, by decide +kernel⟩
theorem ok_law_rowed {sp_law_does : Sp} {f : Addr} {fd : FuncData} (D : FunD K "_law_rowed" "_law_rowed" (defArgs s_law_rowed) (defBody s_law_rowed) (defScope s_law_rowed) [] [] f fd) (c_law_does : Cal P w K mg base k "_law_does" ["_law_run", "_law_one", "_law_slots", "_law_met_here", "_law_depth"] sp_law_does) {sp : Sp}
    (len : ∀ vs H Q E, sp vs H Q E → vs.length = 5)
    (rd : ∀ vs H Q E, sp vs H Q E → t_law_rowed K sp_law_does { nx := fun _ H' => Q .non H', rt := Q } (start N_law_rowed vs) H) : FnOk P w K mg base CX0 (k + 1) f fd ["_law_run", "_law_parts", "_law_slots", "_law_met_here", "_law_depth"] sp := by
  refine D.ok sc_law_rowed len (fun cdv A outer s H vs Q E hr h => ⟨t_law_rowed K sp_law_does, PSs.nox ?_, rd vs H Q E h⟩)
  · unfold t_law_rowed
    exact pss_cons (ps_for PassesOwn.never rfl (pi_tup (pv 1)) (pg_name (i := 5) sc_law_rowed.nd rfl (by first | exact Or.inl rfl | exact Or.inr rfl)) (pss_cons (ps_set (i := 6) sc_law_rowed.nd rfl (by first | exact Or.inl rfl | exact Or.inr rfl) (pc c_law_does hr (pa_cons (pv 0) (pa_cons (pv 5) (pa_cons (pv 2) (pa_cons (pv 3) (pa_cons (pv 4) (pa_nil))))))))
        (pss_one (ps_if (pt_cmpR op_ne (pe_ix ix_tup (pv 6) (pe_int) (fun _ _ => rfl)) (pe_str) (nomark _)) (pss_one (ps_ret (pv 6))) (pss_nil)))))
        (pss_one (ps_ret (pe_tup (pa_cons (pe_str) (pa_nil)))))

abbrev s_law_turned : Stmt := topS 28
abbrev N_law_turned : List Str := ["_law_run", "_law_one", "_law_slots", "_law_met_here", "_law_depth", "_law_end"]
theorem sc_law_turned : FnScope N_law_turned ["_law_run", "_law_one", "_law_slots", "_law_met_here", "_law_depth"] (defScope s_law_turned) := ⟨rfl, rfl, rfl, by decide +kernel, rfl, by decide +kernel, by decide +kernel⟩
theorem ok_law_turned {sp_law_value : Sp} {sp_law_counted : Sp} {sp_law_does : Sp} {f : Addr} {fd : FuncData} (D : FunD K "_law_turned" "_law_turned" (defArgs s_law_turned) (defBody s_law_turned) (defScope s_law_turned) [] [] f fd) (c_law_value : Cal P w K mg base k "_law_value" ["_law_part_here", "_law_slots"] sp_law_value) (c_law_counted : Cal P w K mg base k "_law_counted" ["_law_run"] sp_law_counted) (c_law_does : Cal P w K mg base k "_law_does" ["_law_run", "_law_one", "_law_slots", "_law_met_here", "_law_depth"] sp_law_does) {sp : Sp}
    (len : ∀ vs H Q E, sp vs H Q E → vs.length = 5)
    (rd : ∀ vs H Q E, sp vs H Q E → t_law_turned K sp_law_value sp_law_counted sp_law_does { nx := fun _ H' => Q .non H', rt := Q } (start N_law_turned vs) H) : FnOk P w K mg base CX0 (k + 1) f fd ["_law_run", "_law_one", "_law_slots", "_law_met_here", "_law_depth"] sp := by
  refine D.ok sc_law_turned len (fun cdv A outer s H vs Q E hr h => ⟨t_law_turned K sp_law_value sp_law_counted sp_law_does, PSs.nox ?_, rd vs H Q E h⟩)
  · unfold t_law_turned
    exact pss_cons (ps_while PassesOwn.never (pt_cmpR op_ne (pc c_law_value hr (pa_cons (pe_ix ix_tup (pv 1) (pe_int) (fun _ _ => rfl)) (pa_cons (pv 2) (pa_nil)))) (pe_int) (nomark _)) (pss_cons (ps_if (pt_not (pt_val (pc c_law_counted hr (pa_cons (pv 0) (pa_nil))))) (pss_one (ps_ret (pe_tup (pa_cons (pe_str) (pa_nil))))) (pss_nil))
        (pss_cons (ps_set (i := 5) sc_law_turned.nd rfl (by first | exact Or.inl rfl | exact Or.inr rfl) (pc c_law_does hr (pa_cons (pv 0) (pa_cons (pe_ix ix_tup (pv 1) (pe_int) (fun _ _ => rfl)) (pa_cons (pv 2) (pa_cons (pv 3) (pa_cons (pv 4) (pa_nil))))))))
        (pss_cons (ps_if (pt_cmpR op_eq (pe_ix ix_tup (pv 5) (pe_int) (fun _ _ => rfl)) (pe_str) (nomark _)) (pss_one (ps_ret (pe_tup (pa_cons (pe_str) (pa_nil))))) (pss_nil))
        (pss_one (ps_if (pt_cmpR op_notIn_seq (pe_ix ix_tup (pv 5) (pe_int) (fun _ _ => rfl)) (pe_tup (pa_cons (pe_str) (pa_cons (pe_str) (pa_nil)))) (by rfl)) (pss_one (ps_ret (pv 5))) (pss_nil)))))))
        (pss_one (ps_ret (pe_tup (pa_cons (pe_str) (pa_nil)))))

abbrev s_law_called : Stmt := topS 26
abbrev N_law_called : List Str := ["_law_run", "_law_number", "_law_numbers_here", "_law_depth", "_law_slots", "_law_k", "_law_end"]
theorem sc_law_called : FnScope N_law_called ["_law_run", "_law_number", "_law_numbers_here", "_law_depth"] (defScope s_law_called) := ⟨rfl, rfl, rfl, by decide +kernel, rfl, by decide +kernel, by decide +kernel⟩
theorem ok_law_called {sp_law_does : Sp} {f : Addr} {fd : FuncData} (D : FunD K "_law_called" "_law_called" (defArgs s_law_called) (defBody s_law_called) (defScope s_law_called) [] [] f fd) (B_list : mg "list" = none) (B_range : mg "range" = none) (B_len : mg "len" = none) (c_law_does : Cal P w K mg base k "_law_does" ["_law_run", "_law_one", "_law_slots", "_law_met_here", "_law_depth"] sp_law_does) {sp : Sp}
    (len : ∀ vs H Q E, sp vs H Q E → vs.length = 4)
    (rd : ∀ vs H Q E, sp vs H Q E → t_law_called K sp_law_does { nx := fun _ H' => Q .non H', rt := Q } (start N_law_called vs) H) : FnOk P w K mg base CX0 (k + 1) f fd ["_law_run", "_law_number", "_law_numbers_here", "_law_depth"] sp := by
  refine D.ok sc_law_called len (fun cdv A outer s H vs Q E hr h => ⟨t_law_called K sp_law_does, PSs.nox ?_, rd vs H Q E h⟩)
  · unfold t_law_called
    exact pss_cons (ps_set (i := 4) sc_law_called.nd rfl (by first | exact Or.inl rfl | exact Or.inr rfl) (pe_op op_cat (pe_callTy call_list_of (by rfl) B_list (by decide +kernel) (pa_cons (pv 2) (pa_nil))) (pe_lc (own := [("_law_k", 5)]) (g := gName 5) rfl sc_law_called.nd (pi_range1 (by rfl) B_range (pa_cons (pe_op op_sub (pe_int) (pe_callB call_len_seq (by rfl) B_len PySem.boot_len (pa_cons (pv 2) (pa_nil)))) (pa_nil))) (blkOk_by (own := [("_law_k", 5)]) (N := N_law_called) (sc := defScope s_law_called) (by decide +kernel)) (fun _ _ _ _ _ => pg_name (i := 5) sc_law_called.nd rfl (Or.inl rfl)) (fun _ _ _ _ _ => pts_nil) (fun _ _ _ _ _ => pe_int))))
        (pss_cons (ps_set (i := 6) sc_law_called.nd rfl (by first | exact Or.inl rfl | exact Or.inr rfl) (pc c_law_does hr (pa_cons (pv 0) (pa_cons (pe_ix ix_tup (pe_ix ix_tup (pe_ix ix_tup (pe_ix ix_list (pv 0) (pe_int) (fun _ _ => rfl)) (pe_int) (fun _ _ => rfl)) (pv 1) (fun _ _ => rfl)) (pe_int) (fun _ _ => rfl)) (pa_cons (pv 4) (pa_cons (pe_tup (pa_nil)) (pa_cons (pv 3) (pa_nil))))))))
        (pss_cons (ps_if (pt_cmpR op_eq (pe_ix ix_tup (pv 6) (pe_int) (fun _ _ => rfl)) (pe_str) (nomark _)) (pss_one (ps_ret (pe_tup (pa_cons (pe_str) (pa_cons (pe_int) (pa_nil)))))) (pss_nil))
        (pss_one (ps_ret (pv 6)))))

abbrev s_law_calls : Stmt := topS 27
abbrev N_law_calls : List Str := ["_law_run", "_law_one", "_law_slots", "_law_depth", "_law_numbers_here", "_law_part_here", "_law_end"]
theorem sc_law_calls : FnScope N_law_calls ["_law_run", "_law_one", "_law_slots", "_law_depth"] (defScope s_law_calls) := ⟨rfl, rfl, rfl, by decide +kernel, rfl, by decide +kernel, by decide +kernel⟩
theorem ok_law_calls {sp_law_value : Sp} {sp_law_counted : Sp} {sp_law_called : Sp} {f : Addr} {fd : FuncData} (D : FunD K "_law_calls" "_law_calls" (defArgs s_law_calls) (defBody s_law_calls) (defScope s_law_calls) [] [] f fd) (c_law_value : Cal P w K mg base k "_law_value" ["_law_part_here", "_law_slots"] sp_law_value) (c_law_counted : Cal P w K mg base k "_law_counted" ["_law_run"] sp_law_counted) (c_law_called : Cal P w K mg base k "_law_called" ["_law_run", "_law_number", "_law_numbers_here", "_law_depth"] sp_law_called) {sp : Sp}
    (len : ∀ vs H Q E, sp vs H Q E → vs.length = 4)
    (rd : ∀ vs H Q E, sp vs H Q E → t_law_calls K sp_law_value sp_law_counted sp_law_called { nx := fun _ H' => Q .non H', rt := Q } (start N_law_calls vs) H) : FnOk P w K mg base CX0 (k + 1) f fd ["_law_run", "_law_one", "_law_slots", "_law_depth"] sp := by
  refine D.ok sc_law_calls len (fun cdv A outer s H vs Q E hr h => ⟨t_law_calls K sp_law_value sp_law_counted sp_law_called, PSs.nox ?_, rd vs H Q E h⟩)
  · unfold t_law_calls
    exact pss_cons (ps_setLc (i := 4) (own := [("_law_part_here", 5)]) (g := gName 5) rfl sc_law_calls.nd rfl rfl (sw_true rfl rfl rfl (by decide +kernel)) (pi_tup (pe_ix ix_tup (pv 1) (pe_int) (fun _ _ => rfl))) (blkOk_by (own := [("_law_part_here", 5)]) (N := N_law_calls) (sc := defScope s_law_calls) (by decide +kernel)) (fun _ _ _ _ _ => pg_name (i := 5) sc_law_calls.nd rfl (Or.inl rfl)) (fun _ _ _ _ _ => pts_nil) (fun _ _ _ _ _ => pc c_law_value hr (pa_cons (pv 5) (pa_cons (pv 2) (pa_nil)))))
        (pss_cons (ps_if (pt_not (pt_val (pc c_law_counted hr (pa_cons (pv 0) (pa_nil))))) (pss_one (ps_ret (pe_tup (pa_cons (pe_str) (pa_nil))))) (pss_nil))
        (pss_cons (ps_if (pt_cmpR op_eq (pv 3) (pe_ix ix_list (pv 0) (pe_int) (fun _ _ => rfl)) (nomark _)) (pss_one (ps_ret (pe_tup (pa_cons (pe_str) (pa_nil))))) (pss_nil))
        (pss_cons (ps_set (i := 6) sc_law_calls.nd rfl (by first | exact Or.inl rfl | exact Or.inr rfl) (pc c_law_called hr (pa_cons (pv 0) (pa_cons (pe_ix ix_tup (pv 1) (pe_int) (fun _ _ => rfl)) (pa_cons (pv 4) (pa_cons (pe_op op_add (pv 3) (pe_int)) (pa_nil)))))))
        (pss_cons (ps_if (pt_cmpR op_eq (pe_ix ix_tup (pv 6) (pe_int) (fun _ _ => rfl)) (pe_str) (nomark _)) (pss_cons (ps_asg (pe_ix ix_tup (pv 6) (pe_int) (fun _ _ => rfl)) (pg_sub (pv 2) (pe_ix ix_tup (pv 1) (pe_int) (fun _ _ => rfl)) set_list))
        (pss_one (ps_ret (pe_tup (pa_cons (pe_str) (pa_nil)))))) (pss_nil))
        (pss_cons (ps_if (pt_cmpR op_eq (pe_ix ix_tup (pv 6) (pe_int) (fun _ _ => rfl)) (pe_str) (nomark _)) (pss_one (ps_ret (pe_tup (pa_cons (pe_str) (pa_cons (pe_ix ix_tup (pv 6) (pe_int) (fun _ _ => rfl)) (pa_cons (pe_ix ix_tup (pv 6) (pe_int) (fun _ _ => rfl)) (pa_cons (pe_op op_catA (pe_ix ix_tup (pv 6) (pe_int) (fun _ _ => rfl)) (pe_tup (pa_cons (pe_ix ix_tup (pv 1) (pe_int) (fun _ _ => rfl)) (pa_nil)))) (pa_nil)))))))) (pss_nil))
        (pss_one (ps_ret (pv 6))))))))

abbrev s_law_tried : Stmt := topS 29
abbrev N_law_tried : List Str := ["_law_run", "_law_one", "_law_slots", "_law_met_here", "_law_depth", "_law_end", "_law_handler_here"]
theorem sc_law_tried : FnScope N_law_tried ["_law_run", "_law_one", "_law_slots", "_law_met_here", "_law_depth"] (defScope s_law_tried) := ⟨rfl, rfl, rfl, by decide +kernel, rfl, by decide +kernel, by decide +kernel⟩
theorem ok_law_tried {sp_law_does : Sp} {sp_law_met : Sp} {f : Addr} {fd : FuncData} (D : FunD K "_law_tried" "_law_tried" (defArgs s_law_tried) (defBody s_law_tried) (defScope s_law_tried) [] [] f fd) (c_law_does : Cal P w K mg base k "_law_does" ["_law_run", "_law_one", "_law_slots", "_law_met_here", "_law_depth"] sp_law_does) (c_law_met : Cal P w K mg base k "_law_met" ["_law_kinds_here", "_law_wanted", "_law_kind"] sp_law_met) {sp : Sp}
    (len : ∀ vs H Q E, sp vs H Q E → vs.length = 5)
    (rd : ∀ vs H Q E, sp vs H Q E → t_law_tried K sp_law_does sp_law_met { nx := fun _ H' => Q .non H', rt := Q } (start N_law_tried vs) H) : FnOk P w K mg base CX0 (k + 1) f fd ["_law_run", "_law_one", "_law_slots", "_law_met_here", "_law_depth"] sp := by
  refine D.ok sc_law_tried len (fun cdv A outer s H vs Q E hr h => ⟨t_law_tried K sp_law_does sp_law_met, PSs.nox ?_, rd vs H Q E h⟩)
  · unfold t_law_tried
    exact pss_cons (ps_set (i := 5) sc_law_tried.nd rfl (by first | exact Or.inl rfl | exact Or.inr rfl) (pc c_law_does hr (pa_cons (pv 0) (pa_cons (pe_ix ix_tup (pv 1) (pe_int) (fun _ _ => rfl)) (pa_cons (pv 2) (pa_cons (pv 3) (pa_cons (pv 4) (pa_nil))))))))
        (pss_cons (ps_if (pt_cmpR op_eq (pe_ix ix_tup (pv 5) (pe_int) (fun _ _ => rfl)) (pe_str) (nomark _)) (pss_one (ps_for PassesOwn.never rfl (pi_tup (pe_ix ix_tup (pv 1) (pe_int) (fun _ _ => rfl))) (pg_name (i := 6) sc_law_tried.nd rfl (by first | exact Or.inl rfl | exact Or.inr rfl)) (pss_one (ps_if (pt_val (pc c_law_met hr (pa_cons (pe_ix ix_tup (pe_ix ix_list (pv 0) (pe_int) (fun _ _ => rfl)) (pe_int) (fun _ _ => rfl)) (pa_cons (pe_ix ix_tup (pv 6) (pe_int) (fun _ _ => rfl)) (pa_cons (pe_ix ix_tup (pv 5) (pe_int) (fun _ _ => rfl)) (pa_nil)))))) (pss_cons (ps_expr (pe_bm PySem.F.plainAttrs_list PySem.F.slot_list_append PySem.F.type_list_append mt_append (pe_ix ix_list (pv 0) (pe_int) (fun _ _ => rfl)) (pa_cons (pe_tup (pa_cons (pe_str) (pa_cons (pe_ix ix_tup (pv 5) (pe_int) (fun _ _ => rfl)) (pa_cons (pe_ix ix_tup (pv 5) (pe_int) (fun _ _ => rfl)) (pa_cons (pe_ix ix_tup (pv 5) (pe_int) (fun _ _ => rfl)) (pa_nil)))))) (pa_nil))))
        (pss_cons (ps_asg (pe_ix ix_tup (pv 5) (pe_int) (fun _ _ => rfl)) (pg_sub (pv 2) (pe_ix ix_tup (pv 6) (pe_int) (fun _ _ => rfl)) set_list))
        (pss_one (ps_ret (pc c_law_does hr (pa_cons (pv 0) (pa_cons (pe_ix ix_tup (pv 6) (pe_int) (fun _ _ => rfl)) (pa_cons (pv 2) (pa_cons (pe_op op_catA (pv 3) (pe_tup (pa_cons (pv 5) (pa_nil)))) (pa_cons (pv 4) (pa_nil))))))))))) (pss_nil))))) (pss_nil))
        (pss_one (ps_ret (pv 5))))

abbrev s_law_cleaned : Stmt := topS 30
abbrev N_law_cleaned : List Str := ["_law_run", "_law_one", "_law_slots", "_law_met_here", "_law_depth", "_law_end", "_law_last"]
theorem sc_law_cleaned : FnScope N_law_cleaned ["_law_run", "_law_one", "_law_slots", "_law_met_here", "_law_depth"] (defScope s_law_cleaned) := ⟨rfl, rfl, rfl, by decide +kernel, rfl, by decide +kernel, by decide +kernel⟩
theorem ok_law_cleaned {sp_law_does : Sp} {f : Addr} {fd : FuncData} (D : FunD K "_law_cleaned" "_law_cleaned" (defArgs s_law_cleaned) (defBody s_law_cleaned) (defScope s_law_cleaned) [] [] f fd) (c_law_does : Cal P w K mg base k "_law_does" ["_law_run", "_law_one", "_law_slots", "_law_met_here", "_law_depth"] sp_law_does) {sp : Sp}
    (len : ∀ vs H Q E, sp vs H Q E → vs.length = 5)
    (rd : ∀ vs H Q E, sp vs H Q E → t_law_cleaned K sp_law_does { nx := fun _ H' => Q .non H', rt := Q } (start N_law_cleaned vs) H) : FnOk P w K mg base CX0 (k + 1) f fd ["_law_run", "_law_one", "_law_slots", "_law_met_here", "_law_depth"] sp := by
  refine D.ok sc_law_cleaned len (fun cdv A outer s H vs Q E hr h => ⟨t_law_cleaned K sp_law_does, PSs.nox ?_, rd vs H Q E h⟩)
  · unfold t_law_cleaned
    exact pss_cons (ps_set (i := 5) sc_law_cleaned.nd rfl (by first | exact Or.inl rfl | exact Or.inr rfl) (pc c_law_does hr (pa_cons (pv 0) (pa_cons (pe_ix ix_tup (pv 1) (pe_int) (fun _ _ => rfl)) (pa_cons (pv 2) (pa_cons (pv 3) (pa_cons (pv 4) (pa_nil))))))))
        (pss_cons (ps_if (pt_cmpR op_in_seq (pe_ix ix_tup (pv 5) (pe_int) (fun _ _ => rfl)) (pe_tup (pa_cons (pe_str) (pa_cons (pe_str) (pa_nil)))) (by rfl)) (pss_one (ps_ret (pv 5))) (pss_nil))
        (pss_cons (ps_set (i := 6) sc_law_cleaned.nd rfl (by first | exact Or.inl rfl | exact Or.inr rfl) (pc c_law_does hr (pa_cons (pv 0) (pa_cons (pe_ix ix_tup (pv 1) (pe_int) (fun _ _ => rfl)) (pa_cons (pv 2) (pa_cons (pv 3) (pa_cons (pv 4) (pa_nil))))))))
        (pss_cons (ps_if (pt_cmpR op_eq (pe_ix ix_tup (pv 6) (pe_int) (fun _ _ => rfl)) (pe_str) (nomark _)) (pss_one (ps_ret (pv 5))) (pss_nil))
        (pss_one (ps_ret (pv 6))))))

abbrev s_law_does : Stmt := topS 32
abbrev N_law_does : List Str := ["_law_run", "_law_one", "_law_slots", "_law_met_here", "_law_depth", "_law_word"]
theorem sc_law_does : FnScope N_law_does ["_law_run", "_law_one", "_law_slots", "_law_met_here", "_law_depth"] (defScope s_law_does) := ⟨rfl, rfl, rfl, by decide +kernel, rfl, by decide +kernel, by decide +kernel⟩
theorem ok_law_does {sp_law_value : Sp} {sp_law_rowed : Sp} {sp_law_does : Sp} {sp_law_turned : Sp} {sp_law_calls : Sp} {sp_law_tried : Sp} {sp_law_cleaned : Sp} {f : Addr} {fd : FuncData} (D : FunD K "_law_does" "_law_does" (defArgs s_law_does) (defBody s_law_does) (defScope s_law_does) [] [] f fd) (c_law_value : Cal P w K mg base k "_law_value" ["_law_part_here", "_law_slots"] sp_law_value) (c_law_rowed : Cal P w K mg base k "_law_rowed" ["_law_run", "_law_parts", "_law_slots", "_law_met_here", "_law_depth"] sp_law_rowed) (c_law_does : Cal P w K mg base k "_law_does" ["_law_run", "_law_one", "_law_slots", "_law_met_here", "_law_depth"] sp_law_does) (B_int : mg "int" = none) (c_law_turned : Cal P w K mg base k "_law_turned" ["_law_run", "_law_one", "_law_slots", "_law_met_here", "_law_depth"] sp_law_turned) (c_law_calls : Cal P w K mg base k "_law_calls" ["_law_run", "_law_one", "_law_slots", "_law_depth"] sp_law_calls) (c_law_tried : Cal P w K mg base k "_law_tried" ["_law_run", "_law_one", "_law_slots", "_law_met_here", "_law_depth"] sp_law_tried) (c_law_cleaned : Cal P w K mg base k "_law_cleaned" ["_law_run", "_law_one", "_law_slots", "_law_met_here", "_law_depth"] sp_law_cleaned) {sp : Sp}
    (len : ∀ vs H Q E, sp vs H Q E → vs.length = 5)
    (rd : ∀ vs H Q E, sp vs H Q E → t_law_does K sp_law_value sp_law_rowed sp_law_does sp_law_turned sp_law_calls sp_law_tried sp_law_cleaned { nx := fun _ H' => Q .non H', rt := Q } (start N_law_does vs) H) : FnOk P w K mg base CX0 (k + 1) f fd ["_law_run", "_law_one", "_law_slots", "_law_met_here", "_law_depth"] sp := by
  refine D.ok sc_law_does len (fun cdv A outer s H vs Q E hr h => ⟨t_law_does K sp_law_value sp_law_rowed sp_law_does sp_law_turned sp_law_calls sp_law_tried sp_law_cleaned, PSs.nox ?_, rd vs H Q E h⟩)
  · unfold t_law_does
    exact pss_cons (ps_set (i := 5) sc_law_does.nd rfl (by first | exact Or.inl rfl | exact Or.inr rfl) (pe_ix ix_tup (pv 1) (pe_int) (fun _ _ => rfl)))
        (pss_cons (ps_if (pt_cmpR op_eq (pv 5) (pe_str) (nomark _)) (pss_cons (ps_expr (pe_bm PySem.F.plainAttrs_list PySem.F.slot_list_append PySem.F.type_list_append mt_append (pe_ix ix_list (pv 0) (pe_int) (fun _ _ => rfl)) (pa_cons (pe_tup (pa_cons (pe_str) (pa_cons (pc c_law_value hr (pa_cons (pe_ix ix_tup (pv 1) (pe_int) (fun _ _ => rfl)) (pa_cons (pv 2) (pa_nil)))) (pa_nil)))) (pa_nil))))
        (pss_one (ps_ret (pe_tup (pa_cons (pe_str) (pa_nil)))))) (pss_nil))
        (pss_cons (ps_if (pt_cmpR op_eq (pv 5) (pe_str) (nomark _)) (pss_cons (ps_asg (pc c_law_value hr (pa_cons (pe_ix ix_tup (pv 1) (pe_int) (fun _ _ => rfl)) (pa_cons (pv 2) (pa_nil)))) (pg_sub (pv 2) (pe_ix ix_tup (pv 1) (pe_int) (fun _ _ => rfl)) set_list))
        (pss_one (ps_ret (pe_tup (pa_cons (pe_str) (pa_nil)))))) (pss_nil))
        (pss_cons (ps_if (pt_cmpR op_eq (pv 5) (pe_str) (nomark _)) (pss_one (ps_ret (pc c_law_rowed hr (pa_cons (pv 0) (pa_cons (pe_ix ix_tup (pv 1) (pe_int) (fun _ _ => rfl)) (pa_cons (pv 2) (pa_cons (pv 3) (pa_cons (pv 4) (pa_nil))))))))) (pss_nil))
        (pss_cons (ps_if (pt_cmpR op_eq (pv 5) (pe_str) (nomark _)) (pss_one (ps_ret (pc c_law_does hr (pa_cons (pv 0) (pa_cons (pe_ix ix_tup (pv 1) (pe_op op_add (pe_int) (pe_callTy call_int1 (by rfl) B_int (by decide +kernel) (pa_cons (pe_cmpR op_eq (pc c_law_value hr (pa_cons (pe_ix ix_tup (pv 1) (pe_int) (fun _ _ => rfl)) (pa_cons (pv 2) (pa_nil)))) (pe_int) (nomark _)) (pa_nil)))) (fun _ _ => rfl)) (pa_cons (pv 2) (pa_cons (pv 3) (pa_cons (pv 4) (pa_nil))))))))) (pss_nil))
        (pss_cons (ps_if (pt_cmpR op_eq (pv 5) (pe_str) (nomark _)) (pss_one (ps_ret (pc c_law_turned hr (pa_cons (pv 0) (pa_cons (pv 1) (pa_cons (pv 2) (pa_cons (pv 3) (pa_cons (pv 4) (pa_nil))))))))) (pss_nil))
        (pss_cons (ps_if (pt_cmpR op_eq (pv 5) (pe_str) (nomark _)) (pss_one (ps_ret (pe_tup (pa_cons (pe_str) (pa_cons (pc c_law_value hr (pa_cons (pe_ix ix_tup (pv 1) (pe_int) (fun _ _ => rfl)) (pa_cons (pv 2) (pa_nil)))) (pa_nil)))))) (pss_nil))
        (pss_cons (ps_if (pt_cmpR op_eq (pv 5) (pe_str) (nomark _)) (pss_one (ps_ret (pe_tup (pa_cons (pe_str) (pa_cons (pe_ix ix_tup (pv 1) (pe_int) (fun _ _ => rfl)) (pa_cons (pc c_law_value hr (pa_cons (pe_ix ix_tup (pv 1) (pe_int) (fun _ _ => rfl)) (pa_cons (pv 2) (pa_nil)))) (pa_cons (pe_tup (pa_cons (pe_ix ix_tup (pv 1) (pe_int) (fun _ _ => rfl)) (pa_nil))) (pa_nil)))))))) (pss_nil))
        (pss_cons (ps_if (pt_cmpR op_eq (pv 5) (pe_str) (nomark _)) (pss_one (ps_ret (pe_ix ix_tup (pv 3) (pe_un un_neg (pe_int)) (fun _ _ => rfl)))) (pss_nil))
        (pss_cons (ps_if (pt_cmpR op_eq (pv 5) (pe_str) (nomark _)) (pss_one (ps_ret (pc c_law_calls hr (pa_cons (pv 0) (pa_cons (pv 1) (pa_cons (pv 2) (pa_cons (pv 4) (pa_nil)))))))) (pss_nil))
        (pss_cons (ps_if (pt_cmpR op_eq (pv 5) (pe_str) (nomark _)) (pss_one (ps_ret (pc c_law_tried hr (pa_cons (pv 0) (pa_cons (pv 1) (pa_cons (pv 2) (pa_cons (pv 3) (pa_cons (pv 4) (pa_nil))))))))) (pss_nil))
        (pss_cons (ps_if (pt_cmpR op_eq (pv 5) (pe_str) (nomark _)) (pss_one (ps_ret (pc c_law_cleaned hr (pa_cons (pv 0) (pa_cons (pv 1) (pa_cons (pv 2) (pa_cons (pv 3) (pa_cons (pv 4) (pa_nil))))))))) (pss_nil))
        (pss_one (ps_ret (pv 1))))))))))))))

abbrev s_law_walked : Stmt := topS 33
abbrev N_law_walked : List Str := ["_law_program_here", "_law_numbers_here", "_law_most", "_law_deep", "_law_run", "_law_end"]
theorem sc_law_walked : FnScope N_law_walked ["_law_program_here", "_law_numbers_here", "_law_most", "_law_deep"] (defScope s_law_walked) := ⟨rfl, rfl, rfl, by decide +kernel, rfl, by decide +kernel, by decide +kernel⟩
theorem ok_law_walked {sp_law_called : Sp} {f : Addr} {fd : FuncData} (D : FunD K "_law_walked" "_law_walked" (defArgs s_law_walked) (defBody s_law_walked) (defScope s_law_walked) [] [] f fd) (c_law_called : Cal P w K mg base k "_law_called" ["_law_run", "_law_number", "_law_numbers_here", "_law_depth"] sp_law_called) {sp : Sp}
    (len : ∀ vs H Q E, sp vs H Q E → vs.length = 4)
    (rd : ∀ vs H Q E, sp vs H Q E → t_law_walked K sp_law_called { nx := fun _ H' => Q .non H', rt := Q } (start N_law_walked vs) H) : FnOk P w K mg base CX0 (k + 1) f fd ["_law_program_here", "_law_numbers_here", "_law_most", "_law_deep"] sp := by
  refine D.ok sc_law_walked len (fun cdv A outer s H vs Q E hr h => ⟨t_law_walked K sp_law_called, PSs.nox ?_, rd vs H Q E h⟩)
  · unfold t_law_walked
    exact pss_cons (ps_set (i := 4) sc_law_walked.nd rfl (by first | exact Or.inl rfl | exact Or.inr rfl) (pe_lst (pa_cons (pv 0) (pa_cons (pv 2) (pa_cons (pv 3) (pa_cons (pe_lst (pa_nil)) (pa_nil)))))))
        (pss_cons (ps_set (i := 5) sc_law_walked.nd rfl (by first | exact Or.inl rfl | exact Or.inr rfl) (pc c_law_called hr (pa_cons (pv 4) (pa_cons (pe_int) (pa_cons (pv 1) (pa_cons (pe_int) (pa_nil)))))))
        (pss_one (ps_ret (pe_tup (pa_cons (pe_ix ix_list (pv 4) (pe_int) (fun _ _ => rfl)) (pa_cons (pv 5) (pa_nil)))))))

abbrev s_law_numbers : Stmt := topS 34
abbrev N_law_numbers : List Str := ["_law_box", "_law_many", "_law_k"]
theorem sc_law_numbers : FnScope N_law_numbers ["_law_box", "_law_many"] (defScope s_law_numbers) := ⟨rfl, rfl, rfl, by decide +kernel, rfl, by decide +kernel, by decide +kernel⟩
theorem ok_law_numbers {sp_law_take : Sp} {f : Addr} {fd : FuncData} (D : FunD K "_law_numbers" "_law_numbers" (defArgs s_law_numbers) (defBody s_law_numbers) (defScope s_law_numbers) [] [] f fd) (B_range : mg "range" = none) (c_law_take : Cal P w K mg base k "_law_take" ["_law_box", "_law_many"] sp_law_take) {sp : Sp}
    (len : ∀ vs H Q E, sp vs H Q E → vs.length = 2)
    (rd : ∀ vs H Q E, sp vs H Q E → t_law_numbers K sp_law_take { nx := fun _ H' => Q .non H', rt := Q } (start N_law_numbers vs) H) : FnOk P w K mg base CX0 (k + 1) f fd ["_law_box", "_law_many"] sp := by
  refine D.ok sc_law_numbers len (fun cdv A outer s H vs Q E hr h => ⟨t_law_numbers K sp_law_take, PSs.nox ?_, rd vs H Q E h⟩)
  · unfold t_law_numbers
    exact pss_one (ps_ret (pe_lc (own := [("_law_k", 2)]) (g := gName 2) rfl sc_law_numbers.nd (pi_range1 (by rfl) B_range (pa_cons (pv 1) (pa_nil))) (blkOk_by (own := [("_law_k", 2)]) (N := N_law_numbers) (sc := defScope s_law_numbers) (by decide +kernel)) (fun _ _ _ _ _ => pg_name (i := 2) sc_law_numbers.nd rfl (Or.inl rfl)) (fun _ _ _ _ _ => pts_nil) (fun _ _ _ _ _ => pc c_law_take hr (pa_cons (pv 0) (pa_cons (pe_int) (pa_nil))))))

abbrev s_law : Stmt := topS 35
abbrev N_law : List Str := ["_law_script", "_law_box", "_law_program_here", "_law_numbers_here", "_law_most", "_law_deep", "_law_due", "_law_handed", "_law_k"]
theorem sc_law : FnScope N_law ["_law_script"] (defScope s_law) := ⟨rfl, rfl, rfl, by decide +kernel, rfl, by decide +kernel, by decide +kernel⟩
theorem ok_law {sp_law_program : Sp} {sp_law_numbers : Sp} {sp_law_take : Sp} {sp_law_walked : Sp} {sp_law_alike : Sp} {sp_walked : Sp} {f : Addr} {fd : FuncData} (D : FunD K "law" "law" (defArgs s_law) (defBody s_law) (defScope s_law) [] [] f fd) (B_list : mg "list" = none) (c_law_program : Cal P w K mg base k "_law_program" ["_law_box"] sp_law_program) (c_law_numbers : Cal P w K mg base k "_law_numbers" ["_law_box", "_law_many"] sp_law_numbers) (c_law_take : Cal P w K mg base k "_law_take" ["_law_box", "_law_many"] sp_law_take) (c_law_walked : Cal P w K mg base k "_law_walked" ["_law_program_here", "_law_numbers_here", "_law_most", "_law_deep"] sp_law_walked) (B_range : mg "range" = none) (c_law_alike : Cal P w K mg base k "_law_alike" ["_law_found", "_law_due"] sp_law_alike) (c_walked : Cal P w K mg base k "walked" ["program", "numbers", "most", "deep"] sp_walked) {sp : Sp}
    (len : ∀ vs H Q E, sp vs H Q E → vs.length = 1)
    (rd : ∀ vs H Q E, sp vs H Q E → t_law K sp_law_program sp_law_numbers sp_law_take sp_law_walked sp_law_alike sp_walked { nx := fun _ H' => Q .non H', rt := Q } (start N_law vs) H) : FnOk P w K mg base CX0 (k + 1) f fd ["_law_script"] sp := by
  refine D.ok sc_law len (fun cdv A outer s H vs Q E hr h => ⟨t_law K sp_law_program sp_law_numbers sp_law_take sp_law_walked sp_law_alike sp_walked, PSs.nox ?_, rd vs H Q E h⟩)
  · unfold t_law
    exact pss_cons (ps_set (i := 1) sc_law.nd rfl (by first | exact Or.inl rfl | exact Or.inr rfl) (pe_callTy call_list_of (by rfl) B_list (by decide +kernel) (pa_cons (pv 0) (pa_nil))))
        (pss_cons (ps_set (i := 2) sc_law.nd rfl (by first | exact Or.inl rfl | exact Or.inr rfl) (pc c_law_program hr (pa_cons (pv 1) (pa_nil))))
        (pss_cons (ps_set (i := 3) sc_law.nd rfl (by first | exact Or.inl rfl | exact Or.inr rfl) (pc c_law_numbers hr (pa_cons (pv 1) (pa_cons (pe_ix ix_tup (pe_ix ix_tup (pe_ix ix_tup (pv 2) (pe_int) (fun _ _ => rfl)) (pe_int) (fun _ _ => rfl)) (pe_int) (fun _ _ => rfl)) (pa_nil)))))
        (pss_cons (ps_set (i := 4) sc_law.nd rfl (by first | exact Or.inl rfl | exact Or.inr rfl) (pe_op op_add (pe_int) (pc c_law_take hr (pa_cons (pv 1) (pa_cons (pe_int) (pa_nil))))))
        (pss_cons (ps_set (i := 5) sc_law.nd rfl (by first | exact Or.inl rfl | exact Or.inr rfl) (pe_op op_add (pe_int) (pc c_law_take hr (pa_cons (pv 1) (pa_cons (pe_int) (pa_nil))))))
        (pss_cons (ps_set (i := 6) sc_law.nd rfl (by first | exact Or.inl rfl | exact Or.inr rfl) (pc c_law_walked hr (pa_cons (pv 2) (pa_cons (pv 3) (pa_cons (pv 4) (pa_cons (pv 5) (pa_nil)))))))
        (pss_cons (ps_set (i := 7) sc_law.nd rfl (by first | exact Or.inl rfl | exact Or.inr rfl) (pe_callTy call_list_of (by rfl) B_list (by decide +kernel) (pa_cons (pv 3) (pa_nil))))
        (pss_cons (ps_for PassesOwn.never rfl (pi_range1 (by rfl) B_range (pa_cons (pe_int) (pa_nil))) (pg_name (i := 8) sc_law.nd rfl (by first | exact Or.inl rfl | exact Or.inr rfl)) (pss_one (ps_if (PW.pt (pw_or (pt_not (pt_val (pc c_law_alike hr (pa_cons (pc c_walked hr (pa_cons (pv 2) (pa_cons (pv 7) (pa_cons (pv 4) (pa_cons (pv 5) (pa_nil)))))) (pa_cons (pv 6) (pa_nil)))))) (pw_or1 (pt_cmpR (op_neD hr.units) (pv 7) (pv 3) (nomark _))))) (pss_one (ps_ret (pe_bl))) (pss_nil))))
        (pss_one (ps_ret (pe_bl))))))))))

end
def d_under : He.DefD := ⟨("under", none), "under", "under", defArgs s_under, defBody s_under, defScope s_under, [], []⟩
def d_meets : He.DefD := ⟨("meets", none), "meets", "meets", defArgs s_meets, defBody s_meets, defScope s_meets, [], []⟩
def d_joined : He.DefD := ⟨("joined", none), "joined", "joined", defArgs s_joined, defBody s_joined, defScope s_joined, [], []⟩
def d_value_of : He.DefD := ⟨("value_of", none), "value_of", "value_of", defArgs s_value_of, defBody s_value_of, defScope s_value_of, [], []⟩
def d_slots_for : He.DefD := ⟨("slots_for", none), "slots_for", "slots_for", defArgs s_slots_for, defBody s_slots_for, defScope s_slots_for, [], []⟩
def d_Walker_init : He.DefD := ⟨("Walker", some "__init__"), "__init__", "Walker.__init__", defArgs s_Walker_init, defBody s_Walker_init, defScope s_Walker_init, [], []⟩
def d_Walker_counted : He.DefD := ⟨("Walker", some "counted"), "counted", "Walker.counted", defArgs s_Walker_counted, defBody s_Walker_counted, defScope s_Walker_counted, [], []⟩
def d_Walker_row : He.DefD := ⟨("Walker", some "row"), "row", "Walker.row", defArgs s_Walker_row, defBody s_Walker_row, defScope s_Walker_row, [], []⟩
def d_Walker_looped : He.DefD := ⟨("Walker", some "looped"), "looped", "Walker.looped", defArgs s_Walker_looped, defBody s_Walker_looped, defScope s_Walker_looped, [], []⟩
def d_Walker_called : He.DefD := ⟨("Walker", some "called"), "called", "Walker.called", defArgs s_Walker_called, defBody s_Walker_called, defScope s_Walker_called, [], []⟩
def d_Walker_call : He.DefD := ⟨("Walker", some "call"), "call", "Walker.call", defArgs s_Walker_call, defBody s_Walker_call, defScope s_Walker_call, [], []⟩
def d_Walker_tried : He.DefD := ⟨("Walker", some "tried"), "tried", "Walker.tried", defArgs s_Walker_tried, defBody s_Walker_tried, defScope s_Walker_tried, [], []⟩
def d_Walker_cleaned : He.DefD := ⟨("Walker", some "cleaned"), "cleaned", "Walker.cleaned", defArgs s_Walker_cleaned, defBody s_Walker_cleaned, defScope s_Walker_cleaned, [], []⟩
def d_Walker_does : He.DefD := ⟨("Walker", some "does"), "does", "Walker.does", defArgs s_Walker_does, defBody s_Walker_does, defScope s_Walker_does, [], []⟩
def d_walked : He.DefD := ⟨("walked", none), "walked", "walked", defArgs s_walked, defBody s_walked, defScope s_walked, [], []⟩
def d_law_take : He.DefD := ⟨("_law_take", none), "_law_take", "_law_take", defArgs s_law_take, defBody s_law_take, defScope s_law_take, [], []⟩
def d_law_alike : He.DefD := ⟨("_law_alike", none), "_law_alike", "_law_alike", defArgs s_law_alike, defBody s_law_alike, defScope s_law_alike, [], []⟩
def d_law_part : He.DefD := ⟨("_law_part", none), "_law_part", "_law_part", defArgs s_law_part, defBody s_law_part, defScope s_law_part, [], []⟩
def d_law_value : He.DefD := ⟨("_law_value", none), "_law_value", "_law_value", defArgs s_law_value, defBody s_law_value, defScope s_law_value, [], []⟩
def d_law_kinds : He.DefD := ⟨("_law_kinds", none), "_law_kinds", "_law_kinds", defArgs s_law_kinds, defBody s_law_kinds, defScope s_law_kinds, [], []⟩
def d_law_above : He.DefD := ⟨("_law_above", none), "_law_above", "_law_above", defArgs s_law_above, defBody s_law_above, defScope s_law_above, [], []⟩
def d_law_call : He.DefD := ⟨("_law_call", none), "_law_call", "_law_call", defArgs s_law_call, defBody s_law_call, defScope s_law_call, [], []⟩
def d_law_simple : He.DefD := ⟨("_law_simple", none), "_law_simple", "_law_simple", defArgs s_law_simple, defBody s_law_simple, defScope s_law_simple, [], []⟩
def d_law_handler : He.DefD := ⟨("_law_handler", none), "_law_handler", "_law_handler", defArgs s_law_handler, defBody s_law_handler, defScope s_law_handler, [], []⟩
def d_law_statement : He.DefD := ⟨("_law_statement", none), "_law_statement", "_law_statement", defArgs s_law_statement, defBody s_law_statement, defScope s_law_statement, [], []⟩
def d_law_program : He.DefD := ⟨("_law_program", none), "_law_program", "_law_program", defArgs s_law_program, defBody s_law_program, defScope s_law_program, [], []⟩
def d_law_met : He.DefD := ⟨("_law_met", none), "_law_met", "_law_met", defArgs s_law_met, defBody s_law_met, defScope s_law_met, [], []⟩
def d_law_counted : He.DefD := ⟨("_law_counted", none), "_law_counted", "_law_counted", defArgs s_law_counted, defBody s_law_counted, defScope s_law_counted, [], []⟩
def d_law_rowed : He.DefD := ⟨("_law_rowed", none), "_law_rowed", "_law_rowed", defArgs s_law_rowed, defBody s_law_rowed, defScope s_law_rowed, [], []⟩
def d_law_turned : He.DefD := ⟨("_law_turned", none), "_law_turned", "_law_turned", defArgs s_law_turned, defBody s_law_turned, defScope s_law_turned, [], []⟩
def d_law_called : He.DefD := ⟨("_law_called", none), "_law_called", "_law_called", defArgs s_law_called, defBody s_law_called, defScope s_law_called, [], []⟩
def d_law_calls : He.DefD := ⟨("_law_calls", none), "_law_calls", "_law_calls", defArgs s_law_calls, defBody s_law_calls, defScope s_law_calls, [], []⟩
def d_law_tried : He.DefD := ⟨("_law_tried", none), "_law_tried", "_law_tried", defArgs s_law_tried, defBody s_law_tried, defScope s_law_tried, [], []⟩
def d_law_cleaned : He.DefD := ⟨("_law_cleaned", none), "_law_cleaned", "_law_cleaned", defArgs s_law_cleaned, defBody s_law_cleaned, defScope s_law_cleaned, [], []⟩
def d_law_does : He.DefD := ⟨("_law_does", none), "_law_does", "_law_does", defArgs s_law_does, defBody s_law_does, defScope s_law_does, [], []⟩
def d_law_walked : He.DefD := ⟨("_law_walked", none), "_law_walked", "_law_walked", defArgs s_law_walked, defBody s_law_walked, defScope s_law_walked, [], []⟩
def d_law_numbers : He.DefD := ⟨("_law_numbers", none), "_law_numbers", "_law_numbers", defArgs s_law_numbers, defBody s_law_numbers, defScope s_law_numbers, [], []⟩
def d_law : He.DefD := ⟨("law", none), "law", "law", defArgs s_law, defBody s_law, defScope s_law, [], []⟩
def fn : List He.DefD := [d_under, d_meets, d_joined, d_value_of, d_slots_for, d_Walker_init, d_Walker_counted, d_Walker_row, d_Walker_looped, d_Walker_called, d_Walker_call, d_Walker_tried, d_Walker_cleaned, d_Walker_does, d_walked, d_law_take, d_law_alike, d_law_part, d_law_value, d_law_kinds, d_law_above, d_law_call, d_law_simple, d_law_handler, d_law_statement, d_law_program, d_law_met, d_law_counted, d_law_rowed, d_law_turned, d_law_called, d_law_calls, d_law_tried, d_law_cleaned, d_law_does, d_law_walked, d_law_numbers, d_law]
def fa : List He.Fa := [.glo "under", .glo "meets", .glo "joined", .glo "value_of", .glo "slots_for", .glo "Walker", .cls "Walker", .mkr "Walker", .meth "Walker" "counted", .meth "Walker" "row", .meth "Walker" "looped", .meth "Walker" "called", .meth "Walker" "call", .meth "Walker" "tried", .meth "Walker" "cleaned", .meth "Walker" "does", .glo "walked", .glo "_law_take", .glo "_law_alike", .glo "_law_part", .glo "_law_value", .glo "_law_kinds", .glo "_law_above", .glo "_law_call", .glo "_law_simple", .glo "_law_handler", .glo "_law_statement", .glo "_law_program", .glo "_law_met", .glo "_law_counted", .glo "_law_rowed", .glo "_law_turned", .glo "_law_called", .glo "_law_calls", .glo "_law_tried", .glo "_law_cleaned", .glo "_law_does", .glo "_law_walked", .glo "_law_numbers", .glo "law", .int "MODULE" 10007, .free "int", .free "list", .free "range", .int "SLOTS" 8, .free "len", .glo "ON", .free "isinstance", .free "bool", .free "str", .free "tuple", .noat "Walker" "kinds", .noat "Walker" "functions", .noat "Walker" "left", .noat "Walker" "deep", .noat "Walker" "told"]
abbrev loose : List PySem.Str := ["MODULE", "SLOTS", "under", "meets", "joined", "value_of", "slots_for", "ON", "Walker", "walked", "_law_take", "_law_alike", "_law_part", "_law_value", "_law_kinds", "_law_above", "_law_call", "_law_simple", "_law_handler", "_law_statement", "_law_program", "_law_met", "_law_counted", "_law_called", "_law_calls", "_law_turned", "_law_tried", "_law_cleaned", "_law_rowed", "_law_does", "_law_walked", "_law_numbers"]
abbrev R : PySem.W.OpenRow := PySem.W.OpenLaw.row PySem.Challenge.rw_leaps_k11_whole_walked
def tb : List (PySem.Str × List He.Dv) := [("ON", [.str "on"])]
abbrev AlX : Type := He.AlD × Bool
def obsX (K : PySem.W.Frag) : AlX := (He.obsD fa fn K, tb.all fun t => He.tupB K t.1 t.2)
def valX : AlX := (He.valD fn, true)
def obsXG (n : Nat) (g : Addr → Option Obj) : AlX := obsX (He.frG g (He.asD g n))
def SaysX (K : PySem.W.Frag) : Prop := obsX K = valX
def hookX (n : Nat) : PySem.W.Hook where
  α := AlX
  obs := fun s => obsXG n s.heap.get?
  val := fun _ => valX
  says := fun _ h => ∃ K : PySem.W.Frag, K.In h ∧ SaysX K
  of := fun _ _ e => ⟨_, He.frG_in, e⟩
  keeps := fun _ _ _ ⟨K, hK, c⟩ k => ⟨K, PySem.W.Frag.In.keeps hK k, c⟩
theorem obsXG_eq {n : Nat} {g : Addr → Option Obj} {s : Shared} (h : ∀ a, g a = s.heap.get? a) : obsXG n g = (hookX n).obs s := by
  have e : g = s.heap.get? := funext h
  rw [e] <;> rfl
abbrev hk : PySem.W.Hook := hookX 7
def ob (s : PySem.W.SharedT) : AlX := obsXG 7 (HandSHeadRun.getT s)
theorem ob_eq (s : PySem.W.SharedT) : ob s = hk.obs s.abs := obsXG_eq (HandSHeadRun.getT_eq s)
set_option maxHeartbeats 0 in
theorem run (w : World) : HandSHeadRun.RunEq R (PySem.W.view R.prog [35]) hk ob 1500 loose w := by
  intro os
  kernel_rfl
theorem facts {w : World} {K : PySem.W.Frag} {h : Heap} {mg : Str → Option Value} {f : Addr} (X : K.In h) (G : h.Ns mainGlobals mg) (hfa : mg ("law" : Str) = some (.ref f)) (cx : SaysX K) :
    ∃ fd : FuncData, (∀ (s : Shared) (v : Value), BindsTo s fd ⟨[v], []⟩ [("_law_script", v)]) ∧ ∀ base : Heap, K.In base → base.Ns mainGlobals mg → FnOk PySem.Challenge.pw_leaps_k11_whole_walked w K mg base CX0 133 f fd ["_law_script"] (spLaw K) := by
  have c : He.SaysD fa fn K := congrArg (fun z : AlX => z.1) cx
  have ctb : (tb.all fun t => He.tupB K t.1 t.2) = true := congrArg (fun z : AlX => z.2) cx
  have T_ON : ∀ H, SqT K H (He.ga K "ON") [.str "on"] := fun H => He.tupB_ok (x := "ON") (vs := [.str "on"]) (List.all_eq_true.mp ctb ("ON", [.str "on"]) (List.mem_of_getElem? (i := 0) rfl)) H
  obtain ⟨fd_under, D_under⟩ := c.def_ 0 (d := d_under) rfl
  obtain ⟨fd_meets, D_meets⟩ := c.def_ 1 (d := d_meets) rfl
  obtain ⟨fd_joined, D_joined⟩ := c.def_ 2 (d := d_joined) rfl
  obtain ⟨fd_value_of, D_value_of⟩ := c.def_ 3 (d := d_value_of) rfl
  obtain ⟨fd_slots_for, D_slots_for⟩ := c.def_ 4 (d := d_slots_for) rfl
  obtain ⟨fd_Walker_init, D_Walker_init⟩ := c.def_ 5 (d := d_Walker_init) rfl
  obtain ⟨fd_Walker_counted, D_Walker_counted⟩ := c.def_ 6 (d := d_Walker_counted) rfl
  obtain ⟨fd_Walker_row, D_Walker_row⟩ := c.def_ 7 (d := d_Walker_row) rfl
  obtain ⟨fd_Walker_looped, D_Walker_looped⟩ := c.def_ 8 (d := d_Walker_looped) rfl
  obtain ⟨fd_Walker_called, D_Walker_called⟩ := c.def_ 9 (d := d_Walker_called) rfl
  obtain ⟨fd_Walker_call, D_Walker_call⟩ := c.def_ 10 (d := d_Walker_call) rfl
  obtain ⟨fd_Walker_tried, D_Walker_tried⟩ := c.def_ 11 (d := d_Walker_tried) rfl
  obtain ⟨fd_Walker_cleaned, D_Walker_cleaned⟩ := c.def_ 12 (d := d_Walker_cleaned) rfl
  obtain ⟨fd_Walker_does, D_Walker_does⟩ := c.def_ 13 (d := d_Walker_does) rfl
  obtain ⟨fd_walked, D_walked⟩ := c.def_ 14 (d := d_walked) rfl
  obtain ⟨fd_law_take, D_law_take⟩ := c.def_ 15 (d := d_law_take) rfl
  obtain ⟨fd_law_alike, D_law_alike⟩ := c.def_ 16 (d := d_law_alike) rfl
  obtain ⟨fd_law_part, D_law_part⟩ := c.def_ 17 (d := d_law_part) rfl
  obtain ⟨fd_law_value, D_law_value⟩ := c.def_ 18 (d := d_law_value) rfl
  obtain ⟨fd_law_kinds, D_law_kinds⟩ := c.def_ 19 (d := d_law_kinds) rfl
  obtain ⟨fd_law_above, D_law_above⟩ := c.def_ 20 (d := d_law_above) rfl
  obtain ⟨fd_law_call, D_law_call⟩ := c.def_ 21 (d := d_law_call) rfl
  obtain ⟨fd_law_simple, D_law_simple⟩ := c.def_ 22 (d := d_law_simple) rfl
  obtain ⟨fd_law_handler, D_law_handler⟩ := c.def_ 23 (d := d_law_handler) rfl
  obtain ⟨fd_law_statement, D_law_statement⟩ := c.def_ 24 (d := d_law_statement) rfl
  obtain ⟨fd_law_program, D_law_program⟩ := c.def_ 25 (d := d_law_program) rfl
  obtain ⟨fd_law_met, D_law_met⟩ := c.def_ 26 (d := d_law_met) rfl
  obtain ⟨fd_law_counted, D_law_counted⟩ := c.def_ 27 (d := d_law_counted) rfl
  obtain ⟨fd_law_rowed, D_law_rowed⟩ := c.def_ 28 (d := d_law_rowed) rfl
  obtain ⟨fd_law_turned, D_law_turned⟩ := c.def_ 29 (d := d_law_turned) rfl
  obtain ⟨fd_law_called, D_law_called⟩ := c.def_ 30 (d := d_law_called) rfl
  obtain ⟨fd_law_calls, D_law_calls⟩ := c.def_ 31 (d := d_law_calls) rfl
  obtain ⟨fd_law_tried, D_law_tried⟩ := c.def_ 32 (d := d_law_tried) rfl
  obtain ⟨fd_law_cleaned, D_law_cleaned⟩ := c.def_ 33 (d := d_law_cleaned) rfl
  obtain ⟨fd_law_does, D_law_does⟩ := c.def_ 34 (d := d_law_does) rfl
  obtain ⟨fd_law_walked, D_law_walked⟩ := c.def_ 35 (d := d_law_walked) rfl
  obtain ⟨fd_law_numbers, D_law_numbers⟩ := c.def_ 36 (d := d_law_numbers) rfl
  obtain ⟨fd_law, D_law⟩ := c.def_ 37 (d := d_law) rfl
  have G_under := He.glo_ok X G (c.fact 0 (f := .glo "under") rfl)
  have G_meets := He.glo_ok X G (c.fact 1 (f := .glo "meets") rfl)
  have G_joined := He.glo_ok X G (c.fact 2 (f := .glo "joined") rfl)
  have G_value_of := He.glo_ok X G (c.fact 3 (f := .glo "value_of") rfl)
  have G_slots_for := He.glo_ok X G (c.fact 4 (f := .glo "slots_for") rfl)
  have G_Walker := He.glo_ok X G (c.fact 5 (f := .glo "Walker") rfl)
  have Cl_Walker := He.cls_ok (c.fact 6 (f := .cls "Walker") rfl)
  have Mk_Walker := He.mkr_ok (c.fact 7 (f := .mkr "Walker") rfl)
  have Me_Walker_counted := He.meth_ok (c.fact 8 (f := .meth "Walker" "counted") rfl)
  have Me_Walker_row := He.meth_ok (c.fact 9 (f := .meth "Walker" "row") rfl)
  have Me_Walker_looped := He.meth_ok (c.fact 10 (f := .meth "Walker" "looped") rfl)
  have Me_Walker_called := He.meth_ok (c.fact 11 (f := .meth "Walker" "called") rfl)
  have Me_Walker_call := He.meth_ok (c.fact 12 (f := .meth "Walker" "call") rfl)
  have Me_Walker_tried := He.meth_ok (c.fact 13 (f := .meth "Walker" "tried") rfl)
  have Me_Walker_cleaned := He.meth_ok (c.fact 14 (f := .meth "Walker" "cleaned") rfl)
  have Me_Walker_does := He.meth_ok (c.fact 15 (f := .meth "Walker" "does") rfl)
  have G_walked := He.glo_ok X G (c.fact 16 (f := .glo "walked") rfl)
  have G__law_take := He.glo_ok X G (c.fact 17 (f := .glo "_law_take") rfl)
  have G__law_alike := He.glo_ok X G (c.fact 18 (f := .glo "_law_alike") rfl)
  have G__law_part := He.glo_ok X G (c.fact 19 (f := .glo "_law_part") rfl)
  have G__law_value := He.glo_ok X G (c.fact 20 (f := .glo "_law_value") rfl)
  have G__law_kinds := He.glo_ok X G (c.fact 21 (f := .glo "_law_kinds") rfl)
  have G__law_above := He.glo_ok X G (c.fact 22 (f := .glo "_law_above") rfl)
  have G__law_call := He.glo_ok X G (c.fact 23 (f := .glo "_law_call") rfl)
  have G__law_simple := He.glo_ok X G (c.fact 24 (f := .glo "_law_simple") rfl)
  have G__law_handler := He.glo_ok X G (c.fact 25 (f := .glo "_law_handler") rfl)
  have G__law_statement := He.glo_ok X G (c.fact 26 (f := .glo "_law_statement") rfl)
  have G__law_program := He.glo_ok X G (c.fact 27 (f := .glo "_law_program") rfl)
  have G__law_met := He.glo_ok X G (c.fact 28 (f := .glo "_law_met") rfl)
  have G__law_counted := He.glo_ok X G (c.fact 29 (f := .glo "_law_counted") rfl)
  have G__law_rowed := He.glo_ok X G (c.fact 30 (f := .glo "_law_rowed") rfl)
  have G__law_turned := He.glo_ok X G (c.fact 31 (f := .glo "_law_turned") rfl)
  have G__law_called := He.glo_ok X G (c.fact 32 (f := .glo "_law_called") rfl)
  have G__law_calls := He.glo_ok X G (c.fact 33 (f := .glo "_law_calls") rfl)
  have G__law_tried := He.glo_ok X G (c.fact 34 (f := .glo "_law_tried") rfl)
  have G__law_cleaned := He.glo_ok X G (c.fact 35 (f := .glo "_law_cleaned") rfl)
  have G__law_does := He.glo_ok X G (c.fact 36 (f := .glo "_law_does") rfl)
  have G__law_walked := He.glo_ok X G (c.fact 37 (f := .glo "_law_walked") rfl)
  have G__law_numbers := He.glo_ok X G (c.fact 38 (f := .glo "_law_numbers") rfl)
  have G_law := He.glo_ok X G (c.fact 39 (f := .glo "law") rfl)
  have Gc_MODULE := He.int_ok X G (c.fact 40 (f := .int "MODULE" 10007) rfl)
  have B_int := He.free_ok X G (c.fact 41 (f := .free "int") rfl)
  have B_list := He.free_ok X G (c.fact 42 (f := .free "list") rfl)
  have B_range := He.free_ok X G (c.fact 43 (f := .free "range") rfl)
  have Gc_SLOTS := He.int_ok X G (c.fact 44 (f := .int "SLOTS" 8) rfl)
  have B_len := He.free_ok X G (c.fact 45 (f := .free "len") rfl)
  have G_ON := He.glo_ok X G (c.fact 46 (f := .glo "ON") rfl)
  have B_isinstance := He.free_ok X G (c.fact 47 (f := .free "isinstance") rfl)
  have B_bool := He.free_ok X G (c.fact 48 (f := .free "bool") rfl)
  have B_str := He.free_ok X G (c.fact 49 (f := .free "str") rfl)
  have B_tuple := He.free_ok X G (c.fact 50 (f := .free "tuple") rfl)
  have Na_Walker_kinds := He.noat_ok (c.fact 51 (f := .noat "Walker" "kinds") rfl)
  have Na_Walker_functions := He.noat_ok (c.fact 52 (f := .noat "Walker" "functions") rfl)
  have Na_Walker_left := He.noat_ok (c.fact 53 (f := .noat "Walker" "left") rfl)
  have Na_Walker_deep := He.noat_ok (c.fact 54 (f := .noat "Walker" "deep") rfl)
  have Na_Walker_told := He.noat_ok (c.fact 55 (f := .noat "Walker" "told") rfl)
  have eLaw := hfa.symm.trans G_law
  cases eLaw
  have b_under := FunD.bindsN (ps := ["kinds", "kind", "other"]) D_under fun _ _ _ _ _ _ us hl => match us, hl with | [_, _, _], _ => rfl
  have b_meets := FunD.bindsN (ps := ["kinds", "wanted", "kind"]) D_meets fun _ _ _ _ _ _ us hl => match us, hl with | [_, _, _], _ => rfl
  have b_joined := FunD.bindsN (ps := ["word", "one", "two"]) D_joined fun _ _ _ _ _ _ us hl => match us, hl with | [_, _, _], _ => rfl
  have b_value_of := FunD.bindsN (ps := ["part", "slots"]) D_value_of fun _ _ _ _ _ _ us hl => match us, hl with | [_, _], _ => rfl
  have b_slots_for := FunD.bindsN (ps := ["numbers"]) D_slots_for fun _ _ _ _ _ _ us hl => match us, hl with | [_], _ => rfl
  have b_Walker_init := FunD.bindsN (ps := ["self", "program", "most", "deep"]) D_Walker_init fun _ _ _ _ _ _ us hl => match us, hl with | [_, _, _, _], _ => rfl
  have b_Walker_counted := FunD.bindsN (ps := ["self"]) D_Walker_counted fun _ _ _ _ _ _ us hl => match us, hl with | [_], _ => rfl
  have b_Walker_row := FunD.bindsN (ps := ["self", "parts", "slots", "met", "depth"]) D_Walker_row fun _ _ _ _ _ _ us hl => match us, hl with | [_, _, _, _, _], _ => rfl
  have b_Walker_looped := FunD.bindsN (ps := ["self", "one", "slots", "met", "depth"]) D_Walker_looped fun _ _ _ _ _ _ us hl => match us, hl with | [_, _, _, _, _], _ => rfl
  have b_Walker_called := FunD.bindsN (ps := ["self", "number", "numbers", "depth"]) D_Walker_called fun _ _ _ _ _ _ us hl => match us, hl with | [_, _, _, _], _ => rfl
  have b_Walker_call := FunD.bindsN (ps := ["self", "one", "slots", "depth"]) D_Walker_call fun _ _ _ _ _ _ us hl => match us, hl with | [_, _, _, _], _ => rfl
  have b_Walker_tried := FunD.bindsN (ps := ["self", "one", "slots", "met", "depth"]) D_Walker_tried fun _ _ _ _ _ _ us hl => match us, hl with | [_, _, _, _, _], _ => rfl
  have b_Walker_cleaned := FunD.bindsN (ps := ["self", "one", "slots", "met", "depth"]) D_Walker_cleaned fun _ _ _ _ _ _ us hl => match us, hl with | [_, _, _, _, _], _ => rfl
  have b_Walker_does := FunD.bindsN (ps := ["self", "one", "slots", "met", "depth"]) D_Walker_does fun _ _ _ _ _ _ us hl => match us, hl with | [_, _, _, _, _], _ => rfl
  have b_walked := FunD.bindsN (ps := ["program", "numbers", "most", "deep"]) D_walked fun _ _ _ _ _ _ us hl => match us, hl with | [_, _, _, _], _ => rfl
  have b_law_take := FunD.bindsN (ps := ["_law_box", "_law_many"]) D_law_take fun _ _ _ _ _ _ us hl => match us, hl with | [_, _], _ => rfl
  have b_law_alike := FunD.bindsN (ps := ["_law_found", "_law_due"]) D_law_alike fun _ _ _ _ _ _ us hl => match us, hl with | [_, _], _ => rfl
  have b_law_part := FunD.bindsN (ps := ["_law_box", "_law_deep"]) D_law_part fun _ _ _ _ _ _ us hl => match us, hl with | [_, _], _ => rfl
  have b_law_value := FunD.bindsN (ps := ["_law_part_here", "_law_slots"]) D_law_value fun _ _ _ _ _ _ us hl => match us, hl with | [_, _], _ => rfl
  have b_law_kinds := FunD.bindsN (ps := ["_law_box", "_law_most"]) D_law_kinds fun _ _ _ _ _ _ us hl => match us, hl with | [_, _], _ => rfl
  have b_law_above := FunD.bindsN (ps := ["_law_kinds_here", "_law_kind"]) D_law_above fun _ _ _ _ _ _ us hl => match us, hl with | [_, _], _ => rfl
  have b_law_call := FunD.bindsN (ps := ["_law_box", "_law_shape"]) D_law_call fun _ _ _ _ _ _ us hl => match us, hl with | [_, _], _ => rfl
  have b_law_simple := FunD.bindsN (ps := ["_law_box", "_law_shape", "_law_turn", "_law_handler_here"]) D_law_simple fun _ _ _ _ _ _ us hl => match us, hl with | [_, _, _, _], _ => rfl
  have b_law_handler := FunD.bindsN (ps := ["_law_box", "_law_shape", "_law_deep", "_law_turn"]) D_law_handler fun _ _ _ _ _ _ us hl => match us, hl with | [_, _, _, _], _ => rfl
  have b_law_statement := FunD.bindsN (ps := ["_law_box", "_law_shape", "_law_deep", "_law_turn", "_law_handler_here"]) D_law_statement fun _ _ _ _ _ _ us hl => match us, hl with | [_, _, _, _, _], _ => rfl
  have b_law_program := FunD.bindsN (ps := ["_law_box"]) D_law_program fun _ _ _ _ _ _ us hl => match us, hl with | [_], _ => rfl
  have b_law_met := FunD.bindsN (ps := ["_law_kinds_here", "_law_wanted", "_law_kind"]) D_law_met fun _ _ _ _ _ _ us hl => match us, hl with | [_, _, _], _ => rfl
  have b_law_counted := FunD.bindsN (ps := ["_law_run"]) D_law_counted fun _ _ _ _ _ _ us hl => match us, hl with | [_], _ => rfl
  have b_law_rowed := FunD.bindsN (ps := ["_law_run", "_law_parts", "_law_slots", "_law_met_here", "_law_depth"]) D_law_rowed fun _ _ _ _ _ _ us hl => match us, hl with | [_, _, _, _, _], _ => rfl
  have b_law_turned := FunD.bindsN (ps := ["_law_run", "_law_one", "_law_slots", "_law_met_here", "_law_depth"]) D_law_turned fun _ _ _ _ _ _ us hl => match us, hl with | [_, _, _, _, _], _ => rfl
  have b_law_called := FunD.bindsN (ps := ["_law_run", "_law_number", "_law_numbers_here", "_law_depth"]) D_law_called fun _ _ _ _ _ _ us hl => match us, hl with | [_, _, _, _], _ => rfl
  have b_law_calls := FunD.bindsN (ps := ["_law_run", "_law_one", "_law_slots", "_law_depth"]) D_law_calls fun _ _ _ _ _ _ us hl => match us, hl with | [_, _, _, _], _ => rfl
  have b_law_tried := FunD.bindsN (ps := ["_law_run", "_law_one", "_law_slots", "_law_met_here", "_law_depth"]) D_law_tried fun _ _ _ _ _ _ us hl => match us, hl with | [_, _, _, _, _], _ => rfl
  have b_law_cleaned := FunD.bindsN (ps := ["_law_run", "_law_one", "_law_slots", "_law_met_here", "_law_depth"]) D_law_cleaned fun _ _ _ _ _ _ us hl => match us, hl with | [_, _, _, _, _], _ => rfl
  have b_law_does := FunD.bindsN (ps := ["_law_run", "_law_one", "_law_slots", "_law_met_here", "_law_depth"]) D_law_does fun _ _ _ _ _ _ us hl => match us, hl with | [_, _, _, _, _], _ => rfl
  have b_law_walked := FunD.bindsN (ps := ["_law_program_here", "_law_numbers_here", "_law_most", "_law_deep"]) D_law_walked fun _ _ _ _ _ _ us hl => match us, hl with | [_, _, _, _], _ => rfl
  have b_law_numbers := FunD.bindsN (ps := ["_law_box", "_law_many"]) D_law_numbers fun _ _ _ _ _ _ us hl => match us, hl with | [_, _], _ => rfl
  have b_law := FunD.bindsA (ps := ["_law_script"]) D_law fun _ _ _ _ _ _ us hl => match us, hl with | [_], _ => rfl
  refine ⟨fd_law, fun s v => b_law s [v] rfl, fun base _ _ => ?_⟩
  have c_under : Cal PySem.Challenge.pw_leaps_k11_whole_walked w K mg base 1 "under" ["kinds", "kind", "other"] (spUnder K) := ⟨_, _, ok_under (k := 0) D_under  (fun vs H Q E h => by obtain ⟨_, _, _, _, rfl, _⟩ := h; rfl) rd_under, b_under, D_under.kp, G_under⟩
  have c_meets : Cal PySem.Challenge.pw_leaps_k11_whole_walked w K mg base 2 "meets" ["kinds", "wanted", "kind"] (spMeets K) := ⟨_, _, ok_meets (k := 1) D_meets (c_under.mono (by decide)) (fun vs H Q E h => by obtain ⟨_, _, _, _, rfl, _⟩ := h; rfl) rd_meets, b_meets, D_meets.kp, G_meets⟩
  have c_joined : Cal PySem.Challenge.pw_leaps_k11_whole_walked w K mg base 1 "joined" ["word", "one", "two"] spJoined := ⟨_, _, ok_joined (k := 0) D_joined Gc_MODULE B_int (fun vs H Q E h => by obtain ⟨_, _, _, rfl, _⟩ := h; rfl) rd_joined, b_joined, D_joined.kp, G_joined⟩
  have r_value_of : ∀ n, Cal PySem.Challenge.pw_leaps_k11_whole_walked w K mg base (1 + 1 * n) "value_of" ["part", "slots"] (spVal K n) := by
    intro n
    induction n with
    | zero => exact ⟨_, _, FnOk.zero spVal_zero, b_value_of, D_value_of.kp, G_value_of⟩
    | succ n c_value_of =>
      have z : Cal PySem.Challenge.pw_leaps_k11_whole_walked w K mg base (1 + 1 * n + 0 + 1) "value_of" ["part", "slots"] (spVal K (n + 1)) := ⟨_, _, ok_value_of (k := 1 + 1 * n + 0) D_value_of (c_joined.mono (by omega)) (c_value_of.mono (by omega)) (fun vs H Q E h => by obtain ⟨_, _, _, _, rfl, _⟩ := h; rfl) rd_value_of, b_value_of, D_value_of.kp, G_value_of⟩
      exact z.mono (by omega)
  have c_value_of : Cal PySem.Challenge.pw_leaps_k11_whole_walked w K mg base (6) "value_of" ["part", "slots"] (spVal K 5) := r_value_of 5
  have c_slots_for : Cal PySem.Challenge.pw_leaps_k11_whole_walked w K mg base 1 "slots_for" ["numbers"] (spSlots K) := ⟨_, _, ok_slots_for (k := 0) D_slots_for B_list B_range Gc_SLOTS B_len (fun vs H Q E h => by obtain ⟨_, _, rfl, _⟩ := h; rfl) rd_slots_for, b_slots_for, D_slots_for.kp, G_slots_for⟩
  have TT : WkTxt K (He.ga K "Walker") (He.ga K "ON") := ⟨Cl_Walker, Na_Walker_kinds, Na_Walker_functions, Na_Walker_left, Na_Walker_deep, Na_Walker_told, fun H => .tup (T_ON H) (.cons (.str _) .nil)⟩
  have c_Walker_init : CalC PySem.Challenge.pw_leaps_k11_whole_walked w K mg base 1 "Walker" (He.ga K "Walker") ["self", "program", "most", "deep"] (spWkInit K (He.ga K "Walker")) := ⟨_, _, ok_Walker_init (k := 0) D_Walker_init  (fun vs H Q E h => by obtain ⟨_, _, _, _, _, _, rfl, _⟩ := h; rfl) (rd_wk_init TT), b_Walker_init, Mk_Walker, G_Walker⟩
  have c_Walker_counted : CalM PySem.Challenge.pw_leaps_k11_whole_walked w K mg base 1 (He.ga K "Walker") "counted" ["self"] (spCountW K (He.ga K "Walker")) := ⟨_, _, ok_Walker_counted (k := 0) D_Walker_counted  (fun vs H Q E h => by obtain ⟨_, _, _, _, _, _, _, rfl, _⟩ := h; rfl) (rd_counted TT), b_Walker_counted, Cl_Walker, Me_Walker_counted⟩
  have r_Walker_does : ∀ n, CalM PySem.Challenge.pw_leaps_k11_whole_walked w K mg base (6 + 3 * n) (He.ga K "Walker") "does" ["self", "one", "slots", "met", "depth"] (spWalkW K (He.ga K "Walker") QAny n) := by
    intro n
    induction n with
    | zero => exact ⟨_, _, FnOk.zero spWalkW_zero, b_Walker_does, Cl_Walker, Me_Walker_does⟩
    | succ n c_Walker_does =>
      have c_Walker_row : CalM PySem.Challenge.pw_leaps_k11_whole_walked w K mg base (6 + 3 * n + 0 + 1) (He.ga K "Walker") "row" ["self", "parts", "slots", "met", "depth"] (spRowW K (He.ga K "Walker") n) := ⟨_, _, ok_Walker_row (k := 6 + 3 * n + 0) D_Walker_row (c_Walker_does.mono (by omega)) G_ON (fun vs H Q E h => by obtain ⟨_, _, _, _, _, _, _, _, _, _, _, _, _, _, rfl, _⟩ := h; rfl) (rd_row TT), b_Walker_row, Cl_Walker, Me_Walker_row⟩
      have c_Walker_looped : CalM PySem.Challenge.pw_leaps_k11_whole_walked w K mg base (6 + 3 * n + 0 + 1) (He.ga K "Walker") "looped" ["self", "one", "slots", "met", "depth"] (spWalkW K (He.ga K "Walker") QWhl (n + 1)) := ⟨_, _, ok_Walker_looped (k := 6 + 3 * n + 0) D_Walker_looped (c_value_of.mono (by omega)) (c_Walker_counted.mono (by omega)) (c_Walker_does.mono (by omega)) G_ON (fun vs H Q E h => by obtain ⟨_, _, _, _, _, _, _, _, _, _, _, _, _, _, rfl, _⟩ := h; rfl) (rd_loopW TT), b_Walker_looped, Cl_Walker, Me_Walker_looped⟩
      have c_Walker_called : CalM PySem.Challenge.pw_leaps_k11_whole_walked w K mg base (6 + 3 * n + 0 + 1) (He.ga K "Walker") "called" ["self", "number", "numbers", "depth"] (spCalledW K (He.ga K "Walker") n) := ⟨_, _, ok_Walker_called (k := 6 + 3 * n + 0) D_Walker_called (c_Walker_does.mono (by omega)) (c_slots_for.mono (by omega)) G_ON (fun vs H Q E h => by obtain ⟨_, _, _, _, _, _, _, _, _, _, _, _, rfl, _⟩ := h; rfl) (rd_calledW TT), b_Walker_called, Cl_Walker, Me_Walker_called⟩
      have c_Walker_call : CalM PySem.Challenge.pw_leaps_k11_whole_walked w K mg base (6 + 3 * n + 1 + 1) (He.ga K "Walker") "call" ["self", "one", "slots", "depth"] (spCallW K (He.ga K "Walker") n) := ⟨_, _, ok_Walker_call (k := 6 + 3 * n + 1) D_Walker_call (c_value_of.mono (by omega)) (c_Walker_counted.mono (by omega)) (c_Walker_called.mono (by omega)) G_ON (fun vs H Q E h => by obtain ⟨_, _, _, _, _, _, _, _, _, _, _, _, _, _, _, _, rfl, _⟩ := h; rfl) (rd_callW TT), b_Walker_call, Cl_Walker, Me_Walker_call⟩
      have c_Walker_tried : CalM PySem.Challenge.pw_leaps_k11_whole_walked w K mg base (6 + 3 * n + 0 + 1) (He.ga K "Walker") "tried" ["self", "one", "slots", "met", "depth"] (spWalkW K (He.ga K "Walker") QTri (n + 1)) := ⟨_, _, ok_Walker_tried (k := 6 + 3 * n + 0) D_Walker_tried (c_Walker_does.mono (by omega)) (c_meets.mono (by omega)) (fun vs H Q E h => by obtain ⟨_, _, _, _, _, _, _, _, _, _, _, _, _, _, rfl, _⟩ := h; rfl) (rd_triedW TT), b_Walker_tried, Cl_Walker, Me_Walker_tried⟩
      have c_Walker_cleaned : CalM PySem.Challenge.pw_leaps_k11_whole_walked w K mg base (6 + 3 * n + 0 + 1) (He.ga K "Walker") "cleaned" ["self", "one", "slots", "met", "depth"] (spWalkW K (He.ga K "Walker") QCln (n + 1)) := ⟨_, _, ok_Walker_cleaned (k := 6 + 3 * n + 0) D_Walker_cleaned (c_Walker_does.mono (by omega)) G_ON (fun vs H Q E h => by obtain ⟨_, _, _, _, _, _, _, _, _, _, _, _, _, _, rfl, _⟩ := h; rfl) (rd_cleanW TT), b_Walker_cleaned, Cl_Walker, Me_Walker_cleaned⟩
      have z : CalM PySem.Challenge.pw_leaps_k11_whole_walked w K mg base (6 + 3 * n + 2 + 1) (He.ga K "Walker") "does" ["self", "one", "slots", "met", "depth"] (spWalkW K (He.ga K "Walker") QAny (n + 1)) := ⟨_, _, ok_Walker_does (k := 6 + 3 * n + 2) D_Walker_does (c_value_of.mono (by omega)) G_ON (c_Walker_row.mono (by omega)) (c_Walker_does.mono (by omega)) (c_Walker_looped.mono (by omega)) (c_Walker_call.mono (by omega)) (c_Walker_tried.mono (by omega)) (c_Walker_cleaned.mono (by omega)) (fun vs H Q E h => by obtain ⟨_, _, _, _, _, _, _, _, _, _, _, _, _, _, rfl, _⟩ := h; rfl) (rd_doesW TT), b_Walker_does, Cl_Walker, Me_Walker_does⟩
      exact z.mono (by omega)
  have c_Walker_does : CalM PySem.Challenge.pw_leaps_k11_whole_walked w K mg base (129) (He.ga K "Walker") "does" ["self", "one", "slots", "met", "depth"] (spWalkW K (He.ga K "Walker") QAny 41) := r_Walker_does 41
  have c_Walker_called : CalM PySem.Challenge.pw_leaps_k11_whole_walked w K mg base (130) (He.ga K "Walker") "called" ["self", "number", "numbers", "depth"] (spCalledW K (He.ga K "Walker") 41) := ⟨_, _, ok_Walker_called (k := 129) D_Walker_called (c_Walker_does.mono (by omega)) (c_slots_for.mono (by omega)) G_ON (fun vs H Q E h => by obtain ⟨_, _, _, _, _, _, _, _, _, _, _, _, rfl, _⟩ := h; rfl) (rd_calledW TT), b_Walker_called, Cl_Walker, Me_Walker_called⟩
  have c_walked : Cal PySem.Challenge.pw_leaps_k11_whole_walked w K mg base 132 "walked" ["program", "numbers", "most", "deep"] (spWalked K) := ⟨_, _, ok_walked (k := 130) D_walked (c_Walker_init.mono (by decide)) (c_Walker_called.mono (by decide)) (fun vs H Q E h => by obtain ⟨_, _, _, _, _, _, _, rfl, _⟩ := h; rfl) (rd_walked TT), b_walked, D_walked.kp, G_walked⟩
  have c_law_take : Cal PySem.Challenge.pw_leaps_k11_whole_walked w K mg base 1 "_law_take" ["_law_box", "_law_many"] spTake := ⟨_, _, ok_law_take (k := 0) D_law_take  (fun vs H Q E h => by obtain ⟨_, _, _, rfl, _⟩ := h; rfl) rd_take, b_law_take, D_law_take.kp, G__law_take⟩
  have r_law_alike : ∀ n, Cal PySem.Challenge.pw_leaps_k11_whole_walked w K mg base (0 + 1 * n) "_law_alike" ["_law_found", "_law_due"] (spAlike K n) := by
    intro n
    induction n with
    | zero => exact ⟨_, _, FnOk.zero spAlike_zero, b_law_alike, D_law_alike.kp, G__law_alike⟩
    | succ n c_law_alike =>
      have z : Cal PySem.Challenge.pw_leaps_k11_whole_walked w K mg base (0 + 1 * n + 0 + 1) "_law_alike" ["_law_found", "_law_due"] (spAlike K (n + 1)) := ⟨_, _, ok_law_alike (k := 0 + 1 * n + 0) D_law_alike B_isinstance B_bool B_int B_str B_tuple B_list B_len B_range (c_law_alike.mono (by omega)) (fun vs H Q E h => by obtain ⟨_, _, _, rfl, _⟩ := h; rfl) rd_alike, b_law_alike, D_law_alike.kp, G__law_alike⟩
      exact z.mono (by omega)
  have c_law_alike : Cal PySem.Challenge.pw_leaps_k11_whole_walked w K mg base (5) "_law_alike" ["_law_found", "_law_due"] (spAlike K 5) := r_law_alike 5
  have r_law_part : ∀ n, Cal PySem.Challenge.pw_leaps_k11_whole_walked w K mg base (1 + 1 * n) "_law_part" ["_law_box", "_law_deep"] (spPart K n) := by
    intro n
    induction n with
    | zero => exact ⟨_, _, FnOk.zero spPart_zero, b_law_part, D_law_part.kp, G__law_part⟩
    | succ n c_law_part =>
      have z : Cal PySem.Challenge.pw_leaps_k11_whole_walked w K mg base (1 + 1 * n + 0 + 1) "_law_part" ["_law_box", "_law_deep"] (spPart K (n + 1)) := ⟨_, _, ok_law_part (k := 1 + 1 * n + 0) D_law_part (c_law_take.mono (by omega)) (c_law_part.mono (by omega)) (fun vs H Q E h => by obtain ⟨_, _, _, rfl, _⟩ := h; rfl) rd_law_part, b_law_part, D_law_part.kp, G__law_part⟩
      exact z.mono (by omega)
  have c_law_part : Cal PySem.Challenge.pw_leaps_k11_whole_walked w K mg base (6) "_law_part" ["_law_box", "_law_deep"] (spPart K 5) := r_law_part 5
  have r_law_value : ∀ n, Cal PySem.Challenge.pw_leaps_k11_whole_walked w K mg base (0 + 1 * n) "_law_value" ["_law_part_here", "_law_slots"] (spVal K n) := by
    intro n
    induction n with
    | zero => exact ⟨_, _, FnOk.zero spVal_zero, b_law_value, D_law_value.kp, G__law_value⟩
    | succ n c_law_value =>
      have z : Cal PySem.Challenge.pw_leaps_k11_whole_walked w K mg base (0 + 1 * n + 0 + 1) "_law_value" ["_law_part_here", "_law_slots"] (spVal K (n + 1)) := ⟨_, _, ok_law_value (k := 0 + 1 * n + 0) D_law_value (c_law_value.mono (by omega)) B_int (fun vs H Q E h => by obtain ⟨_, _, _, _, rfl, _⟩ := h; rfl) rd_law_value, b_law_value, D_law_value.kp, G__law_value⟩
      exact z.mono (by omega)
  have c_law_value : Cal PySem.Challenge.pw_leaps_k11_whole_walked w K mg base (5) "_law_value" ["_law_part_here", "_law_slots"] (spVal K 5) := r_law_value 5
  have c_law_kinds : Cal PySem.Challenge.pw_leaps_k11_whole_walked w K mg base 2 "_law_kinds" ["_law_box", "_law_most"] spKinds := ⟨_, _, ok_law_kinds (k := 1) D_law_kinds B_range (c_law_take.mono (by decide)) B_int B_tuple (fun vs H Q E h => by obtain ⟨_, _, _, rfl, _⟩ := h; rfl) rd_kinds, b_law_kinds, D_law_kinds.kp, G__law_kinds⟩
  have c_law_above : Cal PySem.Challenge.pw_leaps_k11_whole_walked w K mg base 1 "_law_above" ["_law_kinds_here", "_law_kind"] (spAbove K) := ⟨_, _, ok_law_above (k := 0) D_law_above B_range B_len (fun vs H Q E h => by obtain ⟨_, _, _, rfl, _⟩ := h; rfl) rd_above, b_law_above, D_law_above.kp, G__law_above⟩
  have c_law_call : Cal PySem.Challenge.pw_leaps_k11_whole_walked w K mg base 7 "_law_call" ["_law_box", "_law_shape"] (spCallS K) := ⟨_, _, ok_law_call (k := 6) D_law_call (c_law_take.mono (by decide)) B_len B_range (c_law_part.mono (by decide)) B_tuple (fun vs H Q E h => by obtain ⟨_, _, _, _, _, rfl, _⟩ := h; rfl) rd_law_call, b_law_call, D_law_call.kp, G__law_call⟩
  have c_law_simple : Cal PySem.Challenge.pw_leaps_k11_whole_walked w K mg base 8 "_law_simple" ["_law_box", "_law_shape", "_law_turn", "_law_handler_here"] (spSimple K) := ⟨_, _, ok_law_simple (k := 7) D_law_simple (c_law_take.mono (by decide)) (c_law_call.mono (by decide)) (c_law_part.mono (by decide)) (fun vs H Q E h => by obtain ⟨_, _, _, _, _, _, _, rfl, _⟩ := h; rfl) rd_law_simple, b_law_simple, D_law_simple.kp, G__law_simple⟩
  have r_law_statement : ∀ n, Cal PySem.Challenge.pw_leaps_k11_whole_walked w K mg base (8 + 2 * n) "_law_statement" ["_law_box", "_law_shape", "_law_deep", "_law_turn", "_law_handler_here"] (spStmt K n) := by
    intro n
    induction n with
    | zero => exact ⟨_, _, FnOk.zero spStmt_zero, b_law_statement, D_law_statement.kp, G__law_statement⟩
    | succ n c_law_statement =>
      have c_law_handler : Cal PySem.Challenge.pw_leaps_k11_whole_walked w K mg base (8 + 2 * n + 0 + 1) "_law_handler" ["_law_box", "_law_shape", "_law_deep", "_law_turn"] (spHandler K n) := ⟨_, _, ok_law_handler (k := 8 + 2 * n + 0) D_law_handler (c_law_take.mono (by omega)) (c_law_statement.mono (by omega)) (fun vs H Q E h => by obtain ⟨_, _, _, _, _, _, _, rfl, _⟩ := h; rfl) rd_law_handler, b_law_handler, D_law_handler.kp, G__law_handler⟩
      have z : Cal PySem.Challenge.pw_leaps_k11_whole_walked w K mg base (8 + 2 * n + 1 + 1) "_law_statement" ["_law_box", "_law_shape", "_law_deep", "_law_turn", "_law_handler_here"] (spStmt K (n + 1)) := ⟨_, _, ok_law_statement (k := 8 + 2 * n + 1) D_law_statement (c_law_take.mono (by omega)) (c_law_simple.mono (by omega)) B_tuple B_range (c_law_statement.mono (by omega)) (c_law_part.mono (by omega)) (c_law_handler.mono (by omega)) (fun vs H Q E h => by obtain ⟨_, _, _, _, _, _, _, _, rfl, _⟩ := h; rfl) rd_law_statement, b_law_statement, D_law_statement.kp, G__law_statement⟩
      exact z.mono (by omega)
  have c_law_statement : Cal PySem.Challenge.pw_leaps_k11_whole_walked w K mg base (16) "_law_statement" ["_law_box", "_law_shape", "_law_deep", "_law_turn", "_law_handler_here"] (spStmt K 4) := r_law_statement 4
  have c_law_program : Cal PySem.Challenge.pw_leaps_k11_whole_walked w K mg base 17 "_law_program" ["_law_box"] (spProgram K) := ⟨_, _, ok_law_program (k := 16) D_law_program (c_law_kinds.mono (by decide)) B_range (c_law_take.mono (by decide)) B_len (c_law_statement.mono (by decide)) B_tuple (fun vs H Q E h => by obtain ⟨_, _, rfl, _⟩ := h; rfl) rd_law_program, b_law_program, D_law_program.kp, G__law_program⟩
  have c_law_met : Cal PySem.Challenge.pw_leaps_k11_whole_walked w K mg base 2 "_law_met" ["_law_kinds_here", "_law_wanted", "_law_kind"] (spMetL K) := ⟨_, _, ok_law_met (k := 1) D_law_met (c_law_above.mono (by decide)) (fun vs H Q E h => by obtain ⟨_, _, _, _, rfl, _⟩ := h; rfl) rd_law_met, b_law_met, D_law_met.kp, G__law_met⟩
  have c_law_counted : Cal PySem.Challenge.pw_leaps_k11_whole_walked w K mg base 1 "_law_counted" ["_law_run"] (spCountL K) := ⟨_, _, ok_law_counted (k := 0) D_law_counted  (fun vs H Q E h => by obtain ⟨_, _, _, _, _, _, _, rfl, _⟩ := h; rfl) rd_law_counted, b_law_counted, D_law_counted.kp, G__law_counted⟩
  have r_law_does : ∀ n, Cal PySem.Challenge.pw_leaps_k11_whole_walked w K mg base (5 + 3 * n) "_law_does" ["_law_run", "_law_one", "_law_slots", "_law_met_here", "_law_depth"] (spWalk K QAny n) := by
    intro n
    induction n with
    | zero => exact ⟨_, _, FnOk.zero spWalk_zero, b_law_does, D_law_does.kp, G__law_does⟩
    | succ n c_law_does =>
      have c_law_rowed : Cal PySem.Challenge.pw_leaps_k11_whole_walked w K mg base (5 + 3 * n + 0 + 1) "_law_rowed" ["_law_run", "_law_parts", "_law_slots", "_law_met_here", "_law_depth"] (spRowed K n) := ⟨_, _, ok_law_rowed (k := 5 + 3 * n + 0) D_law_rowed (c_law_does.mono (by omega)) (fun vs H Q E h => by obtain ⟨_, _, _, _, _, _, _, _, _, _, _, _, _, _, rfl, _⟩ := h; rfl) rd_law_rowed, b_law_rowed, D_law_rowed.kp, G__law_rowed⟩
      have c_law_turned : Cal PySem.Challenge.pw_leaps_k11_whole_walked w K mg base (5 + 3 * n + 0 + 1) "_law_turned" ["_law_run", "_law_one", "_law_slots", "_law_met_here", "_law_depth"] (spWalk K QWhl (n + 1)) := ⟨_, _, ok_law_turned (k := 5 + 3 * n + 0) D_law_turned (c_law_value.mono (by omega)) (c_law_counted.mono (by omega)) (c_law_does.mono (by omega)) (fun vs H Q E h => by obtain ⟨_, _, _, _, _, _, _, _, _, _, _, _, _, _, rfl, _⟩ := h; rfl) rd_law_turned, b_law_turned, D_law_turned.kp, G__law_turned⟩
      have c_law_called : Cal PySem.Challenge.pw_leaps_k11_whole_walked w K mg base (5 + 3 * n + 0 + 1) "_law_called" ["_law_run", "_law_number", "_law_numbers_here", "_law_depth"] (spCalledL K n) := ⟨_, _, ok_law_called (k := 5 + 3 * n + 0) D_law_called B_list B_range B_len (c_law_does.mono (by omega)) (fun vs H Q E h => by obtain ⟨_, _, _, _, _, _, _, _, _, _, _, _, rfl, _⟩ := h; rfl) rd_law_called, b_law_called, D_law_called.kp, G__law_called⟩
      have c_law_calls : Cal PySem.Challenge.pw_leaps_k11_whole_walked w K mg base (5 + 3 * n + 1 + 1) "_law_calls" ["_law_run", "_law_one", "_law_slots", "_law_depth"] (spCallsL K n) := ⟨_, _, ok_law_calls (k := 5 + 3 * n + 1) D_law_calls (c_law_value.mono (by omega)) (c_law_counted.mono (by omega)) (c_law_called.mono (by omega)) (fun vs H Q E h => by obtain ⟨_, _, _, _, _, _, _, _, _, _, _, _, _, _, _, _, rfl, _⟩ := h; rfl) rd_law_calls, b_law_calls, D_law_calls.kp, G__law_calls⟩
      have c_law_tried : Cal PySem.Challenge.pw_leaps_k11_whole_walked w K mg base (5 + 3 * n + 0 + 1) "_law_tried" ["_law_run", "_law_one", "_law_slots", "_law_met_here", "_law_depth"] (spWalk K QTri (n + 1)) := ⟨_, _, ok_law_tried (k := 5 + 3 * n + 0) D_law_tried (c_law_does.mono (by omega)) (c_law_met.mono (by omega)) (fun vs H Q E h => by obtain ⟨_, _, _, _, _, _, _, _, _, _, _, _, _, _, rfl, _⟩ := h; rfl) rd_law_tried, b_law_tried, D_law_tried.kp, G__law_tried⟩
      have c_law_cleaned : Cal PySem.Challenge.pw_leaps_k11_whole_walked w K mg base (5 + 3 * n + 0 + 1) "_law_cleaned" ["_law_run", "_law_one", "_law_slots", "_law_met_here", "_law_depth"] (spWalk K QCln (n + 1)) := ⟨_, _, ok_law_cleaned (k := 5 + 3 * n + 0) D_law_cleaned (c_law_does.mono (by omega)) (fun vs H Q E h => by obtain ⟨_, _, _, _, _, _, _, _, _, _, _, _, _, _, rfl, _⟩ := h; rfl) rd_law_cleaned, b_law_cleaned, D_law_cleaned.kp, G__law_cleaned⟩
      have z : Cal PySem.Challenge.pw_leaps_k11_whole_walked w K mg base (5 + 3 * n + 2 + 1) "_law_does" ["_law_run", "_law_one", "_law_slots", "_law_met_here", "_law_depth"] (spWalk K QAny (n + 1)) := ⟨_, _, ok_law_does (k := 5 + 3 * n + 2) D_law_does (c_law_value.mono (by omega)) (c_law_rowed.mono (by omega)) (c_law_does.mono (by omega)) B_int (c_law_turned.mono (by omega)) (c_law_calls.mono (by omega)) (c_law_tried.mono (by omega)) (c_law_cleaned.mono (by omega)) (fun vs H Q E h => by obtain ⟨_, _, _, _, _, _, _, _, _, _, _, _, _, _, rfl, _⟩ := h; rfl) rd_law_does, b_law_does, D_law_does.kp, G__law_does⟩
      exact z.mono (by omega)
  have c_law_does : Cal PySem.Challenge.pw_leaps_k11_whole_walked w K mg base (128) "_law_does" ["_law_run", "_law_one", "_law_slots", "_law_met_here", "_law_depth"] (spWalk K QAny 41) := r_law_does 41
  have c_law_called : Cal PySem.Challenge.pw_leaps_k11_whole_walked w K mg base (129) "_law_called" ["_law_run", "_law_number", "_law_numbers_here", "_law_depth"] (spCalledL K 41) := ⟨_, _, ok_law_called (k := 128) D_law_called B_list B_range B_len (c_law_does.mono (by omega)) (fun vs H Q E h => by obtain ⟨_, _, _, _, _, _, _, _, _, _, _, _, rfl, _⟩ := h; rfl) rd_law_called, b_law_called, D_law_called.kp, G__law_called⟩
  have c_law_walked : Cal PySem.Challenge.pw_leaps_k11_whole_walked w K mg base 130 "_law_walked" ["_law_program_here", "_law_numbers_here", "_law_most", "_law_deep"] (spWalked K) := ⟨_, _, ok_law_walked (k := 129) D_law_walked (c_law_called.mono (by decide)) (fun vs H Q E h => by obtain ⟨_, _, _, _, _, _, _, rfl, _⟩ := h; rfl) rd_law_walked, b_law_walked, D_law_walked.kp, G__law_walked⟩
  have c_law_numbers : Cal PySem.Challenge.pw_leaps_k11_whole_walked w K mg base 2 "_law_numbers" ["_law_box", "_law_many"] (spNums K) := ⟨_, _, ok_law_numbers (k := 1) D_law_numbers B_range (c_law_take.mono (by decide)) (fun vs H Q E h => by obtain ⟨_, _, _, rfl, _⟩ := h; rfl) rd_law_numbers, b_law_numbers, D_law_numbers.kp, G__law_numbers⟩
  exact ok_law (k := 132) D_law B_list (c_law_program.mono (by decide)) (c_law_numbers.mono (by decide)) (c_law_take.mono (by decide)) (c_law_walked.mono (by decide)) B_range (c_law_alike.mono (by decide)) (c_walked.mono (by decide)) (fun vs H Q E h => by obtain ⟨_, _, rfl, _⟩ := h; rfl) rd_law
end Lr
open PySem PySem.W PySem.Calls PyProof.Rows
set_option maxRecDepth 100000 in
set_option maxHeartbeats 0 in
theorem PySem.Challenge.cw_leaps_k11_whole_walked_holds : PySem.Challenge.rw_leaps_k11_whole_walked.Holds := by
  w_on; o_law
  refine HandSHeadRun.head_any (r := OpenLaw.row PySem.Challenge.rw_leaps_k11_whole_walked) (q := view (OpenLaw.row PySem.Challenge.rw_leaps_k11_whole_walked).prog [35]) (H := Lr.hk) (ob := Lr.ob) (M := 1500) (loose := Lr.loose) (d := HandSHeadRun.topDef (OpenLaw.row PySem.Challenge.rw_leaps_k11_whole_walked).prog 35) (kwd := []) Lr.ob_eq
    (by kernel_rfl) (fun s => by kernel_rfl) Lr.run (by kernel_rfl) (by kernel_rfl) (by kernel_rfl) (by rfl) (by first | assumption | decide +kernel) (by decide +kernel) ⟨rfl, rfl, rfl, rfl, rfl, by decide +kernel⟩ ?hw ?hc
  case hw => w_witness2
  case hc =>
    refine L2.walk_ofE (l := PySem.Challenge.rw_leaps_k11_whole_walked) (n := 63) (k := 133) (x := "_law_script") (CX := L2.CX0) rfl (by decide) (by kernel_rfl) ⟨rfl, by decide, by decide⟩ ?F (fun _ _ _ _ z => z)
    intro w mg fa h Y G hmg0
    obtain ⟨K, KX, c⟩ := Y
    have hmg : mg ("law" : PySem.Str) = some (.ref fa) := by
      have e : (HandSHeadRun.topDef (OpenLaw.row PySem.Challenge.rw_leaps_k11_whole_walked).prog 35).name = ("law" : PySem.Str) := by kernel_rfl
      rw [← e]
      exact hmg0
    obtain ⟨fd, hb, hF⟩ := Lr.facts (w := w) KX G hmg c
    exact ⟨K, fd, Lr.spLaw K, KX, hb, fun H a ns hl _ hS => ⟨a, ns, rfl, hS, hl, fun _ => rfl⟩, hF⟩
