import PyProof.Rows.All
import Wide.All
import OpenK.AllK
import Wide.FinOn
import HandS.ForMost
import HandS.IsInst
import HandS.Wide
import HandS.TupAny
import HandS.Walk
import HandS.Evl
import HandS.Iter
import KE.GoesEnum
import HandS.Text
import HandS.RaiseMore
import KE.KIntText
import PyProof.Rows.StrIntSpec
import KE.KStateDown
import HandS.WordsExc
import HandS.Defaults
import HandS.Head0
import HandS.Head1
import HandS.Head2
import HandS.HeadEnd
import HandS.HeadHook1
import HandS.HeadHook2
import PySem.Challenge.RW_leaps_k17_listed
set_option Elab.async false
set_option linter.all false
set_option maxRecDepth 100000
set_option maxHeartbeats 4000000
/-! Lb: what every leaps law leans on: callees by name, the growing heap, data at values. -/
namespace Lp
open PySem PySem.Spec PyProof.Rows L2

/-! ### callees -/
/-- a def of the module, by its name, with its promise -/
def Cal (P : Program) (w : World) (K : PySem.W.Frag) (mg : Str → Option Value) (base : Heap) (k : Nat) (x : Str) (ps : List Str) (sp : Sp) : Prop :=
  ∃ f fd, FnOk P w K mg base CX0 k f fd ps sp ∧ Binds K fd ps [] ∧ PySem.W.keepIn K (.ref f) = true ∧ mg x = some (.ref f)
/-- a method of the class at C -/
def CalM (P : Program) (w : World) (K : PySem.W.Frag) (mg : Str → Option Value) (base : Heap) (k : Nat) (C : Addr) (m : Str) (ps : List Str) (sp : Sp) : Prop :=
  ∃ f fd, FnOk P w K mg base CX0 k f fd ps sp ∧ Binds K fd ps [] ∧ Cls K C ∧ Meth K C m f
/-- a class of the module that is made by its own __init__ -/
def CalC (P : Program) (w : World) (K : PySem.W.Frag) (mg : Str → Option Value) (base : Heap) (k : Nat) (x : Str) (C : Addr) (ps : List Str) (sp : Sp) : Prop :=
  ∃ f fd, FnOk P w K mg base CX0 k f fd ps sp ∧ Binds K fd ps [] ∧ Mk K C f ∧ mg x = some (.ref C)
section
variable {P : Program} {w : World} {K : PySem.W.Frag} {mg : Str → Option Value} {base : Heap} {j k : Nat} {x m : Str} {C : Addr} {ps : List Str} {sp sp' : Sp}
theorem Cal.mono (c : Cal P w K mg base j x ps sp) (h : j ≤ k) : Cal P w K mg base k x ps sp :=
  let ⟨f, fd, F, r⟩ := c; ⟨f, fd, F.mono h, r⟩
theorem Cal.imp (c : Cal P w K mg base j x ps sp) (h : ∀ vs H Q E, sp' vs H Q E → sp vs H Q E) : Cal P w K mg base j x ps sp' :=
  let ⟨f, fd, F, r⟩ := c; ⟨f, fd, F.imp h, r⟩
theorem CalM.mono (c : CalM P w K mg base j C m ps sp) (h : j ≤ k) : CalM P w K mg base k C m ps sp :=
  let ⟨f, fd, F, r⟩ := c; ⟨f, fd, F.mono h, r⟩
theorem CalM.imp (c : CalM P w K mg base j C m ps sp) (h : ∀ vs H Q E, sp' vs H Q E → sp vs H Q E) : CalM P w K mg base j C m ps sp' :=
  let ⟨f, fd, F, r⟩ := c; ⟨f, fd, F.imp h, r⟩
theorem CalC.mono (c : CalC P w K mg base j x C ps sp) (h : j ≤ k) : CalC P w K mg base k x C ps sp :=
  let ⟨f, fd, F, r⟩ := c; ⟨f, fd, F.mono h, r⟩
end
section
variable {X : Cx} {k : Nat} {C : Addr} {x m : Str} {ps : List Str} {sp : Sp} {p pos apos : Pos} {e o : Expr} {es : List Expr} {ta : TE} {t : TA}
theorem pc (c : Cal X.prog X.w X.K X.mg X.base k x ps sp) (hr : Room k X.A) (ha : PA X (e :: es) t) (hg : Gl X x := by rfl) (hdb : (x == ("__debug__" : Str)) = false := by decide)
    (he : starEach (e :: es) X.env = (false, eval e X.env) :: starEach es X.env := by rfl) (hpl : (backTo pos (starEach es X.env)).any (·.1) = false := by rfl) : PE X (.Call (.Name x p) (e :: es) [] pos) (tCall sp [] E0 t) := by
  obtain ⟨f, fd, F, b, kp, hm⟩ := c
  exact pe_call F hr hg hm kp b .nil pass0 ha hdb he hpl
theorem pc0 (c : Cal X.prog X.w X.K X.mg X.base k x ps sp) (hr : Room k X.A) (hg : Gl X x := by rfl) (hdb : (x == ("__debug__" : Str)) = false := by decide) : PE X (.Call (.Name x p) [] [] pos) (tCall sp [] E0 tNil) := by
  obtain ⟨f, fd, F, b, kp, hm⟩ := c
  exact pe_call0 F hr hg hm kp b .nil pass0 hdb
theorem pm {pl : Sem Bool} (c : CalM X.prog X.w X.K X.mg X.base k C m ps sp) (hr : Room k X.A) (he : PE X o ta) (ha : PA X (e :: es) t)
    (hst : starEach (e :: es) X.env = (false, eval e X.env) :: starEach es X.env := by rfl) (hpl : (backTo pos (starEach es X.env)).any (·.1) = false := by rfl)
    (ht : eval (.Call (.Attribute o m apos) (e :: es) [] pos) X.env = (do
      let ov ← eval o X.env
      standAt apos.atName
      let (f, first) ← holding [ov] (getMethod ov m pl)
      callWith pos f first (backTo pos (starEach (e :: es) X.env)) (backToKw pos (keywordEach [] X.env))) := by rfl) :
    PE X (.Call (.Attribute o m apos) (e :: es) [] pos) (tMeth C m sp [] E0 ta t) := by
  obtain ⟨f, fd, F, b, cl, hm⟩ := c
  exact pe_meth he cl hm F hr b .nil pass0 ha hst hpl ht
theorem pm0 {pl : Sem Bool} (c : CalM X.prog X.w X.K X.mg X.base k C m ps sp) (hr : Room k X.A) (he : PE X o ta)
    (ht : eval (.Call (.Attribute o m apos) [] [] pos) X.env = (do
      let ov ← eval o X.env
      standAt apos.atName
      let (f, first) ← holding [ov] (getMethod ov m pl)
      callWith pos f first (backTo pos (starEach [] X.env)) (backToKw pos (keywordEach [] X.env))) := by rfl) :
    PE X (.Call (.Attribute o m apos) [] [] pos) (tMeth C m sp [] E0 ta tNil) := by
  obtain ⟨f, fd, F, b, cl, hm⟩ := c
  exact pe_meth0 he cl hm F hr b .nil pass0 ht
theorem pk (c : CalC X.prog X.w X.K X.mg X.base k x C ps sp) (hr : Room (k + 1) X.A) (ha : PA X (e :: es) t) (hg : Gl X x := by rfl) (hdb : (x == ("__debug__" : Str)) = false := by decide)
    (he : starEach (e :: es) X.env = (false, eval e X.env) :: starEach es X.env := by rfl) (hpl : (backTo pos (starEach es X.env)).any (·.1) = false := by rfl) : PE X (.Call (.Name x p) (e :: es) [] pos) (tMake C sp [] E0 t) := by
  obtain ⟨f, fd, F, b, M, hm⟩ := c
  exact pe_make M F hr hg hm b .nil pass0 ha hdb he hpl
theorem pk0 (c : CalC X.prog X.w X.K X.mg X.base k x C ps sp) (hr : Room (k + 1) X.A) (hg : Gl X x := by rfl) (hdb : (x == ("__debug__" : Str)) = false := by decide) : PE X (.Call (.Name x p) [] [] pos) (tMake C sp [] E0 tNil) := by
  obtain ⟨f, fd, F, b, M, hm⟩ := c
  exact pe_make0 M F hr hg hm b .nil pass0 hdb
end

/-! ### short names of readings -/
abbrev rAdI : R2 := rI0 fun i j => .int (i + j)
abbrev rSbI : R2 := rI0 fun i j => .int (i - j)
abbrev rMlI : R2 := rI CMul fun i j => .int (i * j)
abbrev rDvW : R2 := rI CDivW fun i j => .int (i / j)
abbrev rMdI : R2 := rI (fun _ j => 0 < j) fun i j => .int (i % j)
abbrev rLt : R2 := rI0 fun i j => .bl (decide (i < j))
abbrev rLe : R2 := rI0 fun i j => .bl (decide (i ≤ j))
abbrev rGt : R2 := rI0 fun i j => .bl (decide (j < i))
abbrev rGe : R2 := rI0 fun i j => .bl (decide (j ≤ i))
abbrev rIsN : R2 := fun x y H Q => y = .non ∧ Q (.bl (decide (x = .non))) H
abbrev rNtN : R2 := fun x y H Q => y = .non ∧ Q (.bl (!decide (x = .non))) H
abbrev rNeg : V → Hp → VK → Prop := rU fun i => .int (-i)
abbrev rCatS : R2 := fun x y H Q => ∃ i j, x = .str i ∧ y = .str j ∧ i.length + j.length ≤ sizeLine ∧ Q (.str (i ++ j)) H
abbrev rInt1 : List V → Hp → VK → Prop := fun xs H Q => (∃ i, xs = [.int i] ∧ Q (.int i) H) ∨ ∃ k, xs = [.bl k] ∧ Q (.int (if k then 1 else 0)) H
abbrev rLenQ (K : PySem.W.Frag) : List V → Hp → VK → Prop := fun xs H Q => ∃ p ys, xs = [.ref p] ∧ (SqL K H p ys ∨ SqT K H p ys) ∧ Q (.int ys.length) H
abbrev rTupOf (K : PySem.W.Frag) : List V → Hp → VK → Prop := fun xs H Q => ∃ p ys, xs = [.ref p] ∧ ((SqL K H p ys ∧ ∀ l, H l = none → Q (.ref l) (upd H l (.tup ys))) ∨ (SqT K H p ys ∧ Q (.ref p) H))
abbrev rLstOf (K : PySem.W.Frag) : List V → Hp → VK → Prop := fun xs H Q => ∃ p ys, xs = [.ref p] ∧ (SqL K H p ys ∨ SqT K H p ys) ∧ ∀ l, H l = none → Q (.ref l) (upd H l (.lst ys))

/-! ### the heap grows: all but the objects in B stands as it stood -/
def Kp (B : Addr → Prop) (H H' : Hp) : Prop := ∀ a o, H a = some o → ¬ B a → H' a = some o
theorem Kp.refl (B : Addr → Prop) (H : Hp) : Kp B H H := fun _ _ h _ => h
theorem Kp.trans {B : Addr → Prop} {H H1 H2 : Hp} (a : Kp B H H1) (b : Kp B H1 H2) : Kp B H H2 := fun x o h n => b x o (a x o h n) n
theorem Kp.mono {B B' : Addr → Prop} {H H' : Hp} (a : Kp B H H') (h : ∀ x, B x → B' x) : Kp B' H H' := fun x o e n => a x o e fun z => n (h x z)
theorem Kp.same {B : Addr → Prop} {H H' : Hp} (a : Same H H') : Kp B H H' := fun x o e _ => a x o e
theorem Kp.new {B : Addr → Prop} {H : Hp} {p : Addr} {o : HO} (h : H p = none) : Kp B H (upd H p o) := fun x u e _ => by rw [upd_ne (ne_of_none e h)]; exact e
theorem Kp.upd {B : Addr → Prop} {H : Hp} {p : Addr} {o : HO} (h : B p) : Kp B H (upd H p o) := fun x u e n => by
  rw [upd_ne (fun z => n (by rw [z]; exact h))]; exact e
/-- behind a change of what was not there at the start -/
theorem Kp.late {B : Addr → Prop} {H H1 : Hp} {p : Addr} {o : HO} (a : Kp B H H1) (h : H p = none) : Kp B H (L2.upd H1 p o) := fun x u e n => by
  rw [upd_ne (ne_of_none e h)]; exact a x u e n
theorem Kp.at {B : Addr → Prop} {H H' : Hp} {a : Addr} {o : HO} (k : Kp B H H') (h : H a = some o) (n : ¬ B a) : H' a = some o := k a o h n
/-- a place that is free behind was free ahead (unless in B) -/
theorem Kp.free {B : Addr → Prop} {H H' : Hp} (k : Kp B H H') {l : Addr} (h : H' l = none) (n : ¬ B l) : H l = none := by
  cases q : H l with
  | none => rfl
  | some o => rw [k l o q n] at h; cases h
/-- only what may change stands in B -/
def NoTup (B : Addr → Prop) (H : Hp) : Prop := ∀ a, B a → ∃ o, H a = some o ∧ (∀ xs, o ≠ .tup xs) ∧ ∀ ob u, o ≠ .frz ob u
theorem Kp.sqT {B : Addr → Prop} {K : PySem.W.Frag} {H H' : Hp} {a : Addr} {xs : List V} (k : Kp B H H') (nt : NoTup B H) (h : SqT K H a xs) : SqT K H' a xs := by
  rcases h with (h | ⟨o, h⟩) | h
  · refine .inl (.inl (k _ _ h fun z => ?_))
    obtain ⟨u, e, n, _⟩ := nt a z
    rw [h] at e; cases e; exact n _ rfl
  · refine .inl (.inr ⟨o, k _ _ h fun z => ?_⟩)
    obtain ⟨u, e, _, n⟩ := nt a z
    rw [h] at e; cases e; exact n _ _ rfl
  · exact .inr h
theorem Kp.sqL {B : Addr → Prop} {K : PySem.W.Frag} {H H' : Hp} {a : Addr} {xs : List V} (k : Kp B H H') (n : ¬ B a) (h : SqL K H a xs) : SqL K H' a xs := by
  rcases h with (h | ⟨o, h⟩) | h
  · exact .inl (.inl (k _ _ h n))
  · exact .inl (.inr ⟨o, k _ _ h n⟩)
  · exact .inr h

/-! ### decided tests -/
theorem ifT {A B : Prop} {c : Bool} (e : c = true) (h : A) : if c = true then A else B := by rw [if_pos e]; exact h
theorem ifF {A B : Prop} {c : Bool} (e : c = false) (h : B) : if c = true then A else B := by rw [if_neg (by rw [e]; decide)]; exact h
theorem ifB {A B : Prop} {c : Bool} (h1 : c = true → A) (h2 : c = false → B) : if c = true then A else B := by
  cases e : c with
  | true => exact ifT rfl (h1 e)
  | false => exact ifF rfl (h2 e)
theorem dT {p : Prop} [Decidable p] (h : p) : decide p = true := decide_eq_true h
theorem dF {p : Prop} [Decidable p] (h : ¬ p) : decide p = false := decide_eq_false h
end Lp

/-! L1: take, kinds, above, under. -/
namespace Lp
open PySem PySem.Spec PyProof.Rows L2
def t_law_take (K : PySem.W.Frag) : TS :=
  tSeq (tIfS (tTest (tOp (rEqD K) (tVar 0) (tLst (tNil)))) (tRet (tC (.int 0))) (tNext)) (tSeq (tAsg (tOp (rIxL K) (tVar 0) (tC (.int 0))) (gName 2)) (tSeq (tAsg (tOp rDvW (tVar 2) (tVar 1)) (gSub (tVar 0) (tC (.int 0)) rSetL)) (tSeq (tIfS (tOr (tTest (tOp rEq (tOp (rIxL K) (tVar 0) (tC (.int 0))) (tC (.int 0)))) (tTest (tOp rEq (tOp (rIxL K) (tVar 0) (tC (.int 0))) (tUn rNeg (tC (.int 1)))))) (tDrop (tBM K "list" rPopAt (tVar 0) (tCons (tC (.int 0)) (tNil)))) (tNext)) (tRet (tOp rMdI (tVar 2) (tVar 1))))))

def t_law_kinds (K : PySem.W.Frag) (sp_law_take : Sp) : TS :=
  tSeq (tAsg (tLst (tNil)) (gName 2)) (tSeq (tFor (iRng1 (tCons (tOp rAdI (tC (.int 1)) (tCall sp_law_take [] E0 (tCons (tVar 0) (tCons (tVar 1) (tNil))))) (tNil))) (gName 3) (tSeq (tAsg (tCall sp_law_take [] E0 (tCons (tVar 0) (tCons (tOp rAdI (tVar 3) (tC (.int 1))) (tNil)))) (gName 4)) (tDrop (tBM K "list" rAppend (tVar 2) (tCons (tOp (rIxL K) (tLst (tCons (tC .non) (tCons (tOp rSbI (tVar 4) (tC (.int 1))) (tNil)))) (tCB rInt1 (tCons (tOp rGt (tVar 4) (tC (.int 0))) (tNil)))) (tNil)))))) (tRet (tCB (rTupOf K) (tCons (tVar 2) (tNil)))))

def t_law_above (K : PySem.W.Frag) : TS :=
  tSeq (tAsg (tLst (tCons (tVar 1) (tNil))) (gName 2)) (tSeq (tFor (iRng1 (tCons (tCB (rLenQ K) (tCons (tVar 0) (tNil))) (tNil))) (gName 3) (tSeq (tAsg (tOp (rIxT K) (tVar 0) (tOp (rIxL K) (tVar 2) (tUn rNeg (tC (.int 1))))) (gName 4)) (tIfS (tTest (tOp rNtN (tVar 4) (tC .non))) (tDrop (tBM K "list" rAppend (tVar 2) (tCons (tVar 4) (tNil)))) (tNext)))) (tRet (tVar 2)))

def t_under (K : PySem.W.Frag) : TS :=
  tSeq (tWhile (tAnd (tTest (tOp rNtN (tVar 1) (tC .non))) (tTest (tOp rNe (tVar 1) (tVar 2)))) (tAsg (tOp (rIxT K) (tVar 0) (tVar 1)) (gName 1))) (tRet (tOp rNtN (tVar 1) (tC .non)))

theorem sz_lt1 {n : Nat} (h : n < 1000000) : n < sizeLine := Nat.lt_of_lt_of_le h (by decide)
theorem sz_le1 {n : Nat} (h : n ≤ 1000000) : n ≤ sizeLine := Nat.le_trans h (by decide)
abbrev N_law_take : List Str := ["_law_box", "_law_many", "_law_number"]

theorem dp_ints {K : PySem.W.Frag} {H : Hp} : ∀ l : List Int, DpAll K H (l.map V.int) (l.map PyData.int)
  | [] => .nil
  | i :: r => .cons (.int i) (dp_ints r)
theorem lay_ints : ∀ l : List Int, PyData.canLayAll0 (l.map PyData.int) = true
  | [] => rfl
  | i :: r => by simp [PyData.canLayAll0, PyData.canLay0, lay_ints r]
theorem dep_ints : ∀ l : List Int, PyData.depthAll (l.map PyData.int) ≤ 1
  | [] => by simp [PyData.depthAll]
  | i :: r => by have := dep_ints r; simp [PyData.depthAll, PyData.depth]; omega
theorem shaped_ints (l : List Int) : SeqAt.shaped (.list (l.map PyData.int)) = true := by
  have := dep_ints l
  simp [SeqAt.shaped, PyData.canLay0, lay_ints, PyData.depth]
  omega
theorem eqv_ints_nil (l : List Int) : PyData.eqv (.list (l.map PyData.int)) (.list []) = l.isEmpty := by
  cases l <;> simp [PyData.eqv, PyData.eqvAll]

theorem ixN_n {n j : Nat} (hj : j < n) : ixN n (j : Int) = some j := by
  unfold ixN
  rw [if_pos (by omega), if_pos (by omega)]
  simp
theorem seq0 {n : Nat} : seqIndex? 0 (n + 1) = some 0 := by
  unfold seqIndex?
  simp
/-- the box: a list of ints at b -/
def spTake : Sp := fun vs H Q _ => ∃ (b : Addr) (l : List Int) (m : Int), vs = [.ref b, .int m] ∧ H b = some (.lst (l.map V.int)) ∧ 0 < m ∧ m ≤ 2000000 ∧
  ∀ (r : Int) (l' : List Int) (H' : Hp), 0 ≤ r → r < m → H' b = some (.lst (l'.map V.int)) → Kp (fun x => x = b) H H' → Q (.int r) H'

theorem rd_take {K : PySem.W.Frag} (vs : List V) (H : Hp) (Q : VK) (E : XK) (h : spTake vs H Q E) : t_law_take K { nx := fun _ H' => Q .non H', rt := Q } (start N_law_take vs) H := by
  obtain ⟨b, l, m, rfl, hb, hm, hm2, k⟩ := h
  refine ⟨_, rfl, (by show (0 : Nat) ≤ sizeLine; decide), fun p hp => ?_⟩
  have hb1 : L2.upd H p (.lst []) b = some (.lst (l.map V.int)) := by rw [upd_ne (ne_of_none hb hp)]; exact hb
  refine ⟨_, _, .lst (SqL.of hb1) (dp_ints l), .lst (SqL.of upd_same) .nil, shaped_ints l, rfl, _, rfl, ?_⟩
  rw [eqv_ints_nil]
  refine ifB (fun e => ?_) (fun e => ?_)
  · exact k 0 l _ (by omega) hm hb1 (Kp.new hp)
  · cases l with
    | nil => cases e
    | cons x r =>
      refine ⟨_, rfl, b, _, 0, .int x, rfl, rfl, SqL.of hb1, atI_nat (j := 0) rfl, ?_⟩
      refine ⟨_, rfl, _, rfl, x, m, rfl, rfl, wide_div (b := 30) hm (by omega) (by decide) (by decide), ?_⟩
      refine ⟨_, rfl, b, _, 0, 0, rfl, rfl, hb1, ixN_n (j := 0) (Nat.succ_pos _), ?_⟩
      have hb2 : L2.upd (L2.upd H p (.lst [])) b (.lst ((V.int (x / m)) :: r.map V.int)) b = some (.lst ((V.int (x / m)) :: r.map V.int)) := upd_same
      have kp : Kp (fun y => y = b) H (L2.upd (L2.upd H p (.lst [])) b (.lst ((V.int (x / m)) :: r.map V.int))) := (Kp.new hp).trans (Kp.upd rfl)
      have fin : ∀ H', ((∃ l' : List Int, H' b = some (.lst (l'.map V.int))) ∧ Kp (fun y => y = b) H H') → (tRet (tOp rMdI (tVar 2) (tVar 1))) { nx := fun _ H' => Q .non H', rt := Q } [some (.ref b), some (.int m), some (.int x)] H' := by
        intro H' ⟨⟨l', e⟩, kp'⟩
        exact ⟨_, rfl, _, rfl, x, m, rfl, rfl, hm, k _ l' H' (Int.emod_nonneg _ (by omega)) (Int.emod_lt_of_pos _ hm) e kp'⟩
      have pop : (tSeq (tDrop (tBM K "list" rPopAt (tVar 0) (tCons (tC (.int 0)) tNil))) (tRet (tOp rMdI (tVar 2) (tVar 1)))) { nx := fun _ H' => Q .non H', rt := Q } [some (.ref b), some (.int m), some (.int x)] (L2.upd (L2.upd H p (.lst [])) b (.lst ((V.int (x / m)) :: r.map V.int))) := by
        refine ⟨_, rfl, .inl ⟨rfl, _, SqL.of hb2⟩, b, _, 0, 0, _, rfl, rfl, hb2, by decide, by decide, seq0, rfl, ?_⟩
        exact fin _ ⟨⟨r, upd_same⟩, kp.trans (Kp.upd rfl)⟩
      have go : (tRet (tOp rMdI (tVar 2) (tVar 1))) { nx := fun _ H' => Q .non H', rt := Q } [some (.ref b), some (.int m), some (.int x)] (L2.upd (L2.upd H p (.lst [])) b (.lst ((V.int (x / m)) :: r.map V.int))) := fin _ ⟨⟨(x / m) :: r, hb2⟩, kp⟩
      refine ⟨_, rfl, b, _, 0, _, rfl, rfl, SqL.of hb2, atI_nat (j := 0) rfl, rfl, _, rfl, ifB (fun _ => pop) fun _ => ?_⟩
      refine ⟨_, rfl, b, _, 0, _, rfl, rfl, SqL.of hb2, atI_nat (j := 0) rfl, _, rfl, rfl, _, rfl, ifB (fun _ => pop) fun _ => go⟩

/-! ### heaps that grow alone -/
theorem _root_.L2.Same.sqT {K : PySem.W.Frag} {H H' : Hp} {a : Addr} {xs : List V} (e : Same H H') (h : SqT K H a xs) : SqT K H' a xs := by
  rcases h with (h | ⟨o, h⟩) | h
  · exact .inl (.inl (e _ _ h))
  · exact .inl (.inr ⟨o, e _ _ h⟩)
  · exact .inr h
/-! ### kinds -/
def kindV : Option Nat → V
  | none => .non
  | some j => .int (j : Int)
def WfK (ks : List (Option Nat)) : Prop := ∀ (i j : Nat), ks[i]? = some (some j) → j < i
abbrev N_law_kinds : List Str := ["_law_box", "_law_most", "_law_kinds_here", "_law_k", "_law_above_here"]
def spKinds : Sp := fun vs H Q _ => ∃ (b : Addr) (l : List Int) (m : Int), vs = [.ref b, .int m] ∧ H b = some (.lst (l.map V.int)) ∧ 0 < m ∧ m ≤ 1000 ∧
  ∀ (a : Addr) (ks : List (Option Nat)) (l' : List Int) (H' : Hp), WfK ks → 0 < ks.length → (ks.length : Int) ≤ m → H' a = some (.tup (ks.map kindV)) → H a = none → H' b = some (.lst (l'.map V.int)) → Kp (fun x => x = b) H H' → Q (.ref a) H'
theorem WfK.snoc {ks : List (Option Nat)} (w : WfK ks) {o : Option Nat} (h : ∀ j, o = some j → j < ks.length) : WfK (ks ++ [o]) := by
  intro i j e
  by_cases hi : i < ks.length
  · rw [List.getElem?_append_left hi] at e
    exact w i j e
  · rw [List.getElem?_append_right (by omega)] at e
    have hi2 : i = ks.length := by
      have := (List.getElem?_eq_some_iff.mp e).1
      simp at this
      omega
    subst hi2
    simp at e
    exact h j e
theorem rd_kinds {K : PySem.W.Frag} (vs : List V) (H : Hp) (Q : VK) (E : XK) (h : spKinds vs H Q E) : t_law_kinds K spTake { nx := fun _ H' => Q .non H', rt := Q } (start N_law_kinds vs) H := by
  obtain ⟨b, l, m, rfl, hb, hm, hm2, k⟩ := h
  refine ⟨(by show (0 : Nat) ≤ sizeLine; decide), fun p hp => ?_⟩
  have hb1 : L2.upd H p (.lst []) b = some (.lst (l.map V.int)) := by rw [upd_ne (ne_of_none hb hp)]; exact hb
  refine ⟨_, rfl, _, rfl, b, l, m, rfl, hb1, hm, by omega, fun r l1 H1 h0 h1 hb2 kp1 => ?_⟩
  have kpH : Kp (fun x => x = b) H H1 := (Kp.new hp).trans kp1
  have pb : p ≠ b := fun e => by rw [e, hb] at hp; cases hp
  refine ⟨_, _, rfl, rfl, _, rfl, by omega, by omega, for_range (lo := 0) (n := (1 + r).toNat) (fun i σ H2 => ∃ (ks : List (Option Nat)) (l2 : List Int) (v3 v4 : Option V), σ = [some (.ref b), some (.int m), some (.ref p), v3, v4] ∧
      ks.length = i ∧ WfK ks ∧ H2 p = some (.lst (ks.map kindV)) ∧ H2 b = some (.lst (l2.map V.int)) ∧ Kp (fun x => x = b) H H2)
    ⟨[], l1, none, none, rfl, rfl, (by intro i j e; simp at e), kp1 p _ upd_same pb, hb2, kpH⟩ ?_ ?_⟩
  · rintro i σ H2 hi ⟨ks, l2, v3, v4, rfl, hl, wf, hp2, hb3, kp2⟩
    refine ⟨_, rfl, _, rfl, _, _, rfl, rfl, b, l2, _, rfl, hb3, by omega, by omega, fun x l3 H3 x0 x1 hb4 kp3 => ?_⟩
    have hp3 := kp3 p _ hp2 pb
    refine ⟨_, rfl, .inl ⟨rfl, _, SqL.of hp3⟩, _, rfl, _, _, rfl, rfl, (by show (2 : Nat) ≤ sizeLine; decide), fun q hq => ?_⟩
    have pq : p ≠ q := ne_of_none hp3 hq
    have bq : b ≠ q := ne_of_none hb4 hq
    have fin : ∀ (o : Option Nat), (∀ j, o = some j → j < ks.length) → (0 : Nat) < 1 → ks.length < sizeLine ∧ (∃ (ks' : List (Option Nat)) (l2 : List Int) (v3 v4 : Option V), [some (V.ref b), some (.int m), some (.ref p), some (.int (0 + (i : Int))), some (.int x)] = [some (.ref b), some (.int m), some (.ref p), v3, v4] ∧
      ks'.length = i + 1 ∧ WfK ks' ∧ (L2.upd (L2.upd H3 q (.lst [.non, .int (x - 1)])) p (.lst (ks.map kindV ++ [kindV o]))) p = some (.lst (ks'.map kindV)) ∧ (L2.upd (L2.upd H3 q (.lst [.non, .int (x - 1)])) p (.lst (ks.map kindV ++ [kindV o]))) b = some (.lst (l2.map V.int)) ∧ Kp (fun x => x = b) H (L2.upd (L2.upd H3 q (.lst [.non, .int (x - 1)])) p (.lst (ks.map kindV ++ [kindV o])))) := by
      intro o ho _
      refine ⟨sz_lt1 (by omega), ks ++ [o], l3, _, _, rfl, by simp; omega, wf.snoc ho, by rw [upd_same, List.map_append]; rfl, by rw [upd_ne pb.symm, upd_ne bq]; exact hb4, ?_⟩
      exact ((kp2.trans kp3).trans (Kp.new hq)).late hp
    refine ⟨_, rfl, _, _, rfl, rfl, .inr ⟨_, rfl, ?_⟩⟩
    by_cases hx : 0 < x
    · have e1 : (if decide ((0 : Int) < x) = true then (1 : Int) else 0) = 1 := by rw [if_pos (decide_eq_true hx)]
      rw [e1]
      obtain ⟨z1, z2⟩ := fin (some (x - 1).toNat) (fun j e => by cases e; omega) (by decide)
      have e2 : V.int (x - 1) = kindV (some (x - 1).toNat) := by show V.int (x - 1) = V.int ((x - 1).toNat : Int); rw [Int.toNat_of_nonneg (by omega)]
      refine ⟨q, _, 1, .int (x - 1), rfl, rfl, SqL.of upd_same, atI_nat (j := 1) rfl, p, ks.map kindV, _, rfl, rfl, by rw [upd_ne pq]; exact hp3, by rw [List.length_map]; exact z1, ?_⟩
      rw [← e2] at z2
      exact z2
    · have e1 : (if decide ((0 : Int) < x) = true then (1 : Int) else 0) = 0 := by rw [if_neg (by rw [decide_eq_false hx]; decide)]
      rw [e1]
      obtain ⟨z1, z2⟩ := fin none (fun j e => by cases e) (by decide)
      exact ⟨q, _, 0, .non, rfl, rfl, SqL.of upd_same, atI_nat (j := 0) rfl, p, ks.map kindV, _, rfl, rfl, by rw [upd_ne pq]; exact hp3, by rw [List.length_map]; exact z1, z2⟩
  · rintro σ H2 ⟨ks, l2, v3, v4, rfl, hl, wf, hp2, hb3, kp2⟩
    refine ⟨_, rfl, p, _, rfl, .inl ⟨SqL.of hp2, fun q hq => ?_⟩⟩
    have bq : b ≠ q := ne_of_none hb3 hq
    exact k q ks l2 _ wf (by omega) (by omega) upd_same (kp2.free hq fun e => bq e.symm) (by rw [upd_ne bq]; exact hb3) (kp2.trans (Kp.new hq))
/-! ### above, under -/
/-- the kinds that one comes to by going up -/
def chain (ks : List (Option Nat)) : Nat → Nat → List Nat
  | 0, _ => []
  | f + 1, k => k :: (match ks[k]? with
    | some (some j) => chain ks f j
    | _ => [])
theorem chain_fuel {ks : List (Option Nat)} (w : WfK ks) : ∀ (f g k : Nat), k < f → k < g → chain ks f k = chain ks g k
  | 0, _, _, h, _ => absurd h (Nat.not_lt_zero _)
  | _, 0, _, _, h => absurd h (Nat.not_lt_zero _)
  | f + 1, g + 1, k, hf, hg => by
    unfold chain
    cases e : ks[k]? with
    | none => rfl
    | some o =>
      cases o with
      | none => rfl
      | some j =>
        have := w k j e
        show k :: chain ks f j = k :: chain ks g j
        rw [chain_fuel w f g j (by omega) (by omega)]
/-- kind k is other, or lies under it -/
def under (ks : List (Option Nat)) (k o : Nat) : Bool := decide (o ∈ chain ks (k + 1) k)
theorem under_eq {ks : List (Option Nat)} (w : WfK ks) (k o : Nat) : under ks k o = (decide (k = o) || match ks[k]? with
    | some (some j) => under ks j o
    | _ => false) := by
  unfold under
  conv => lhs; unfold chain
  cases e : ks[k]? with
  | none => simp [eq_comm]
  | some q =>
    cases q with
    | none => simp [eq_comm]
    | some j =>
      have := w k j e
      show decide (o ∈ k :: chain ks k j) = (decide (k = o) || decide (o ∈ chain ks (j + 1) j))
      rw [chain_fuel w k (j + 1) j (by omega) (by omega)]
      simp [eq_comm]
/-- under(kinds, kind, other): kinds at a -/
def spUnder (K : PySem.W.Frag) : Sp := fun vs H Q _ => ∃ (a : Addr) (ks : List (Option Nat)) (k o : Nat), vs = [.ref a, .int (k : Int), .int (o : Int)] ∧ SqT K H a (ks.map kindV) ∧ WfK ks ∧ k < ks.length ∧ Q (.bl (under ks k o)) H
abbrev N_under : List Str := ["kinds", "kind", "other"]
theorem rd_under {K : PySem.W.Frag} (vs : List V) (H : Hp) (Q : VK) (E : XK) (h : spUnder K vs H Q E) : t_under K { nx := fun _ H' => Q .non H', rt := Q } (start N_under vs) H := by
  obtain ⟨a, ks, k, o, rfl, hS, wf, hk, q⟩ := h
  refine ⟨fun m σ H' => H' = H ∧ ∃ c : Option Nat, σ = [some (.ref a), some (kindV c), some (.int (o : Int))] ∧ (∀ j, c = some j → j < ks.length ∧ under ks j o = under ks k o) ∧ (c = none → under ks k o = false) ∧ m = (match c with
      | some j => j + 1
      | none => 0), ⟨_, rfl, some k, rfl, (fun j e => by cases e; exact ⟨hk, rfl⟩), (fun e => by cases e), rfl⟩, ?_⟩
  rintro m σ H' ⟨rfl, c, rfl, h1, h2, rfl⟩
  refine ⟨_, rfl, rfl, _, rfl, ?_⟩
  cases c with
  | none =>
    refine ifF rfl (ifF rfl ?_)
    refine ⟨_, rfl, rfl, ?_⟩
    show Q (.bl (!decide (V.non = V.non))) H'
    rw [dT rfl, ← show under ks k o = !true from h2 rfl]
    exact q
  | some j =>
    obtain ⟨hj, ej⟩ := h1 j rfl
    refine ifT rfl ⟨_, rfl, _, rfl, rfl, _, rfl, ?_⟩
    refine ifB (fun e => ?_) (fun e => ?_)
    · have ne : j ≠ o := fun z => by
        rw [z] at e
        simp [kindV] at e
      cases e2 : ks[j]? with
      | none => exact absurd (List.getElem?_eq_none_iff.mp e2) (by omega)
      | some d =>
        refine ⟨fun σ' H2 => ∃ m', m' < j + 1 ∧ (H2 = H' ∧ ∃ c : Option Nat, σ' = [some (.ref a), some (kindV c), some (.int (o : Int))] ∧ (∀ j, c = some j → j < ks.length ∧ under ks j o = under ks k o) ∧ (c = none → under ks k o = false) ∧ m' = (match c with
          | some j => j + 1
          | none => 0)), fun _ _ z => z, ?_⟩
        have eu := under_eq wf j o
        rw [ej, e2, decide_eq_false ne, Bool.false_or] at eu
        refine ⟨_, rfl, _, rfl, a, _, _, kindV d, rfl, rfl, hS, atI_nat (j := j) (by rw [List.getElem?_map, e2]; rfl), ?_⟩
        cases d with
        | none => exact ⟨0, by omega, rfl, none, rfl, (fun _ z => by cases z), (fun _ => eu), rfl⟩
        | some d =>
          have := wf j d e2
          exact ⟨d + 1, by omega, rfl, some d, rfl, (fun _ z => by cases z; exact ⟨by omega, eu.symm⟩), (fun z => by cases z), rfl⟩
    · have eo : j = o := by
        simp [kindV] at e
        omega
      subst eo
      have eu := under_eq wf j j
      rw [ej, dT rfl, Bool.true_or] at eu
      refine ⟨_, rfl, rfl, ?_⟩
      show Q (.bl (!decide (kindV (some j) = V.non))) H'
      rw [dF (by intro z; cases z)]
      rw [eu] at q
      exact q
/-- _law_above(kinds, kind) -/
def spAbove (K : PySem.W.Frag) : Sp := fun vs H Q _ => ∃ (a : Addr) (ks : List (Option Nat)) (k : Nat), vs = [.ref a, .int (k : Int)] ∧ SqT K H a (ks.map kindV) ∧ WfK ks ∧ k < ks.length ∧ ks.length ≤ 1000 ∧
  ∀ (r : Addr) (row : List Nat) (H' : Hp), (∀ o, o ∈ row ↔ under ks k o = true) → H r = none → H' r = some (.lst (row.map fun n : Nat => V.int (n : Int))) → Same H H' → Q (.ref r) H'
abbrev N_law_above : List Str := ["_law_kinds_here", "_law_kind", "_law_row", "_law_k", "_law_last"]
theorem rd_above {K : PySem.W.Frag} (vs : List V) (H : Hp) (Q : VK) (E : XK) (h : spAbove K vs H Q E) : t_law_above K { nx := fun _ H' => Q .non H', rt := Q } (start N_law_above vs) H := by
  obtain ⟨a, ks, k, rfl, hS, wf, hk, hz, q⟩ := h
  refine ⟨_, rfl, (by show (1 : Nat) ≤ sizeLine; decide), fun p hp => ?_⟩
  have s0 : ∀ {o : HO}, Same H (L2.upd H p o) := fun b u e => by rw [upd_ne (ne_of_none e hp)]; exact e
  refine ⟨_, rfl, a, _, rfl, .inr (s0.sqT hS), _, rfl, by omega, by rw [List.length_map]; omega, ?_⟩
  rw [List.length_map, Int.toNat_natCast]
  refine for_range (lo := 0) (n := ks.length) (fun i σ H2 => ∃ (row : List Nat) (c : Nat) (v3 v4 : Option V), σ = [some (.ref a), some (.int (k : Int)), some (.ref p), v3, v4] ∧
      H2 p = some (.lst ((row ++ [c]).map fun n : Nat => V.int (n : Int))) ∧ Same H H2 ∧ c < ks.length ∧ row.length ≤ i ∧ (∀ o, under ks k o = true ↔ (o ∈ row ∨ under ks c o = true)) ∧ (ks[c]? = some none ∨ c + i < ks.length))
    ⟨[], k, none, none, rfl, upd_same, s0, hk, Nat.le_refl _, by simp, .inr (by omega)⟩ ?_ ?_
  · rintro i σ H2 hi ⟨row, c, v3, v4, rfl, hp2, s2, hc, hl, hu, ht⟩
    have hp2' : H2 p = some (.lst (row.map (fun n : Nat => V.int (n : Int)) ++ [V.int (c : Int)])) := by rw [hp2, List.map_append]; rfl
    cases e : ks[c]? with
    | none => exact absurd (List.getElem?_eq_none_iff.mp e) (by omega)
    | some d =>
      refine ⟨_, rfl, _, rfl, _, rfl, p, _, -1, .int (c : Int), rfl, rfl, SqL.of hp2', atI_last _ _, a, _, _, kindV d, rfl, rfl, s2.sqT hS, atI_nat (j := c) (by rw [List.getElem?_map, e]; rfl), ?_⟩
      refine ⟨_, rfl, rfl, _, rfl, ?_⟩
      have eu := fun o => under_eq wf c o
      cases d with
      | none =>
        refine ifF rfl ?_
        exact ⟨row, c, _, _, rfl, hp2, s2, hc, by omega, hu, .inl e⟩
      | some d =>
        have hd := wf c d e
        refine ifT rfl ⟨_, rfl, .inl ⟨rfl, _, SqL.of hp2⟩, _, rfl, p, _, _, rfl, rfl, hp2, sz_lt1 (by simp; omega), ?_⟩
        refine ⟨row ++ [c], d, _, _, rfl, by rw [upd_same]; simp [kindV], fun b u z => by rw [upd_ne (ne_of_none z hp)]; exact s2 b u z, by omega, by simp; omega, fun o => ?_, ?_⟩
        · have e1 := eu o
          rw [e] at e1
          rw [hu o, e1]
          simp only [Bool.or_eq_true, decide_eq_true_eq, List.mem_append, List.mem_singleton]
          constructor
          · rintro (z | z | z)
            · exact .inl (.inl z)
            · exact .inl (.inr z.symm)
            · exact .inr z
          · rintro ((z | z) | z)
            · exact .inl z
            · exact .inr (.inl z.symm)
            · exact .inr (.inr z)
        · rcases ht with ht | ht
          · rw [e] at ht; cases ht
          · exact .inr (by omega)
  · rintro σ H2 ⟨row, c, v3, v4, rfl, hp2, s2, hc, hl, hu, ht⟩
    have hroot : ks[c]? = some none := by
      rcases ht with ht | ht
      · exact ht
      · omega
    refine ⟨_, rfl, q p (row ++ [c]) H2 (fun o => ?_) hp hp2 s2⟩
    have eu := under_eq wf c o
    rw [hroot] at eu
    rw [hu o, eu]
    simp only [Bool.or_false, decide_eq_true_eq, List.mem_append, List.mem_singleton, eq_comm (a := o)]
end Lp

/-! Ld: data that is tuples throughout, and stays; expressions. -/
namespace Lp
open PySem PySem.Spec PyProof.Rows L2

/-! ### what stays by itself: tuples, and what is locked -/
structure Tk (H H' : Hp) : Prop where
  tup : ∀ a xs, H a = some (.tup xs) → H' a = some (.tup xs)
  frz : ∀ a o u, H a = some (.frz o u) → H' a = some (.frz o u)
theorem Tk.refl (H : Hp) : Tk H H := ⟨fun _ _ h => h, fun _ _ _ h => h⟩
theorem Tk.trans {H H1 H2 : Hp} (a : Tk H H1) (b : Tk H1 H2) : Tk H H2 := ⟨fun x xs h => b.tup x xs (a.tup x xs h), fun x o u h => b.frz x o u (a.frz x o u h)⟩
theorem Tk.same {H H' : Hp} (s : Same H H') : Tk H H' := ⟨fun a _ h => s a _ h, fun a _ _ h => s a _ h⟩
theorem Tk.new {H : Hp} {p : Addr} {o : HO} (h : H p = none) : Tk H (upd H p o) := ⟨fun a xs e => by rw [upd_ne (ne_of_none e h)]; exact e, fun a o u e => by rw [upd_ne (ne_of_none e h)]; exact e⟩
theorem Tk.lst {H : Hp} {p : Addr} {xs : List V} {o : HO} (h : H p = some (.lst xs)) : Tk H (upd H p o) :=
  ⟨fun a ys e => by rw [upd_ne (ne_of e h (by intro z; cases z))]; exact e, fun a o u e => by rw [upd_ne (ne_of e h (by intro z; cases z))]; exact e⟩
theorem Tk.ins {H : Hp} {p C dx : Addr} {fs : List (Str × V)} {o : HO} (h : H p = some (.ins C dx fs)) : Tk H (upd H p o) :=
  ⟨fun a ys e => by rw [upd_ne (ne_of e h (by intro z; cases z))]; exact e, fun a o u e => by rw [upd_ne (ne_of e h (by intro z; cases z))]; exact e⟩
/-- of a change of listed things that are lists or instances -/
theorem Kp.tk {B : Addr → Prop} {H H' : Hp} (k : Kp B H H') (nt : NoTup B H) : Tk H H' :=
  ⟨fun a xs e => k a _ e fun z => by obtain ⟨u, e2, n, _⟩ := nt a z; rw [e] at e2; cases e2; exact n _ rfl, fun a o u e => k a _ e fun z => by obtain ⟨v, e2, _, n⟩ := nt a z; rw [e] at e2; cases e2; exact n _ _ rfl⟩
theorem noTup1 {H : Hp} {b : Addr} {xs : List V} (h : H b = some (.lst xs)) : NoTup (fun x => x = b) H := fun a e => by
  cases (show a = b from e)
  exact ⟨.lst xs, h, (fun _ z => by cases z), (fun _ _ z => by cases z)⟩
theorem Kp.tk1 {H H' : Hp} {b : Addr} {xs : List V} (k : Kp (fun x => x = b) H H') (h : H b = some (.lst xs)) : Tk H H' := k.tk (noTup1 h)
theorem Tk.sqT {K : PySem.W.Frag} {H H' : Hp} {a : Addr} {xs : List V} (k : Tk H H') (h : SqT K H a xs) : SqT K H' a xs := by
  rcases h with (h | ⟨o, h⟩) | h
  · exact .inl (.inl (k.tup _ _ h))
  · exact .inl (.inr ⟨o, k.frz _ _ _ h⟩)
  · exact .inr h

/-! ### data of tuples -/
mutual
inductive Tp (K : PySem.W.Frag) (H : Hp) : V → PyData → Prop
  | non : Tp K H .non .none
  | bl (b : Bool) : Tp K H (.bl b) (.bool b)
  | int (i : Int) : Tp K H (.int i) (.int i)
  | str (x : Str) : Tp K H (.str x) (.str x)
  | tup {a : Addr} {xs : List V} {ds : List PyData} : SqT K H a xs → TpAll K H xs ds → Tp K H (.ref a) (.tuple ds)
inductive TpAll (K : PySem.W.Frag) (H : Hp) : List V → List PyData → Prop
  | nil : TpAll K H [] []
  | cons {v : V} {vs : List V} {d : PyData} {ds : List PyData} : Tp K H v d → TpAll K H vs ds → TpAll K H (v :: vs) (d :: ds)
end
section
variable {K : PySem.W.Frag} {H H' : Hp}
mutual
theorem Tp.tk (k : Tk H H') : ∀ (d : PyData) (v : V), Tp K H v d → Tp K H' v d
  | .none, _, h => by cases h; exact .non
  | .bool _, _, h => by cases h; exact .bl _
  | .int _, _, h => by cases h; exact .int _
  | .str _, _, h => by cases h; exact .str _
  | .tuple ds, _, h => by
    cases h with
    | tup hs ha => exact .tup (k.sqT hs) (TpAll.tk k ds _ ha)
  | .list _, _, h => by cases h
  | .dict _, _, h => by cases h
theorem TpAll.tk (k : Tk H H') : ∀ (ds : List PyData) (vs : List V), TpAll K H vs ds → TpAll K H' vs ds
  | [], _, h => by cases h; exact .nil
  | d :: ds, _, h => by
    cases h with
    | cons h1 h2 => exact .cons (Tp.tk k d _ h1) (TpAll.tk k ds _ h2)
end
mutual
theorem Tp.dp : ∀ (d : PyData) (v : V), Tp K H v d → Dp K H v d
  | .none, _, h => by cases h; exact .non
  | .bool _, _, h => by cases h; exact .bl _
  | .int _, _, h => by cases h; exact .int _
  | .str _, _, h => by cases h; exact .str _
  | .tuple ds, _, h => by
    cases h with
    | tup hs ha => exact .tup hs (TpAll.dp ds _ ha)
  | .list _, _, h => by cases h
  | .dict _, _, h => by cases h
theorem TpAll.dp : ∀ (ds : List PyData) (vs : List V), TpAll K H vs ds → DpAll K H vs ds
  | [], _, h => by cases h; exact .nil
  | d :: ds, _, h => by
    cases h with
    | cons h1 h2 => exact .cons (Tp.dp d _ h1) (TpAll.dp ds _ h2)
end
theorem Tp.mono {v : V} {d : PyData} (h : Tp K H v d) (k : Tk H H') : Tp K H' v d := Tp.tk k d v h
theorem TpAll.mono {vs : List V} {ds : List PyData} (h : TpAll K H vs ds) (k : Tk H H') : TpAll K H' vs ds := TpAll.tk k ds vs h
theorem Tp.intE {v : V} {i : Int} (h : Tp K H v (.int i)) : v = .int i := by cases h; rfl
theorem Tp.strE {v : V} {x : Str} (h : Tp K H v (.str x)) : v = .str x := by cases h; rfl
theorem Tp.nonE {v : V} (h : Tp K H v .none) : v = .non := by cases h; rfl
theorem Tp.tupE {v : V} {ds : List PyData} (h : Tp K H v (.tuple ds)) : ∃ a xs, v = .ref a ∧ SqT K H a xs ∧ TpAll K H xs ds := by
  cases h with
  | tup hs ha => exact ⟨_, _, rfl, hs, ha⟩
theorem TpAll.nilE {vs : List V} (h : TpAll K H vs []) : vs = [] := by cases h; rfl
theorem TpAll.consE {vs : List V} {d : PyData} {ds : List PyData} (h : TpAll K H vs (d :: ds)) : ∃ v r, vs = v :: r ∧ Tp K H v d ∧ TpAll K H r ds := by
  cases h with
  | cons h1 h2 => exact ⟨_, _, rfl, h1, h2⟩
theorem TpAll.length : ∀ {vs : List V} {ds : List PyData}, TpAll K H vs ds → vs.length = ds.length
  | _, [], h => by cases h; rfl
  | _, d :: ds, h => by
    cases h with
    | cons h1 h2 => simp [h2.length]
theorem TpAll.get : ∀ {vs : List V} {ds : List PyData} {i : Nat} {v : V}, TpAll K H vs ds → vs[i]? = some v → ∃ d, ds[i]? = some d ∧ Tp K H v d
  | _, [], i, v, h, e => by cases h; simp at e
  | _, d :: ds, 0, v, h, e => by
    cases h with
    | cons h1 h2 => simp at e; subst e; exact ⟨d, rfl, h1⟩
  | _, d :: ds, i + 1, v, h, e => by
    cases h with
    | cons h1 h2 =>
      obtain ⟨d', e', t⟩ := h2.get (i := i) (v := v) (by simpa using e)
      exact ⟨d', by simpa using e', t⟩
theorem TpAll.get' : ∀ {vs : List V} {ds : List PyData} {i : Nat} {d : PyData}, TpAll K H vs ds → ds[i]? = some d → ∃ v, vs[i]? = some v ∧ Tp K H v d
  | _, [], i, d, h, e => by simp at e
  | _, d0 :: ds, 0, d, h, e => by
    cases h with
    | cons h1 h2 => simp at e; subst e; exact ⟨_, rfl, h1⟩
  | _, d0 :: ds, i + 1, d, h, e => by
    cases h with
    | cons h1 h2 =>
      obtain ⟨v, e', t⟩ := h2.get' (i := i) (d := d) (by simpa using e)
      exact ⟨v, by simpa using e', t⟩
theorem TpAll.snoc : ∀ {vs : List V} {ds : List PyData} {v : V} {d : PyData}, TpAll K H vs ds → Tp K H v d → TpAll K H (vs ++ [v]) (ds ++ [d])
  | _, [], v, d, h, t => by cases h; exact .cons t .nil
  | _, d0 :: ds, v, d, h, t => by
    cases h with
    | cons h1 h2 => exact .cons h1 (h2.snoc t)
theorem TpAll.app : ∀ {vs us : List V} {ds es : List PyData}, TpAll K H vs ds → TpAll K H us es → TpAll K H (vs ++ us) (ds ++ es)
  | _, _, [], _, h, t => by cases h; exact t
  | _, _, d0 :: ds, _, h, t => by
    cases h with
    | cons h1 h2 => exact .cons h1 (h2.app t)
/-- two, three, four, five places -/
theorem Tp.tup1 {v : V} {d0 : PyData} (h : Tp K H v (.tuple [d0])) : ∃ a x0, v = .ref a ∧ SqT K H a [x0] ∧ Tp K H x0 d0 := by
  obtain ⟨a, xs, rfl, hs, ha⟩ := h.tupE
  obtain ⟨x0, r0, rfl, h0, ha⟩ := ha.consE
  cases ha.nilE
  exact ⟨a, x0, rfl, hs, h0⟩
theorem Tp.tup2 {v : V} {d0 d1 : PyData} (h : Tp K H v (.tuple [d0, d1])) : ∃ a x0 x1, v = .ref a ∧ SqT K H a [x0, x1] ∧ Tp K H x0 d0 ∧ Tp K H x1 d1 := by
  obtain ⟨a, xs, rfl, hs, ha⟩ := h.tupE
  obtain ⟨x0, r0, rfl, h0, ha⟩ := ha.consE
  obtain ⟨x1, r1, rfl, h1, ha⟩ := ha.consE
  cases ha.nilE
  exact ⟨a, x0, x1, rfl, hs, h0, h1⟩
theorem Tp.tup3 {v : V} {d0 d1 d2 : PyData} (h : Tp K H v (.tuple [d0, d1, d2])) : ∃ a x0 x1 x2, v = .ref a ∧ SqT K H a [x0, x1, x2] ∧ Tp K H x0 d0 ∧ Tp K H x1 d1 ∧ Tp K H x2 d2 := by
  obtain ⟨a, xs, rfl, hs, ha⟩ := h.tupE
  obtain ⟨x0, r0, rfl, h0, ha⟩ := ha.consE
  obtain ⟨x1, r1, rfl, h1, ha⟩ := ha.consE
  obtain ⟨x2, r2, rfl, h2, ha⟩ := ha.consE
  cases ha.nilE
  exact ⟨a, x0, x1, x2, rfl, hs, h0, h1, h2⟩
theorem Tp.tup4 {v : V} {d0 d1 d2 d3 : PyData} (h : Tp K H v (.tuple [d0, d1, d2, d3])) : ∃ a x0 x1 x2 x3, v = .ref a ∧ SqT K H a [x0, x1, x2, x3] ∧ Tp K H x0 d0 ∧ Tp K H x1 d1 ∧ Tp K H x2 d2 ∧ Tp K H x3 d3 := by
  obtain ⟨a, xs, rfl, hs, ha⟩ := h.tupE
  obtain ⟨x0, r0, rfl, h0, ha⟩ := ha.consE
  obtain ⟨x1, r1, rfl, h1, ha⟩ := ha.consE
  obtain ⟨x2, r2, rfl, h2, ha⟩ := ha.consE
  obtain ⟨x3, r3, rfl, h3, ha⟩ := ha.consE
  cases ha.nilE
  exact ⟨a, x0, x1, x2, x3, rfl, hs, h0, h1, h2, h3⟩
theorem Tp.tup5 {v : V} {d0 d1 d2 d3 d4 : PyData} (h : Tp K H v (.tuple [d0, d1, d2, d3, d4])) : ∃ a x0 x1 x2 x3 x4, v = .ref a ∧ SqT K H a [x0, x1, x2, x3, x4] ∧ Tp K H x0 d0 ∧ Tp K H x1 d1 ∧ Tp K H x2 d2 ∧ Tp K H x3 d3 ∧ Tp K H x4 d4 := by
  obtain ⟨a, xs, rfl, hs, ha⟩ := h.tupE
  obtain ⟨x0, r0, rfl, h0, ha⟩ := ha.consE
  obtain ⟨x1, r1, rfl, h1, ha⟩ := ha.consE
  obtain ⟨x2, r2, rfl, h2, ha⟩ := ha.consE
  obtain ⟨x3, r3, rfl, h3, ha⟩ := ha.consE
  obtain ⟨x4, r4, rfl, h4, ha⟩ := ha.consE
  cases ha.nilE
  exact ⟨a, x0, x1, x2, x3, x4, rfl, hs, h0, h1, h2, h3, h4⟩
/-- a new tuple -/
theorem Tp.mk {p : Addr} {xs : List V} {ds : List PyData} (hp : H p = none) (h : TpAll K H xs ds) : Tp K (upd H p (.tup xs)) (.ref p) (.tuple ds) := .tup (.inl (.inl upd_same)) (h.mono (Tk.new hp))
end

/-! ### expressions -/
inductive BOp where | add | sub | mul | less
  deriving DecidableEq
def BOp.s : BOp → Str
  | .add => "add" | .sub => "sub" | .mul => "mul" | .less => "less"
def BOp.ap : BOp → Int → Int → Int
  | .add, i, j => (i + j) % 10007
  | .sub, i, j => (i - j) % 10007
  | .mul, i, j => i * j % 10007
  | .less, i, j => if i < j then 1 else 0
inductive Ex where
  | num (n : Int)
  | var (k : Nat)
  | bin (o : BOp) (a b : Ex)
  deriving DecidableEq
def Ex.d : Ex → PyData
  | .num n => .tuple [.str "num", .int n]
  | .var k => .tuple [.str "var", .int (k : Int)]
  | .bin o a b => .tuple [.str o.s, a.d, b.d]
def Ex.val (σ : List Int) : Ex → Int
  | .num n => n
  | .var k => σ.getD k 0
  | .bin o a b => o.ap (a.val σ) (b.val σ)
def Ex.Wf : Ex → Prop
  | .num n => 0 ≤ n ∧ n < 1000
  | .var k => k < 8
  | .bin _ a b => a.Wf ∧ b.Wf
def Ex.dep : Ex → Nat
  | .num _ => 1
  | .var _ => 1
  | .bin _ a b => max a.dep b.dep + 1
/-- eight numbers from 0 to 10006 -/
def InR (σ : List Int) : Prop := σ.length = 8 ∧ ∀ n ∈ σ, 0 ≤ n ∧ n < 10007
theorem BOp.ap_in (o : BOp) (i j : Int) : 0 ≤ o.ap i j ∧ o.ap i j < 10007 := by
  cases o with
  | less => unfold BOp.ap; split <;> omega
  | _ => exact ⟨Int.emod_nonneg _ (by decide), Int.emod_lt_of_pos _ (by decide)⟩
theorem Ex.val_in {σ : List Int} (r : InR σ) : ∀ {e : Ex}, e.Wf → 0 ≤ e.val σ ∧ e.val σ < 10007
  | .num n, w => by
    have : 0 ≤ n ∧ n < 1000 := w
    show 0 ≤ n ∧ n < 10007
    omega
  | .var k, w => by
    have hk : k < σ.length := by rw [r.1]; exact w
    show 0 ≤ σ.getD k 0 ∧ σ.getD k 0 < 10007
    rw [List.getD_eq_getElem?_getD, List.getElem?_eq_getElem hk]
    exact r.2 _ (List.getElem_mem hk)
  | .bin o a b, _ => o.ap_in _ _
theorem BOp.ne {o : BOp} : (V.str o.s ≠ V.str "num") ∧ (V.str o.s ≠ V.str "var") := by cases o <;> decide
end Lp

/-! L2v: values of expressions: joined, value_of, the law's own, and its drawing of expressions. -/
namespace Lp
open PySem PySem.Spec PyProof.Rows L2
def t_joined (K : PySem.W.Frag) : TS :=
  tSeq (tIfS (tTest (tOp rEq (tVar 0) (tC (.str "add")))) (tRet (tOp rMdI (tOp rAdI (tVar 1) (tVar 2)) (tC (.int 10007)))) (tNext)) (tSeq (tIfS (tTest (tOp rEq (tVar 0) (tC (.str "sub")))) (tRet (tOp rMdI (tOp rSbI (tVar 1) (tVar 2)) (tC (.int 10007)))) (tNext)) (tSeq (tIfS (tTest (tOp rEq (tVar 0) (tC (.str "mul")))) (tRet (tOp rMdI (tOp rMlI (tVar 1) (tVar 2)) (tC (.int 10007)))) (tNext)) (tRet (tCB rInt1 (tCons (tOp rLt (tVar 1) (tVar 2)) (tNil))))))

def t_value_of (K : PySem.W.Frag) (sp_joined : Sp) (sp_value_of : Sp) : TS :=
  tSeq (tIfS (tTest (tOp rEq (tOp (rIxT K) (tVar 0) (tC (.int 0))) (tC (.str "num")))) (tRet (tOp (rIxT K) (tVar 0) (tC (.int 1)))) (tNext)) (tSeq (tIfS (tTest (tOp rEq (tOp (rIxT K) (tVar 0) (tC (.int 0))) (tC (.str "var")))) (tRet (tOp (rIxL K) (tVar 1) (tOp (rIxT K) (tVar 0) (tC (.int 1))))) (tNext)) (tRet (tCall sp_joined [] E0 (tCons (tOp (rIxT K) (tVar 0) (tC (.int 0))) (tCons (tCall sp_value_of [] E0 (tCons (tOp (rIxT K) (tVar 0) (tC (.int 1))) (tCons (tVar 1) (tNil)))) (tCons (tCall sp_value_of [] E0 (tCons (tOp (rIxT K) (tVar 0) (tC (.int 2))) (tCons (tVar 1) (tNil)))) (tNil)))))))

def t_law_part (K : PySem.W.Frag) (sp_law_take : Sp) (sp_law_part : Sp) : TS :=
  tSeq (tAsg (tCall sp_law_take [] E0 (tCons (tVar 0) (tCons (tC (.int 8)) (tNil)))) (gName 2)) (tSeq (tIfS (tTest (tOp rLt (tVar 2) (tC (.int 2)))) (tRet (tTup (tCons (tC (.str "num")) (tCons (tCall sp_law_take [] E0 (tCons (tVar 0) (tCons (tC (.int 1000)) (tNil)))) (tNil))))) (tNext)) (tSeq (tIfS (tOr (tTest (tOp rEq (tVar 1) (tC (.int 0)))) (tTest (tOp rEq (tVar 2) (tC (.int 2))))) (tRet (tTup (tCons (tC (.str "num")) (tCons (tCall sp_law_take [] E0 (tCons (tVar 0) (tCons (tC (.int 3)) (tNil)))) (tNil))))) (tNext)) (tSeq (tIfS (tTest (tOp rLt (tVar 2) (tC (.int 5)))) (tRet (tTup (tCons (tC (.str "var")) (tCons (tCall sp_law_take [] E0 (tCons (tVar 0) (tCons (tC (.int 8)) (tNil)))) (tNil))))) (tNext)) (tSeq (tAsg (tOp (rIxL K) (tLst (tCons (tC (.str "add")) (tCons (tC (.str "sub")) (tCons (tC (.str "mul")) (tCons (tC (.str "less")) (tNil)))))) (tCall sp_law_take [] E0 (tCons (tVar 0) (tCons (tC (.int 4)) (tNil))))) (gName 3)) (tSeq (tAsg (tCall sp_law_part [] E0 (tCons (tVar 0) (tCons (tOp rSbI (tVar 1) (tC (.int 1))) (tNil)))) (gName 4)) (tRet (tTup (tCons (tVar 3) (tCons (tVar 4) (tCons (tCall sp_law_part [] E0 (tCons (tVar 0) (tCons (tOp rSbI (tVar 1) (tC (.int 1))) (tNil)))) (tNil)))))))))))

def t_law_value (K : PySem.W.Frag) (sp_law_value : Sp) : TS :=
  tSeq (tAsg (tOp (rIxT K) (tVar 0) (tC (.int 0))) (gName 2)) (tSeq (tIfS (tTest (tOp rEq (tVar 2) (tC (.str "num")))) (tRet (tOp (rIxT K) (tVar 0) (tC (.int 1)))) (tNext)) (tSeq (tIfS (tTest (tOp rEq (tVar 2) (tC (.str "var")))) (tRet (tOp (rIxL K) (tVar 1) (tOp (rIxT K) (tVar 0) (tC (.int 1))))) (tNext)) (tSeq (tAsg (tCall sp_law_value [] E0 (tCons (tOp (rIxT K) (tVar 0) (tC (.int 1))) (tCons (tVar 1) (tNil)))) (gName 3)) (tSeq (tAsg (tCall sp_law_value [] E0 (tCons (tOp (rIxT K) (tVar 0) (tC (.int 2))) (tCons (tVar 1) (tNil)))) (gName 4)) (tSeq (tIfS (tTest (tOp rEq (tVar 2) (tC (.str "less")))) (tRet (tCB rInt1 (tCons (tOp rLt (tVar 3) (tVar 4)) (tNil)))) (tNext)) (tSeq (tIfS (tTest (tOp rEq (tVar 2) (tC (.str "add")))) (tRet (tOp rMdI (tOp rAdI (tVar 3) (tVar 4)) (tC (.int 10007)))) (tNext)) (tSeq (tIfS (tTest (tOp rEq (tVar 2) (tC (.str "sub")))) (tRet (tOp rMdI (tOp rSbI (tOp rAdI (tVar 3) (tOp rMlI (tC (.int 10007)) (tC (.int 10007)))) (tVar 4)) (tC (.int 10007)))) (tNext)) (tRet (tOp rMdI (tOp rMlI (tVar 3) (tVar 4)) (tC (.int 10007)))))))))))

/-! ### items -/
section
variable {K : PySem.W.Frag} {σ : L2.St} {H : Hp} {i j : Nat} {p : Addr} {xs : List V} {v : V} {Q : VK}
theorem rd_ixT (hs : σ[i]? = some (some (.ref p))) (h : SqT K H p xs) (e : xs[j]? = some v) (q : Q v H) : tOp (rIxT K) (tVar i) (tC (.int (j : Int))) σ H Q := ⟨_, hs, p, xs, _, v, rfl, rfl, h, atI_nat e, q⟩
theorem rd_ixL (hs : σ[i]? = some (some (.ref p))) (h : SqL K H p xs) (e : xs[j]? = some v) (q : Q v H) : tOp (rIxL K) (tVar i) (tC (.int (j : Int))) σ H Q := ⟨_, hs, p, xs, _, v, rfl, rfl, h, atI_nat e, q⟩
end
section
variable {P : Program} {w : World} {K : PySem.W.Frag} {mg : Str → Option Value} {base : Heap} {j : Nat} {x m : Str} {C : Addr} {ps : List Str} {f : Addr} {fd : FuncData}
/-- a def that calls itself: at 0 it can't be asked -/
theorem FnOk.zero {k : Nat} {sp : Sp} (z : ∀ vs H Q E, ¬ sp vs H Q E) : FnOk P w K mg base CX0 k f fd ps sp :=
  ⟨fun vs H Q E h => absurd h (z vs H Q E), fun A outer s H args us vs Q E _ _ _ _ h => absurd h (z vs H Q E)⟩
theorem Cal.rec {sp : Nat → Sp} (b : Binds K fd ps []) (kp : PySem.W.keepIn K (.ref f) = true) (hm : mg x = some (.ref f)) (z : ∀ vs H Q E, ¬ sp 0 vs H Q E)
    (step : ∀ n, Cal P w K mg base (j + n) x ps (sp n) → FnOk P w K mg base CX0 (j + n + 1) f fd ps (sp (n + 1))) : ∀ n, Cal P w K mg base (j + n) x ps (sp n)
  | 0 => ⟨f, fd, FnOk.zero z, b, kp, hm⟩
  | n + 1 => ⟨f, fd, step n (Cal.rec b kp hm z step n), b, kp, hm⟩
end
section
variable {X : Cx} {x : Str} {i : Int} {z : Str} {pos : Pos}
theorem pgi (h : ∃ t, X.mg x = some (.int i t)) (hg : Gl X x := by rfl) (hd : (x == ("__debug__" : Str)) = false := by decide) : PE X (.Name x pos) (tC (.int i)) := by
  obtain ⟨t, e⟩ := h
  exact pe_glob hg e ⟨t, rfl⟩ hd
theorem pgs (h : ∃ t, X.mg x = some (.str z t)) (hg : Gl X x := by rfl) (hd : (x == ("__debug__" : Str)) = false := by decide) : PE X (.Name x pos) (tC (.str z)) := by
  obtain ⟨t, e⟩ := h
  exact pe_glob hg e ⟨t, rfl⟩ hd
end
theorem pos7 : (0 : Int) < 10007 := by decide
theorem cmul_small {i j : Int} (h : 0 ≤ i ∧ i < 100000000) : CMul i j := .inl ⟨by omega, by omega⟩

/-! ### tests that change nothing -/
def PB (t : TT) (σ : L2.St) (H : Hp) (c : Bool) : Prop := ∀ Q : Bool → Hp → Prop, Q c H → t σ H Q
section
variable {σ : L2.St} {H : Hp} {i j : Nat} {a c : Int} {x y : V} {u v : Bool} {t t' : TT} {s s' : TS} {D : Ends}
theorem pb_eqI (hs : σ[i]? = some (some (.int a))) : PB (tTest (tOp rEq (tVar i) (tC (.int c)))) σ H (decide (V.int a = V.int c)) := fun _ q => ⟨_, hs, rfl, _, rfl, q⟩
theorem pb_neI (hs : σ[i]? = some (some (.int a))) : PB (tTest (tOp rNe (tVar i) (tC (.int c)))) σ H (!decide (V.int a = V.int c)) := fun _ q => ⟨_, hs, rfl, _, rfl, q⟩
theorem pb_eqV {i j : Nat} (hs : σ[i]? = some (some x)) (ht : σ[j]? = some (some y)) (h : scal x y = true) : PB (tTest (tOp rEq (tVar i) (tVar j))) σ H (decide (x = y)) := fun _ q => ⟨_, hs, _, ht, h, _, rfl, q⟩
theorem pb_eqS {z w : Str} (hs : σ[i]? = some (some (.str z))) : PB (tTest (tOp rEq (tVar i) (tC (.str w)))) σ H (decide (V.str z = V.str w)) := fun _ q => ⟨_, hs, rfl, _, rfl, q⟩
theorem pb_neS {z w : Str} (hs : σ[i]? = some (some (.str z))) : PB (tTest (tOp rNe (tVar i) (tC (.str w)))) σ H (!decide (V.str z = V.str w)) := fun _ q => ⟨_, hs, rfl, _, rfl, q⟩
theorem pb_lt (hs : σ[i]? = some (some (.int a))) : PB (tTest (tOp rLt (tVar i) (tC (.int c)))) σ H (decide (a < c)) := fun _ q => ⟨_, hs, _, _, rfl, rfl, _, rfl, q⟩
theorem pb_var (hs : σ[i]? = some (some (.bl u))) : PB (tB (tVar i)) σ H u := fun _ q => ⟨_, hs, u, rfl, q⟩
theorem pb_and (h : PB t σ H u) (h' : PB t' σ H v) : PB (tAnd t t') σ H (u && v) := fun Q q => h _ (by
  cases u with
  | true => exact ifT rfl (h' _ q)
  | false => exact ifF rfl q)
theorem pb_or (h : PB t σ H u) (h' : PB t' σ H v) : PB (tOr t t') σ H (u || v) := fun Q q => h _ (by
  cases u with
  | true => exact ifT rfl q
  | false => exact ifF rfl (h' _ q))
theorem pb_not (h : PB t σ H u) : PB (tNot t) σ H (!u) := fun Q q => h _ q
theorem pb_is {w : Bool} (h : PB t σ H u) (e : u = w) : PB t σ H w := by rw [← e]; exact h
theorem r_if (h : PB t σ H u) (h1 : u = true → s D σ H) (h2 : u = false → s' D σ H) : tIfS t s s' D σ H := h _ (ifB h1 h2)
theorem r_ifT (h : PB t σ H true) (h1 : s D σ H) : tIfS t s s' D σ H := h _ (ifT rfl h1)
theorem r_ifF (h : PB t σ H false) (h1 : s' D σ H) : tIfS t s s' D σ H := h _ (ifF rfl h1)
end
/-! ### joined -/
def spJoined : Sp := fun vs H Q _ => ∃ (o : BOp) (i j : Int), vs = [.str o.s, .int i, .int j] ∧ 0 ≤ i ∧ i < 10007 ∧ 0 ≤ j ∧ j < 10007 ∧ Q (.int (o.ap i j)) H
abbrev N_joined : List Str := ["word", "one", "two"]
theorem rd_joined {K : PySem.W.Frag} (vs : List V) (H : Hp) (Q : VK) (E : XK) (h : spJoined vs H Q E) : t_joined K { nx := fun _ H' => Q .non H', rt := Q } (start N_joined vs) H := by
  obtain ⟨o, i, j, rfl, h1, h2, h3, h4, q⟩ := h
  cases o with
  | add =>
    refine ⟨_, rfl, rfl, _, rfl, ifT rfl ?_⟩
    exact ⟨_, rfl, _, rfl, _, _, rfl, rfl, _, _, rfl, rfl, pos7, q⟩
  | sub =>
    refine ⟨_, rfl, rfl, _, rfl, ifF rfl ⟨_, rfl, rfl, _, rfl, ifT rfl ?_⟩⟩
    exact ⟨_, rfl, _, rfl, _, _, rfl, rfl, _, _, rfl, rfl, pos7, q⟩
  | mul =>
    refine ⟨_, rfl, rfl, _, rfl, ifF rfl ⟨_, rfl, rfl, _, rfl, ifF rfl ⟨_, rfl, rfl, _, rfl, ifT rfl ?_⟩⟩⟩
    exact ⟨_, rfl, _, rfl, _, _, rfl, rfl, cmul_small ⟨by omega, by omega⟩, _, _, rfl, rfl, pos7, q⟩
  | less =>
    refine ⟨_, rfl, rfl, _, rfl, ifF rfl ⟨_, rfl, rfl, _, rfl, ifF rfl ⟨_, rfl, rfl, _, rfl, ifF rfl ?_⟩⟩⟩
    refine ⟨_, rfl, _, rfl, _, _, rfl, rfl, .inr ⟨_, rfl, ?_⟩⟩
    have e : (if decide (i < j) = true then (1 : Int) else 0) = BOp.less.ap i j := by
      show (if decide (i < j) = true then (1 : Int) else 0) = if i < j then 1 else 0
      by_cases c : i < j
      · rw [if_pos c, if_pos (dT c)]
      · rw [if_neg c, if_neg (by rw [dF c]; decide)]
    rw [e]
    exact q
/-! ### value_of -/
def spVal (K : PySem.W.Frag) (n : Nat) : Sp := fun vs H Q _ => ∃ (v : V) (s : Addr) (e : Ex) (σ : List Int), vs = [v, .ref s] ∧ Tp K H v e.d ∧ e.Wf ∧ e.dep ≤ n ∧ SqL K H s (σ.map V.int) ∧ InR σ ∧ Q (.int (e.val σ)) H
theorem spVal_zero {K : PySem.W.Frag} (vs : List V) (H : Hp) (Q : VK) (E : XK) : ¬ spVal K 0 vs H Q E := by
  rintro ⟨v, s, e, σ, _, _, _, h, _⟩
  cases e <;> simp [Ex.dep] at h
abbrev N_value_of : List Str := ["part", "slots"]
theorem slot_get {σ : List Int} {k : Nat} (r : InR σ) (h : k < 8) : (σ.map V.int)[k]? = some (.int (σ.getD k 0)) := by
  have hk : k < σ.length := by rw [r.1]; exact h
  rw [List.getElem?_map, List.getD_eq_getElem?_getD, List.getElem?_eq_getElem hk]
  rfl
theorem rd_value_of {K : PySem.W.Frag} {n : Nat} (vs : List V) (H : Hp) (Q : VK) (E : XK) (h : spVal K (n + 1) vs H Q E) : t_value_of K spJoined (spVal K n) { nx := fun _ H' => Q .non H', rt := Q } (start N_value_of vs) H := by
  obtain ⟨v, s, e, σ, rfl, ht, wf, hd, hs, hr, q⟩ := h
  cases e with
  | num k =>
    obtain ⟨a, x0, x1, rfl, hT, h0, h1⟩ := ht.tup2
    cases h0.strE; cases h1.intE
    refine rd_ixT (j := 0) rfl hT rfl ⟨rfl, _, rfl, ifT rfl ?_⟩
    exact rd_ixT (j := 1) rfl hT rfl q
  | var k =>
    obtain ⟨a, x0, x1, rfl, hT, h0, h1⟩ := ht.tup2
    cases h0.strE; cases h1.intE
    refine rd_ixT (j := 0) rfl hT rfl ⟨rfl, _, rfl, ifF rfl ?_⟩
    refine rd_ixT (j := 0) rfl hT rfl ⟨rfl, _, rfl, ifT rfl ?_⟩
    refine ⟨_, rfl, rd_ixT (j := 1) rfl hT rfl ⟨s, _, _, _, rfl, rfl, hs, atI_nat (slot_get hr wf), q⟩⟩
  | bin o e1 e2 =>
    obtain ⟨a, x0, x1, x2, rfl, hT, h0, h1, h2⟩ := ht.tup3
    cases h0.strE
    have hd' : max e1.dep e2.dep + 1 ≤ n + 1 := hd
    obtain ⟨w1, w2⟩ : e1.Wf ∧ e2.Wf := wf
    obtain ⟨a1, a2⟩ := Ex.val_in hr w1
    obtain ⟨b1, b2⟩ := Ex.val_in hr w2
    refine rd_ixT (j := 0) rfl hT rfl ⟨rfl, _, rfl, ifF (dF BOp.ne.1) ?_⟩
    refine rd_ixT (j := 0) rfl hT rfl ⟨rfl, _, rfl, ifF (dF BOp.ne.2) ?_⟩
    refine rd_ixT (j := 0) rfl hT rfl ?_
    refine rd_ixT (j := 1) rfl hT rfl ⟨_, rfl, x1, s, e1, σ, rfl, h1, w1, by omega, hs, hr, ?_⟩
    refine rd_ixT (j := 2) rfl hT rfl ⟨_, rfl, x2, s, e2, σ, rfl, h2, w2, by omega, hs, hr, ?_⟩
    exact ⟨o, _, _, rfl, a1, a2, b1, b2, q⟩
/-! ### _law_value -/
abbrev N_law_value : List Str := ["_law_part_here", "_law_slots", "_law_word", "_law_one", "_law_two"]
theorem rd_law_value {K : PySem.W.Frag} {n : Nat} (vs : List V) (H : Hp) (Q : VK) (E : XK) (h : spVal K (n + 1) vs H Q E) : t_law_value K (spVal K n) { nx := fun _ H' => Q .non H', rt := Q } (start N_law_value vs) H := by
  obtain ⟨v, s, e, σ, rfl, ht, wf, hd, hs, hr, q⟩ := h
  cases e with
  | num k =>
    obtain ⟨a, x0, x1, rfl, hT, h0, h1⟩ := ht.tup2
    cases h0.strE; cases h1.intE
    refine rd_ixT (j := 0) rfl hT rfl ⟨_, rfl, rfl, _, rfl, ifT rfl ?_⟩
    exact rd_ixT (j := 1) rfl hT rfl q
  | var k =>
    obtain ⟨a, x0, x1, rfl, hT, h0, h1⟩ := ht.tup2
    cases h0.strE; cases h1.intE
    refine rd_ixT (j := 0) rfl hT rfl ⟨_, rfl, rfl, _, rfl, ifF rfl ⟨_, rfl, rfl, _, rfl, ifT rfl ?_⟩⟩
    refine ⟨_, rfl, rd_ixT (j := 1) rfl hT rfl ⟨s, _, _, _, rfl, rfl, hs, atI_nat (slot_get hr wf), q⟩⟩
  | bin o e1 e2 =>
    obtain ⟨a, x0, x1, x2, rfl, hT, h0, h1, h2⟩ := ht.tup3
    cases h0.strE
    have hd' : max e1.dep e2.dep + 1 ≤ n + 1 := hd
    obtain ⟨w1, w2⟩ : e1.Wf ∧ e2.Wf := wf
    obtain ⟨a1, a2⟩ := Ex.val_in hr w1
    obtain ⟨b1, b2⟩ := Ex.val_in hr w2
    refine rd_ixT (j := 0) rfl hT rfl ⟨_, rfl, rfl, _, rfl, ifF (dF BOp.ne.1) ⟨_, rfl, rfl, _, rfl, ifF (dF BOp.ne.2) ?_⟩⟩
    refine rd_ixT (j := 1) rfl hT rfl ⟨_, rfl, x1, s, e1, σ, rfl, h1, w1, by omega, hs, hr, ?_⟩
    refine rd_ixT (j := 2) rfl hT rfl ⟨_, rfl, x2, s, e2, σ, rfl, h2, w2, by omega, hs, hr, ?_⟩
    cases o with
    | less =>
      refine ⟨_, rfl, rfl, _, rfl, ifT rfl ⟨_, rfl, _, rfl, _, _, rfl, rfl, .inr ⟨_, rfl, ?_⟩⟩⟩
      have e : (if decide (e1.val σ < e2.val σ) = true then (1 : Int) else 0) = BOp.less.ap (e1.val σ) (e2.val σ) := by
        show (if decide (e1.val σ < e2.val σ) = true then (1 : Int) else 0) = if e1.val σ < e2.val σ then 1 else 0
        by_cases c : e1.val σ < e2.val σ
        · rw [if_pos c, if_pos (dT c)]
        · rw [if_neg c, if_neg (by rw [dF c]; decide)]
      rw [e]
      exact q
    | add =>
      refine ⟨_, rfl, rfl, _, rfl, ifF rfl ⟨_, rfl, rfl, _, rfl, ifT rfl ?_⟩⟩
      exact ⟨_, rfl, _, rfl, _, _, rfl, rfl, _, _, rfl, rfl, pos7, q⟩
    | sub =>
      refine ⟨_, rfl, rfl, _, rfl, ifF rfl ⟨_, rfl, rfl, _, rfl, ifF rfl ⟨_, rfl, rfl, _, rfl, ifT rfl ?_⟩⟩⟩
      refine ⟨_, rfl, _, _, rfl, rfl, cmul_small ⟨by decide, by decide⟩, _, _, rfl, rfl, _, rfl, _, _, rfl, rfl, _, _, rfl, rfl, pos7, ?_⟩
      have e : (e1.val σ + 10007 * 10007 - e2.val σ) % 10007 = (e1.val σ - e2.val σ) % 10007 := by omega
      show Q (.int ((e1.val σ + 10007 * 10007 - e2.val σ) % 10007)) H
      rw [e]
      exact q
    | mul =>
      refine ⟨_, rfl, rfl, _, rfl, ifF rfl ⟨_, rfl, rfl, _, rfl, ifF rfl ⟨_, rfl, rfl, _, rfl, ifF rfl ?_⟩⟩⟩
      exact ⟨_, rfl, _, rfl, _, _, rfl, rfl, cmul_small ⟨by omega, by omega⟩, _, _, rfl, rfl, pos7, q⟩
/-! ### _law_part: some expression, as deep at the most -/
def spPart (K : PySem.W.Frag) (n : Nat) : Sp := fun vs H Q _ => ∃ (b : Addr) (l : List Int) (d : Nat), vs = [.ref b, .int (d : Int)] ∧ H b = some (.lst (l.map V.int)) ∧ d < n ∧
  ∀ (v : V) (e : Ex) (l' : List Int) (H' : Hp), e.Wf → e.dep ≤ d + 1 → Tp K H' v e.d → H' b = some (.lst (l'.map V.int)) → Kp (fun x => x = b) H H' → Q v H'
theorem spPart_zero {K : PySem.W.Frag} (vs : List V) (H : Hp) (Q : VK) (E : XK) : ¬ spPart K 0 vs H Q E := by
  rintro ⟨b, l, d, _, _, h, _⟩
  omega
abbrev N_law_part : List Str := ["_law_box", "_law_deep", "_law_kind", "_law_word", "_law_one"]
theorem bd {b : Addr} {d : Nat} (h : 0 < d) : [V.ref b, V.int ((d : Int) - 1)] = [V.ref b, V.int ((d - 1 : Nat) : Int)] := by
  rw [show ((d : Int) - 1) = ((d - 1 : Nat) : Int) by omega]
theorem opw {r : Int} (h0 : 0 ≤ r) (h4 : r < 4) : ∃ o : BOp, atI ([.str "add", .str "sub", .str "mul", .str "less"] : List V) r = some (.str o.s) := by
  have : r = 0 ∨ r = 1 ∨ r = 2 ∨ r = 3 := by omega
  rcases this with rfl | rfl | rfl | rfl
  · exact ⟨.add, rfl⟩
  · exact ⟨.sub, rfl⟩
  · exact ⟨.mul, rfl⟩
  · exact ⟨.less, rfl⟩
theorem rd_law_part {K : PySem.W.Frag} {n : Nat} (vs : List V) (H : Hp) (Q : VK) (E : XK) (h : spPart K (n + 1) vs H Q E) : t_law_part K spTake (spPart K n) { nx := fun _ H' => Q .non H', rt := Q } (start N_law_part vs) H := by
  obtain ⟨b, l, d, rfl, hb, hd, q⟩ := h
  refine ⟨_, rfl, b, l, 8, rfl, hb, by decide, by decide, fun r l1 H1 r0 r1 hb1 kp1 => ?_⟩
  have small : ∀ (m : Int), 0 < m → m ≤ 1000 → (tRet (tTup (tCons (tC (.str "num")) (tCons (tCall spTake [] E0 (tCons (tVar 0) (tCons (tC (.int m)) (tNil)))) (tNil))))) { nx := fun _ H' => Q .non H', rt := Q } [some (.ref b), some (.int (d : Int)), some (.int r), none, none] H1 := by
    intro m m0 m1
    refine ⟨_, rfl, b, l1, m, rfl, hb1, m0, by omega, fun x l2 H2 x0 x1 hb2 kp2 => ⟨(by show 2 ≤ sizeLine; decide), fun p hp => ?_⟩⟩
    refine q (.ref p) (.num x) l2 _ ⟨x0, by omega⟩ (by show 1 ≤ d + 1; omega) (Tp.mk hp (.cons (.str _) (.cons (.int _) .nil))) (by rw [upd_ne (ne_of_none hb2 hp)]; exact hb2) ((kp1.trans kp2).trans (Kp.new hp))
  refine ⟨_, rfl, _, _, rfl, rfl, _, rfl, ifB (fun _ => small 1000 (by decide) (by decide)) fun _ => ?_⟩
  refine ⟨_, rfl, rfl, _, rfl, ifB (fun _ => small 3 (by decide) (by decide)) fun d0 => ?_⟩
  refine ⟨_, rfl, rfl, _, rfl, ifB (fun _ => small 3 (by decide) (by decide)) fun _ => ?_⟩
  have hd0 : 0 < d := by
    have := of_decide_eq_false d0
    by_cases z : d = 0
    · subst z; exact absurd rfl this
    · omega
  refine ⟨_, rfl, _, _, rfl, rfl, _, rfl, ifB (fun _ => ?_) fun _ => ?_⟩
  · refine ⟨_, rfl, b, l1, 8, rfl, hb1, by decide, by decide, fun x l2 H2 x0 x1 hb2 kp2 => ⟨(by show 2 ≤ sizeLine; decide), fun p hp => ?_⟩⟩
    obtain ⟨k, rfl⟩ : ∃ k : Nat, x = (k : Int) := ⟨x.toNat, by omega⟩
    exact q (.ref p) (.var k) l2 _ (by show k < 8; omega) (by show 1 ≤ d + 1; omega) (Tp.mk hp (.cons (.str _) (.cons (.int _) .nil))) (by rw [upd_ne (ne_of_none hb2 hp)]; exact hb2) ((kp1.trans kp2).trans (Kp.new hp))
  · refine ⟨(by show 4 ≤ sizeLine; decide), fun p hp => ?_⟩
    have hb2 : L2.upd H1 p (.lst [.str "add", .str "sub", .str "mul", .str "less"]) b = some (.lst (l1.map V.int)) := by rw [upd_ne (ne_of_none hb1 hp)]; exact hb1
    refine ⟨_, rfl, b, l1, 4, rfl, hb2, by decide, by decide, fun x l2 H2 x0 x1 hb3 kp3 => ?_⟩
    have pb : p ≠ b := fun e => by rw [e, hb1] at hp; cases hp
    obtain ⟨o, ho⟩ := opw x0 x1
    refine ⟨p, _, x, _, rfl, rfl, SqL.of (kp3 p _ upd_same pb), ho, ?_⟩
    have kpA := (kp1.trans (Kp.new hp)).trans kp3
    refine ⟨_, rfl, _, rfl, _, _, rfl, rfl, b, l2, d - 1, bd hd0, hb3, by omega, fun v1 e1 l3 H3 w1 p1 t1 hb4 kp4 => ?_⟩
    refine ⟨_, rfl, _, rfl, _, rfl, _, rfl, _, _, rfl, rfl, b, l3, d - 1, bd hd0, hb4, by omega, fun v2 e2 l4 H4 w2 p2 t2 hb5 kp5 => ?_⟩
    refine ⟨(by show 3 ≤ sizeLine; decide), fun u hu => ?_⟩
    refine q (.ref u) (.bin o e1 e2) l4 _ ⟨w1, w2⟩ (by show max e1.dep e2.dep + 1 ≤ d + 1; omega) (Tp.mk hu (.cons (.str _) (.cons (t1.mono (kp5.tk1 hb4)) (.cons t2 .nil)))) (by rw [upd_ne (ne_of_none hb5 hu)]; exact hb5) (((kpA.trans kp4).trans kp5).trans (Kp.new hu))
end Lp

/-! Ls: statements and programs as trees, as data; what is well formed. -/
namespace Lp
open PySem PySem.Spec PyProof.Rows L2

mutual
inductive Sm where
  | say (e : Ex)
  | set (k : Nat) (e : Ex)
  | row (ps : Sms)
  | ife (e : Ex) (s t : Sm)
  | whl (e : Ex) (s : Sm)
  | brk
  | cnt
  | ret (e : Ex)
  | call (k f : Nat) (ps : List Ex) (m : Int)
  | rais (kd : Nat) (e : Ex) (m : Int)
  | again
  | tri (s : Sm) (hs : Hds)
  | cln (s c : Sm)
inductive Sms where
  | nil
  | cons (s : Sm) (r : Sms)
inductive Hds where
  | nil
  | cons (k : Option Nat) (x : Nat) (t : Sm) (r : Hds)
end
def kindD : Option Nat → PyData
  | none => .none
  | some j => .int (j : Int)
mutual
def Sm.d : Sm → PyData
  | .say e => .tuple [.str "say", e.d]
  | .set k e => .tuple [.str "set", .int (k : Int), e.d]
  | .row ps => .tuple [.str "row", .tuple ps.ds]
  | .ife e s t => .tuple [.str "if", e.d, s.d, t.d]
  | .whl e s => .tuple [.str "while", e.d, s.d]
  | .brk => .tuple [.str "break"]
  | .cnt => .tuple [.str "continue"]
  | .ret e => .tuple [.str "return", e.d]
  | .call k f ps m => .tuple [.str "call", .int (k : Int), .int (f : Int), .tuple (ps.map Ex.d), .int m]
  | .rais kd e m => .tuple [.str "raise", .int (kd : Int), e.d, .int m]
  | .again => .tuple [.str "again"]
  | .tri s hs => .tuple [.str "try", s.d, .tuple hs.ds]
  | .cln s c => .tuple [.str "clean", s.d, c.d]
def Sms.ds : Sms → List PyData
  | .nil => []
  | .cons s r => s.d :: r.ds
def Hds.ds : Hds → List PyData
  | .nil => []
  | .cons k x t r => .tuple [kindD k, .int (x : Int), t.d] :: r.ds
end
def Sms.ofL : List Sm → Sms
  | [] => .nil
  | s :: r => .cons s (Sms.ofL r)
def Hds.ofL : List (Option Nat × Nat × Sm) → Hds
  | [] => .nil
  | (k, x, t) :: r => .cons k x t (Hds.ofL r)
def hdD (h : Option Nat × Nat × Sm) : PyData := .tuple [kindD h.1, .int (h.2.1 : Int), h.2.2.d]
theorem Sms.ds_ofL : ∀ l : List Sm, (Sms.ofL l).ds = l.map Sm.d
  | [] => rfl
  | s :: r => by show s.d :: (Sms.ofL r).ds = _; rw [Sms.ds_ofL r]; rfl
theorem Hds.ds_ofL : ∀ l : List (Option Nat × Nat × Sm), (Hds.ofL l).ds = l.map hdD
  | [] => rfl
  | (k, x, t) :: r => by show hdD (k, x, t) :: (Hds.ofL r).ds = _; rw [Hds.ds_ofL r]; rfl

/-! ### depth, rows -/
mutual
def Sm.dep : Sm → Nat
  | .row ps => ps.dep + 1
  | .ife _ s t => max s.dep t.dep + 1
  | .whl _ s => s.dep + 1
  | .tri s hs => max s.dep hs.dep + 1
  | .cln s c => max s.dep c.dep + 1
  | _ => 1
def Sms.dep : Sms → Nat
  | .nil => 0
  | .cons s r => max s.dep r.dep
def Hds.dep : Hds → Nat
  | .nil => 0
  | .cons _ _ t r => max t.dep r.dep
end
def Ex.len : Ex → Nat
  | .num _ => 1
  | .var _ => 1
  | .bin _ a b => a.len + b.len + 1
def exsLen : List Ex → Nat
  | [] => 0
  | e :: r => e.len + exsLen r
mutual
/-- how many rows a statement is coded as -/
def Sm.len : Sm → Nat
  | .say e => e.len + 1
  | .set _ e => e.len + 1
  | .row ps => ps.len
  | .ife e s t => e.len + 1 + s.len + 1 + t.len
  | .whl e s => e.len + 2 + s.len + 1
  | .brk => 1
  | .cnt => 1
  | .ret e => e.len + 1
  | .call _ _ ps _ => exsLen ps + 2
  | .rais _ e _ => e.len + 1
  | .again => 1
  | .tri s hs => s.len + 1 + hs.len
  | .cln s c => s.len + 2 + c.len + 1
def Sms.len : Sms → Nat
  | .nil => 0
  | .cons s r => s.len + r.len
def Hds.len : Hds → Nat
  | .nil => 0
  | .cons _ _ t r => 2 + t.len + 2 + r.len
end
theorem Ex.len_le : ∀ {e : Ex} {n : Nat}, e.dep ≤ n + 1 → e.len ≤ 2 ^ (n + 1) - 1
  | .num _, n, _ => by show 1 ≤ _; have := Nat.one_le_two_pow (n := n); rw [Nat.pow_succ]; omega
  | .var _, n, _ => by show 1 ≤ _; have := Nat.one_le_two_pow (n := n); rw [Nat.pow_succ]; omega
  | .bin _ a b, n, h => by
    have h' : max a.dep b.dep + 1 ≤ n + 1 := h
    cases n with
    | zero => cases a <;> simp [Ex.dep] at h' <;> omega
    | succ n =>
      have h1 := Ex.len_le (e := a) (n := n) (by omega)
      have h2 := Ex.len_le (e := b) (n := n) (by omega)
      show a.len + b.len + 1 ≤ _
      have := Nat.one_le_two_pow (n := n + 1)
      rw [Nat.pow_succ 2 (n + 1)]
      omega
theorem exsLen_le : ∀ {ps : List Ex} {n : Nat}, (∀ e ∈ ps, e.len ≤ n) → exsLen ps ≤ ps.length * n
  | [], n, _ => by simp [exsLen]
  | e :: r, n, h => by
    have h1 := h e List.mem_cons_self
    have h2 := exsLen_le (ps := r) (n := n) fun x hx => h x (List.mem_cons_of_mem _ hx)
    show e.len + exsLen r ≤ (r.length + 1) * n
    rw [Nat.succ_mul]
    omega

/-! ### well formed: cs the functions' counts, nk how many kinds, turn: within a while, hand: within a handler -/
mutual
def Sm.Wf (cs : List Nat) (nk : Nat) (turn hand : Bool) : Sm → Prop
  | .say e => e.Wf ∧ e.dep ≤ 5
  | .set k e => k < 8 ∧ e.Wf ∧ e.dep ≤ 5
  | .row ps => ps.Wf cs nk turn hand
  | .ife e s t => (e.Wf ∧ e.dep ≤ 5) ∧ s.Wf cs nk turn hand ∧ t.Wf cs nk turn hand
  | .whl e s => (e.Wf ∧ e.dep ≤ 5) ∧ s.Wf cs nk true hand
  | .brk => turn = true
  | .cnt => turn = true
  | .ret e => e.Wf ∧ e.dep ≤ 5
  | .call k f ps m => k < 8 ∧ cs[f]? = some ps.length ∧ ps.length ≤ 3 ∧ (∀ e ∈ ps, e.Wf ∧ e.dep ≤ 5) ∧ 0 ≤ m ∧ m < 1000
  | .rais kd e m => kd < nk ∧ (e.Wf ∧ e.dep ≤ 5) ∧ 0 ≤ m ∧ m < 1000
  | .again => hand = true
  | .tri s hs => s.Wf cs nk turn hand ∧ hs.Wf cs nk turn
  | .cln s c => s.Wf cs nk turn hand ∧ c.Wf cs nk turn hand
def Sms.Wf (cs : List Nat) (nk : Nat) (turn hand : Bool) : Sms → Prop
  | .nil => True
  | .cons s r => s.Wf cs nk turn hand ∧ r.Wf cs nk turn hand
def Hds.Wf (cs : List Nat) (nk : Nat) (turn : Bool) : Hds → Prop
  | .nil => True
  | .cons k x t r => (∀ j, k = some j → j < nk) ∧ x < 8 ∧ t.Wf cs nk turn true ∧ r.Wf cs nk turn
end
theorem Sms.wf_ofL {cs : List Nat} {nk : Nat} {turn hand : Bool} : ∀ {l : List Sm}, (∀ s ∈ l, s.Wf cs nk turn hand) → (Sms.ofL l).Wf cs nk turn hand
  | [], _ => trivial
  | s :: r, h => ⟨h s List.mem_cons_self, Sms.wf_ofL fun x hx => h x (List.mem_cons_of_mem _ hx)⟩
theorem Sms.dep_ofL {n : Nat} : ∀ {l : List Sm}, (∀ s ∈ l, s.dep ≤ n) → (Sms.ofL l).dep ≤ n
  | [], _ => Nat.zero_le _
  | s :: r, h => Nat.max_le.mpr ⟨h s List.mem_cons_self, Sms.dep_ofL fun x hx => h x (List.mem_cons_of_mem _ hx)⟩
theorem Sms.len_ofL {n : Nat} : ∀ {l : List Sm}, (∀ s ∈ l, s.len ≤ n) → (Sms.ofL l).len ≤ l.length * n
  | [], _ => Nat.zero_le _
  | s :: r, h => by
    have h1 := h s List.mem_cons_self
    have h2 := Sms.len_ofL (l := r) (n := n) fun x hx => h x (List.mem_cons_of_mem _ hx)
    show s.len + (Sms.ofL r).len ≤ (r.length + 1) * n
    rw [Nat.succ_mul]
    omega
def HdWf (cs : List Nat) (nk : Nat) (turn : Bool) (h : Option Nat × Nat × Sm) : Prop := (∀ j, h.1 = some j → j < nk) ∧ h.2.1 < 8 ∧ h.2.2.Wf cs nk turn true
theorem Hds.wf_ofL {cs : List Nat} {nk : Nat} {turn : Bool} : ∀ {l : List (Option Nat × Nat × Sm)}, (∀ h ∈ l, HdWf cs nk turn h) → (Hds.ofL l).Wf cs nk turn
  | [], _ => trivial
  | (k, x, t) :: r, h => by
    obtain ⟨h1, h2, h3⟩ := h (k, x, t) List.mem_cons_self
    exact ⟨h1, h2, h3, Hds.wf_ofL fun y hy => h y (List.mem_cons_of_mem _ hy)⟩
theorem Hds.dep_ofL {n : Nat} : ∀ {l : List (Option Nat × Nat × Sm)}, (∀ h ∈ l, h.2.2.dep ≤ n) → (Hds.ofL l).dep ≤ n
  | [], _ => Nat.zero_le _
  | (k, x, t) :: r, h => Nat.max_le.mpr ⟨h (k, x, t) List.mem_cons_self, Hds.dep_ofL fun y hy => h y (List.mem_cons_of_mem _ hy)⟩
theorem Hds.len_ofL {n : Nat} : ∀ {l : List (Option Nat × Nat × Sm)}, (∀ h ∈ l, h.2.2.len ≤ n) → (Hds.ofL l).len ≤ l.length * (n + 4)
  | [], _ => Nat.zero_le _
  | (k, x, t) :: r, h => by
    have h1 := h (k, x, t) List.mem_cons_self
    have h2 := Hds.len_ofL (l := r) (n := n) fun y hy => h y (List.mem_cons_of_mem _ hy)
    show 2 + t.len + 2 + (Hds.ofL r).len ≤ (r.length + 1) * (n + 4)
    rw [Nat.succ_mul]
    have h1' : t.len ≤ n := h1
    omega

/-! ### programs -/
structure Pg where
  kinds : List (Option Nat)
  funs : List (Nat × Sm)
def funD (f : Nat × Sm) : PyData := .tuple [.int (f.1 : Int), f.2.d]
def Pg.d (p : Pg) : PyData := .tuple [.tuple (p.kinds.map kindD), .tuple (p.funs.map funD)]
def Pg.cs (p : Pg) : List Nat := p.funs.map (·.1)
structure Pg.Wf (p : Pg) : Prop where
  kinds : WfK p.kinds
  k0 : 0 < p.kinds.length
  k8 : p.kinds.length ≤ 8
  f0 : 0 < p.funs.length
  f8 : p.funs.length ≤ 8
  many : ∀ f ∈ p.funs, f.1 ≤ 3
  body : ∀ f ∈ p.funs, f.2.Wf p.cs p.kinds.length false false
/-- as the laws' programs are: five deep, of at most 1,900 rows a function -/
structure Pg.Small (p : Pg) (D R : Nat) : Prop where
  dep : ∀ f ∈ p.funs, f.2.dep ≤ D
  len : ∀ f ∈ p.funs, f.2.len ≤ R
theorem tp_kinds {K : PySem.W.Frag} {H : Hp} : ∀ ks : List (Option Nat), TpAll K H (ks.map kindV) (ks.map kindD)
  | [] => .nil
  | none :: r => .cons .non (tp_kinds r)
  | some j :: r => .cons (.int _) (tp_kinds r)
theorem kinds_of {K : PySem.W.Frag} {H : Hp} : ∀ {ks : List (Option Nat)} {vs : List V}, TpAll K H vs (ks.map kindD) → vs = ks.map kindV
  | [], _, h => h.nilE
  | none :: r, _, h => by
    obtain ⟨v, vs, rfl, h1, h2⟩ := TpAll.consE h
    rw [h1.nonE, kinds_of h2]; rfl
  | some j :: r, _, h => by
    obtain ⟨v, vs, rfl, h1, h2⟩ := TpAll.consE h
    rw [h1.intE, kinds_of h2]; rfl
end Lp

/-! L3g: the law's drawing of statements and programs: some well-formed program comes. -/
namespace Lp
open PySem PySem.Spec PyProof.Rows L2
def t_law_call (K : PySem.W.Frag) (sp_law_take : Sp) (sp_law_part : Sp) : TS :=
  tSeq (tAsg (tCall sp_law_take [] E0 (tCons (tVar 0) (tCons (tCB (rLenQ K) (tCons (tOp (rIxL K) (tVar 1) (tC (.int 0))) (tNil))) (tNil)))) (gName 2)) (tSeq (tAsg (tCall sp_law_take [] E0 (tCons (tVar 0) (tCons (tC (.int 8)) (tNil)))) (gName 3)) (tSeq (tAsg (tLc (iRng1 (tCons (tOp (rIxL K) (tOp (rIxL K) (tVar 1) (tC (.int 0))) (tVar 2)) (tNil))) (gName 5) (tYes) (tCall sp_law_part [] E0 (tCons (tVar 0) (tCons (tC (.int 1)) (tNil)))) [5]) (gName 4)) (tRet (tTup (tCons (tC (.str "call")) (tCons (tVar 3) (tCons (tVar 2) (tCons (tCB (rTupOf K) (tCons (tVar 4) (tNil))) (tCons (tCall sp_law_take [] E0 (tCons (tVar 0) (tCons (tC (.int 1000)) (tNil)))) (tNil))))))))))

def t_law_simple (K : PySem.W.Frag) (sp_law_take : Sp) (sp_law_call : Sp) (sp_law_part : Sp) : TS :=
  tSeq (tAsg (tCall sp_law_take [] E0 (tCons (tVar 0) (tCons (tC (.int 9)) (tNil)))) (gName 4)) (tSeq (tIfS (tAnd (tTest (tOp rEq (tVar 4) (tC (.int 8)))) (tB (tVar 3))) (tRet (tTup (tCons (tC (.str "again")) (tNil)))) (tNext)) (tSeq (tIfS (tAnd (tTest (tOp rEq (tVar 4) (tC (.int 7)))) (tB (tVar 2))) (tRet (tTup (tCons (tOp (rIxL K) (tLst (tCons (tC (.str "break")) (tCons (tC (.str "continue")) (tNil)))) (tCall sp_law_take [] E0 (tCons (tVar 0) (tCons (tC (.int 2)) (tNil))))) (tNil)))) (tNext)) (tSeq (tIfS (tTest (tOp rEq (tVar 4) (tC (.int 6)))) (tRet (tCall sp_law_call [] E0 (tCons (tVar 0) (tCons (tVar 1) (tNil))))) (tNext)) (tSeq (tIfS (tTest (tOp rEq (tVar 4) (tC (.int 5)))) (tSeq (tAsg (tCall sp_law_part [] E0 (tCons (tVar 0) (tCons (tC (.int 1)) (tNil)))) (gName 5)) (tRet (tTup (tCons (tC (.str "raise")) (tCons (tCall sp_law_take [] E0 (tCons (tVar 0) (tCons (tOp (rIxL K) (tVar 1) (tC (.int 1))) (tNil)))) (tCons (tVar 5) (tCons (tCall sp_law_take [] E0 (tCons (tVar 0) (tCons (tC (.int 1000)) (tNil)))) (tNil)))))))) (tNext)) (tSeq (tIfS (tTest (tOp rEq (tVar 4) (tC (.int 4)))) (tRet (tTup (tCons (tC (.str "return")) (tCons (tCall sp_law_part [] E0 (tCons (tVar 0) (tCons (tC (.int 2)) (tNil)))) (tNil))))) (tNext)) (tSeq (tIfS (tTest (tOp rEq (tVar 4) (tC (.int 3)))) (tRet (tTup (tCons (tC (.str "row")) (tCons (tTup (tNil)) (tNil))))) (tNext)) (tSeq (tIfS (tTest (tOp rEq (tVar 4) (tC (.int 2)))) (tRet (tTup (tCons (tC (.str "set")) (tCons (tCall sp_law_take [] E0 (tCons (tVar 0) (tCons (tC (.int 8)) (tNil)))) (tCons (tCall sp_law_part [] E0 (tCons (tVar 0) (tCons (tC (.int 2)) (tNil)))) (tNil)))))) (tNext)) (tRet (tTup (tCons (tC (.str "say")) (tCons (tCall sp_law_part [] E0 (tCons (tVar 0) (tCons (tC (.int 2)) (tNil)))) (tNil))))))))))))

def t_law_handler (K : PySem.W.Frag) (sp_law_take : Sp) (sp_law_statement : Sp) : TS :=
  tSeq (tAsg (tCall sp_law_take [] E0 (tCons (tVar 0) (tCons (tOp rAdI (tOp (rIxL K) (tVar 1) (tC (.int 1))) (tC (.int 1))) (tNil)))) (gName 4)) (tSeq (tAsg (tCall sp_law_take [] E0 (tCons (tVar 0) (tCons (tC (.int 8)) (tNil)))) (gName 5)) (tSeq (tIfS (tTest (tOp rEq (tVar 4) (tOp (rIxL K) (tVar 1) (tC (.int 1))))) (tAsg (tC .non) (gName 4)) (tNext)) (tRet (tTup (tCons (tVar 4) (tCons (tVar 5) (tCons (tCall sp_law_statement [] E0 (tCons (tVar 0) (tCons (tVar 1) (tCons (tVar 2) (tCons (tVar 3) (tCons (tC (.bl true)) (tNil))))))) (tNil))))))))

def t_law_statement (K : PySem.W.Frag) (sp_law_take : Sp) (sp_law_simple : Sp) (sp_law_statement : Sp) (sp_law_part : Sp) (sp_law_handler : Sp) : TS :=
  tSeq (tAsg (tCall sp_law_take [] E0 (tCons (tVar 0) (tCons (tC (.int 14)) (tNil)))) (gName 5)) (tSeq (tIfS (tOr (tTest (tOp rEq (tVar 2) (tC (.int 0)))) (tTest (tOp rLt (tVar 5) (tC (.int 4))))) (tRet (tCall sp_law_simple [] E0 (tCons (tVar 0) (tCons (tVar 1) (tCons (tVar 3) (tCons (tVar 4) (tNil))))))) (tNext)) (tSeq (tIfS (tAnd (tTest (tOp rEq (tVar 5) (tC (.int 4)))) (tTest (tOp rEq (tCall sp_law_take [] E0 (tCons (tVar 0) (tCons (tC (.int 3)) (tNil)))) (tC (.int 1))))) (tRet (tTup (tCons (tC (.str "row")) (tCons (tCB (rTupOf K) (tCons (tLc (iRng1 (tCons (tCall sp_law_take [] E0 (tCons (tVar 0) (tCons (tC (.int 7)) (tNil)))) (tNil))) (gName 6) (tYes) (tCall sp_law_simple [] E0 (tCons (tVar 0) (tCons (tVar 1) (tCons (tVar 3) (tCons (tVar 4) (tNil)))))) [6]) (tNil))) (tNil))))) (tNext)) (tSeq (tIfS (tTest (tOp rLt (tVar 5) (tC (.int 7)))) (tSeq (tAsg (tOp rAdI (tC (.int 2)) (tCall sp_law_take [] E0 (tCons (tVar 0) (tCons (tC (.int 2)) (tNil))))) (gName 7)) (tRet (tTup (tCons (tC (.str "row")) (tCons (tCB (rTupOf K) (tCons (tLc (iRng1 (tCons (tVar 7) (tNil))) (gName 6) (tYes) (tCall sp_law_statement [] E0 (tCons (tVar 0) (tCons (tVar 1) (tCons (tOp rSbI (tVar 2) (tC (.int 1))) (tCons (tVar 3) (tCons (tVar 4) (tNil))))))) [6]) (tNil))) (tNil)))))) (tNext)) (tSeq (tIfS (tTest (tOp rEq (tVar 5) (tC (.int 7)))) (tSeq (tAsg (tCall sp_law_part [] E0 (tCons (tVar 0) (tCons (tC (.int 2)) (tNil)))) (gName 8)) (tSeq (tAsg (tCall sp_law_statement [] E0 (tCons (tVar 0) (tCons (tVar 1) (tCons (tOp rSbI (tVar 2) (tC (.int 1))) (tCons (tVar 3) (tCons (tVar 4) (tNil))))))) (gName 9)) (tRet (tTup (tCons (tC (.str "if")) (tCons (tVar 8) (tCons (tVar 9) (tCons (tCall sp_law_statement [] E0 (tCons (tVar 0) (tCons (tVar 1) (tCons (tOp rSbI (tVar 2) (tC (.int 1))) (tCons (tVar 3) (tCons (tVar 4) (tNil))))))) (tNil))))))))) (tNext)) (tSeq (tIfS (tTest (tOp rLt (tVar 5) (tC (.int 9)))) (tSeq (tAsg (tCall sp_law_part [] E0 (tCons (tVar 0) (tCons (tC (.int 2)) (tNil)))) (gName 8)) (tRet (tTup (tCons (tC (.str "while")) (tCons (tVar 8) (tCons (tCall sp_law_statement [] E0 (tCons (tVar 0) (tCons (tVar 1) (tCons (tOp rSbI (tVar 2) (tC (.int 1))) (tCons (tC (.bl true)) (tCons (tVar 4) (tNil))))))) (tNil))))))) (tNext)) (tSeq (tAsg (tCall sp_law_statement [] E0 (tCons (tVar 0) (tCons (tVar 1) (tCons (tOp rSbI (tVar 2) (tC (.int 1))) (tCons (tVar 3) (tCons (tVar 4) (tNil))))))) (gName 10)) (tSeq (tIfS (tTest (tOp rLt (tVar 5) (tC (.int 12)))) (tSeq (tAsg (tOp rAdI (tC (.int 1)) (tCall sp_law_take [] E0 (tCons (tVar 0) (tCons (tC (.int 2)) (tNil))))) (gName 7)) (tRet (tTup (tCons (tC (.str "try")) (tCons (tVar 10) (tCons (tCB (rTupOf K) (tCons (tLc (iRng1 (tCons (tVar 7) (tNil))) (gName 6) (tYes) (tCall sp_law_handler [] E0 (tCons (tVar 0) (tCons (tVar 1) (tCons (tOp rSbI (tVar 2) (tC (.int 1))) (tCons (tVar 3) (tNil)))))) [6]) (tNil))) (tNil))))))) (tNext)) (tRet (tTup (tCons (tC (.str "clean")) (tCons (tVar 10) (tCons (tCall sp_law_statement [] E0 (tCons (tVar 0) (tCons (tVar 1) (tCons (tOp rSbI (tVar 2) (tC (.int 1))) (tCons (tVar 3) (tCons (tVar 4) (tNil))))))) (tNil)))))))))))))

def t_law_program (K : PySem.W.Frag) (sp_law_kinds : Sp) (sp_law_take : Sp) (sp_law_statement : Sp) : TS :=
  tSeq (tAsg (tCall sp_law_kinds [] E0 (tCons (tVar 0) (tCons (tC (.int 4)) (tNil)))) (gName 1)) (tSeq (tAsg (tLst (tCons (tLc (iRng1 (tCons (tOp rAdI (tC (.int 1)) (tCall sp_law_take [] E0 (tCons (tVar 0) (tCons (tC (.int 4)) (tNil))))) (tNil))) (gName 3) (tYes) (tCall sp_law_take [] E0 (tCons (tVar 0) (tCons (tC (.int 4)) (tNil)))) [3]) (tCons (tCB (rLenQ K) (tCons (tVar 1) (tNil))) (tNil)))) (gName 2)) (tSeq (tAsg (tLst (tNil)) (gName 4)) (tSeq (tFor (iList K (tOp (rIxL K) (tVar 2) (tC (.int 0)))) (gName 5) (tSeq (tAsg (tLc (iRng1 (tCons (tOp rAdI (tC (.int 1)) (tCall sp_law_take [] E0 (tCons (tVar 0) (tCons (tC (.int 3)) (tNil))))) (tNil))) (gName 3) (tYes) (tCall sp_law_statement [] E0 (tCons (tVar 0) (tCons (tVar 2) (tCons (tC (.int 3)) (tCons (tC (.bl false)) (tCons (tC (.bl false)) (tNil))))))) [3]) (gName 6)) (tDrop (tBM K "list" rAppend (tVar 4) (tCons (tTup (tCons (tVar 5) (tCons (tTup (tCons (tC (.str "row")) (tCons (tCB (rTupOf K) (tCons (tVar 6) (tNil))) (tNil)))) (tNil)))) (tNil)))))) (tRet (tTup (tCons (tVar 1) (tCons (tCB (rTupOf K) (tCons (tVar 4) (tNil))) (tNil))))))))

/-! ### what is drawn from the box -/
abbrev Bx (b : Addr) : Addr → Prop := fun x => x = b
/-- a drawn thing: some good one, as data; the box has other numbers; all else stands -/
def Drawn (K : PySem.W.Frag) (b : Addr) (H : Hp) (Q : VK) {α : Type} (dα : α → PyData) (good : α → Prop) : Prop :=
  ∀ (v : V) (x : α) (l' : List Int) (H' : Hp), good x → Tp K H' v (dα x) → H' b = some (.lst (l'.map V.int)) → Kp (Bx b) H H' → Q v H'
section
variable {K : PySem.W.Frag} {b : Addr} {H H1 : Hp} {Q : VK} {α : Type} {dα : α → PyData} {good : α → Prop}
theorem Drawn.mk (q : Drawn K b H Q dα good) (x : α) {l1 : List Int} {xs : List V} {ds : List PyData} (hx : good x) (e : dα x = .tuple ds) (ht : TpAll K H1 xs ds) (hb : H1 b = some (.lst (l1.map V.int))) (kp : Kp (Bx b) H H1) :
    ∀ p, H1 p = none → Q (.ref p) (upd H1 p (.tup xs)) := fun p hp =>
  q (.ref p) x l1 _ hx (by rw [e]; exact Tp.mk hp ht) (by rw [upd_ne (ne_of_none hb hp)]; exact hb) (kp.trans (Kp.new hp))
theorem box_new {o : HO} {p : Addr} {l : List Int} (hb : H b = some (.lst (l.map V.int))) (hp : H p = none) : upd H p o b = some (.lst (l.map V.int)) := by rw [upd_ne (ne_of_none hb hp)]; exact hb
/-- a list of drawn things: [draw for k in range(n)] -/
theorem lc_draw {Qd : Hp → Prop} {D : Addr} {l : List Int} {te : TE} {slot : Nat} {σ : L2.St} (dα : α → PyData) (good : α → Prop) (n : Nat) (hn : n < 1000) (hb : H1 b = some (.lst (l.map V.int))) (hD : H1 D = none)
    (hw : ∀ x, wipe ((wipe σ [slot]).set slot x) [slot] = wipe σ [slot])
    (step : ∀ (i : Nat) (H2 : Hp) (l2 : List Int), i < n → H2 b = some (.lst (l2.map V.int)) → Kp (Bx b) H1 H2 → ∀ Q' : VK, Drawn K b H2 Q' dα good → te ((wipe σ [slot]).set slot (some (.int (0 + (i : Int))))) H2 Q')
    (fin : ∀ (items : List α) (vs : List V) (l' : List Int) (H' : Hp), items.length = n → (∀ a ∈ items, good a) → H' D = some (.lst vs) → TpAll K H' vs (items.map dα) → H' b = some (.lst (l'.map V.int)) → Kp (Bx b) H1 H' → Qd H') :
    ∃ W : Nat → Nat → Hp → Prop, (∃ m, W 0 m (upd H1 D (.lst []))) ∧ ∀ i m H, W i m H →
      ((Itr 0 n).stop i H ∧ Qd H) ∨ ((Itr 0 n).go i H ∧ ∃ Nx : Hp → Prop, (∀ H', Nx H' → ∃ m', m' < m ∧ W (i + 1) m' H') ∧ ∀ x H', (Itr 0 n).yld i H x H' → gName slot x (wipe σ [slot]) H' fun σ2 H2 => wipe σ2 [slot] = wipe σ [slot] ∧ tYes σ2 H2 fun c H3 =>
        if c = true then te σ2 H3 fun y H4 => ∃ acc, H4 D = some (.lst acc) ∧ acc.length < sizeLine ∧ Nx (upd H4 D (.lst (acc ++ [y]))) else Nx H3) := by
  have Db : D ≠ b := fun e => by rw [e, hb] at hD; cases hD
  refine lc_range (lo := 0) (n := n) (Qd := Qd) (fun i H' => ∃ (items : List α) (vs : List V) (l' : List Int), items.length = i ∧ (∀ a ∈ items, good a) ∧ H' D = some (.lst vs) ∧ TpAll K H' vs (items.map dα) ∧ H' b = some (.lst (l'.map V.int)) ∧ Kp (Bx b) H1 H')
    ⟨[], [], l, rfl, (by simp), upd_same, .nil, box_new hb hD, Kp.new hD⟩ ?_ ?_
  · rintro i H2 hi ⟨items, vs, l2, hl, hg, h1, ht, hb2, kp⟩
    refine ⟨hw _, ?_⟩
    show te ((wipe σ [slot]).set slot (some (.int (0 + (i : Int))))) H2 fun y H4 => ∃ acc, H4 D = some (.lst acc) ∧ acc.length < sizeLine ∧ _
    refine step i H2 l2 hi hb2 kp _ fun y a l3 H3 ga ta hb3 kp3 => ?_
    have h3 := kp3 D _ h1 Db
    refine ⟨vs, h3, ?_, items ++ [a], vs ++ [y], l3, by simp [hl], ?_, upd_same, ?_, by rw [upd_ne Db.symm]; exact hb3, (kp.trans kp3).late hD⟩
    · have := ht.length
      rw [List.length_map] at this
      exact sz_lt1 (by omega)
    · intro z hz
      rcases List.mem_append.mp hz with z1 | z1
      · exact hg z z1
      · have e : z = a := by simpa using z1
        rw [e]; exact ga
    · rw [List.map_append]
      exact ((ht.mono (kp3.tk1 hb2)).snoc ta).mono (Tk.lst h3)
  · rintro H' ⟨items, vs, l', hl, hg, h1, ht, hb2, kp⟩
    exact fin items vs l' H' hl hg h1 ht hb2 kp
end
/-! ### the shape: the functions' counts, how many kinds -/
structure ShAt (H : Hp) (b sh : Addr) (cs : List Nat) (nk : Nat) : Prop where
  ex : ∃ c, H sh = some (.lst [.ref c, .int (nk : Int)]) ∧ H c = some (.lst (cs.map fun n : Nat => V.int (n : Int))) ∧ c ≠ b
  ne : sh ≠ b
  n0 : 0 < nk
  n9 : nk ≤ 1000
  c0 : 0 < cs.length
  c9 : cs.length ≤ 1000
  c3 : ∀ n ∈ cs, n ≤ 3
theorem ShAt.mono {H H' : Hp} {b sh : Addr} {cs : List Nat} {nk : Nat} (s : ShAt H b sh cs nk) (k : Kp (Bx b) H H') : ShAt H' b sh cs nk := by
  obtain ⟨c, h1, h2, h3⟩ := s.ex
  exact ⟨⟨c, k _ _ h1 s.ne, k _ _ h2 h3, h3⟩, s.ne, s.n0, s.n9, s.c0, s.c9, s.c3⟩
theorem ShAt.of_box {H : Hp} {b sh : Addr} {cs : List Nat} {nk : Nat} (s : ShAt H b sh cs nk) : True := trivial
/-! ### how wide, and how many cleanups: what is at most so large has few parts and few cleanups -/
mutual
def Sm.wgt : Sm → Nat
  | .say e => e.len + 1
  | .set _ e => e.len + 1
  | .row ps => ps.wgt
  | .ife e s t => e.len + 1 + s.wgt + 1 + t.wgt
  | .whl e s => e.len + 2 + s.wgt + 1
  | .brk => 1
  | .cnt => 1
  | .ret e => e.len + 1
  | .call _ _ ps _ => exsLen ps + 2
  | .rais _ e _ => e.len + 1
  | .again => 1
  | .tri s hs => s.wgt + 1 + hs.wgt
  | .cln s c => s.wgt + c.wgt + 28
def Sms.wgt : Sms → Nat
  | .nil => 0
  | .cons s r => s.wgt + 1 + r.wgt
def Hds.wgt : Hds → Nat
  | .nil => 0
  | .cons _ _ t r => t.wgt + 4 + r.wgt
end
theorem Sms.wgt_ofL {n : Nat} : ∀ {l : List Sm}, (∀ s ∈ l, s.wgt ≤ n) → (Sms.ofL l).wgt ≤ l.length * (n + 1)
  | [], _ => Nat.zero_le _
  | s :: r, h => by
    have h1 := h s List.mem_cons_self
    have h2 := Sms.wgt_ofL (l := r) (n := n) fun x hx => h x (List.mem_cons_of_mem _ hx)
    show s.wgt + 1 + (Sms.ofL r).wgt ≤ (r.length + 1) * (n + 1)
    rw [Nat.succ_mul]
    omega
theorem Hds.wgt_ofL {n : Nat} : ∀ {l : List (Option Nat × Nat × Sm)}, (∀ h ∈ l, h.2.2.wgt ≤ n) → (Hds.ofL l).wgt ≤ l.length * (n + 4)
  | [], _ => Nat.zero_le _
  | (k, x, t) :: r, h => by
    have h1 := h (k, x, t) List.mem_cons_self
    have h2 := Hds.wgt_ofL (l := r) (n := n) fun y hy => h y (List.mem_cons_of_mem _ hy)
    show t.wgt + 4 + (Hds.ofL r).wgt ≤ (r.length + 1) * (n + 4)
    rw [Nat.succ_mul]
    have h1' : t.wgt ≤ n := h1
    omega
def Bw : Nat → Nat
  | 0 => 11
  | d + 1 => max 72 (3 * Bw d + 9)
theorem Bw_ge : ∀ d, 11 ≤ Bw d
  | 0 => Nat.le_refl _
  | d + 1 => by show 11 ≤ max 72 (3 * Bw d + 9); omega
theorem Bw_mono : ∀ {d e : Nat}, d ≤ e → Bw d ≤ Bw e
  | d, 0, h => by
    have : d = 0 := by omega
    subst this; exact Nat.le_refl _
  | d, e + 1, h => by
    by_cases z : d = e + 1
    · subst z; exact Nat.le_refl _
    · have := Bw_mono (d := d) (e := e) (by omega)
      show Bw d ≤ max 72 (3 * Bw e + 9)
      omega
/-! ### the promises -/
def StmtOk (cs : List Nat) (nk : Nat) (turn hand : Bool) (D R : Nat) (s : Sm) : Prop := s.Wf cs nk turn hand ∧ s.dep ≤ D ∧ s.len ≤ R ∧ s.wgt ≤ Bw (D - 1)
def spCallS (K : PySem.W.Frag) : Sp := fun vs H Q _ => ∃ (b sh : Addr) (l : List Int) (cs : List Nat) (nk : Nat), vs = [.ref b, .ref sh] ∧ H b = some (.lst (l.map V.int)) ∧ ShAt H b sh cs nk ∧ Drawn K b H Q Sm.d (fun s => ∀ turn hand, StmtOk cs nk turn hand 1 11 s)
def spSimple (K : PySem.W.Frag) : Sp := fun vs H Q _ => ∃ (b sh : Addr) (l : List Int) (cs : List Nat) (nk : Nat) (turn hand : Bool), vs = [.ref b, .ref sh, .bl turn, .bl hand] ∧ H b = some (.lst (l.map V.int)) ∧ ShAt H b sh cs nk ∧ Drawn K b H Q Sm.d (StmtOk cs nk turn hand 1 11)
/-- at most so many rows at a depth -/
def Bd : Nat → Nat
  | 0 => 11
  | d + 1 => max 66 (3 * Bd d + 9)
theorem Bd_ge : ∀ d, 11 ≤ Bd d
  | 0 => Nat.le_refl _
  | d + 1 => by show 11 ≤ max 66 (3 * Bd d + 9); omega
def spStmt (K : PySem.W.Frag) (n : Nat) : Sp := fun vs H Q _ => ∃ (b sh : Addr) (l : List Int) (cs : List Nat) (nk : Nat) (d : Nat) (turn hand : Bool), vs = [.ref b, .ref sh, .int (d : Int), .bl turn, .bl hand] ∧ H b = some (.lst (l.map V.int)) ∧ ShAt H b sh cs nk ∧ d < n ∧
  Drawn K b H Q Sm.d (StmtOk cs nk turn hand (d + 1) (Bd d))
def HdOk (cs : List Nat) (nk : Nat) (turn : Bool) (D R : Nat) (h : Option Nat × Nat × Sm) : Prop := HdWf cs nk turn h ∧ h.2.2.dep ≤ D ∧ h.2.2.len ≤ R ∧ h.2.2.wgt ≤ Bw (D - 1)
def spHandler (K : PySem.W.Frag) (n : Nat) : Sp := fun vs H Q _ => ∃ (b sh : Addr) (l : List Int) (cs : List Nat) (nk : Nat) (d : Nat) (turn : Bool), vs = [.ref b, .ref sh, .int (d : Int), .bl turn] ∧ H b = some (.lst (l.map V.int)) ∧ ShAt H b sh cs nk ∧ d < n ∧
  Drawn K b H Q hdD (HdOk cs nk turn (d + 1) (Bd d))
section
variable {K : PySem.W.Frag}
theorem spStmt_zero (vs : List V) (H : Hp) (Q : VK) (E : XK) : ¬ spStmt K 0 vs H Q E := by
  rintro ⟨b, sh, l, cs, nk, d, turn, hand, _, _, _, h, _⟩
  omega
abbrev N_law_call : List Str := ["_law_box", "_law_shape", "_law_number", "_law_slot", "_law_parts", "_law_k"]
theorem rd_law_call (vs : List V) (H : Hp) (Q : VK) (E : XK) (h : spCallS K vs H Q E) : t_law_call K spTake (spPart K 5) { nx := fun _ H' => Q .non H', rt := Q } (start N_law_call vs) H := by
  obtain ⟨b, sh, l, cs, nk, rfl, hb, s, q⟩ := h
  obtain ⟨c, h1, h2, cb⟩ := s.ex
  refine ⟨_, rfl, rd_ixL (j := 0) rfl (SqL.of h1) rfl ⟨c, _, rfl, .inl (SqL.of h2), b, l, _, rfl, hb, by rw [List.length_map]; have := s.c0; omega, by rw [List.length_map]; have := s.c9; omega, fun x l1 H1 x0 x1 hb1 kp1 => ?_⟩⟩
  rw [List.length_map] at x1
  obtain ⟨f, rfl⟩ : ∃ f : Nat, x = (f : Int) := ⟨x.toNat, by omega⟩
  have hf : f < cs.length := by omega
  refine ⟨_, rfl, b, l1, 8, rfl, hb1, by decide, by decide, fun y l2 H2 y0 y1 hb2 kp2 => ?_⟩
  obtain ⟨k, rfl⟩ : ∃ k : Nat, y = (k : Int) := ⟨y.toNat, by omega⟩
  have s2 := s.mono (kp1.trans kp2)
  have h1' := (kp1.trans kp2) _ _ h1 s.ne
  have h2' := (kp1.trans kp2) _ _ h2 cb
  have ef : cs[f]? = some cs[f] := List.getElem?_eq_getElem hf
  have h3 : cs[f] ≤ 3 := s.c3 _ (List.getElem_mem hf)
  refine rd_ixL (j := 0) rfl (SqL.of h1') rfl ⟨_, rfl, c, _, _, .int ((cs[f] : Nat) : Int), rfl, rfl, SqL.of h2', atI_nat (j := f) (by rw [List.getElem?_map, ef]; rfl), _, rfl, by omega, by omega, fun D hD => ?_⟩
  refine lc_draw (K := K) (l := l2) Ex.d (fun e => e.Wf ∧ e.dep ≤ 2) _ ?hn hb2 hD ?hw ?_ ?_
  case hn => omega
  case hw => exact fun _ => rfl
  · intro i H3 l3 hi hb3 kp3 Q' dr
    exact ⟨_, rfl, b, l3, 1, rfl, hb3, by decide, fun v e l4 H4 we de te hb4 kp4 => dr v e l4 H4 ⟨we, de⟩ te hb4 kp4⟩
  · intro ps vs l3 H3 hl hg hD3 ht hb3 kp3
    rw [Int.toNat_natCast] at hl
    refine ⟨_, rfl, _, rfl, _, rfl, D, vs, rfl, .inl ⟨SqL.of hD3, fun p hp => ?_⟩⟩
    have hb4 := box_new (o := .tup vs) hb3 hp
    refine ⟨_, rfl, b, l3, 1000, rfl, hb4, by decide, by decide, fun m l4 H4 m0 m1 hb5 kp5 => ⟨(by show 5 ≤ sizeLine; decide), ?_⟩⟩
    have pb : p ≠ b := fun e => by rw [e, hb3] at hp; cases hp
    have hp5 := kp5 p _ upd_same pb
    have le : exsLen ps + 2 ≤ 11 := by
      have := exsLen_le (ps := ps) (n := 3) fun e he => Ex.len_le (n := 1) (hg e he).2
      rw [hl] at this
      omega
    refine Drawn.mk q (.call k f ps m) (fun _ _ => ⟨⟨by omega, by rw [ef, hl], by omega, fun e he => ⟨(hg e he).1, by have := (hg e he).2; omega⟩, m0, m1⟩, Nat.le_refl 1, le, le⟩) rfl ?_ hb5 ((((kp1.trans kp2).trans kp3).trans (Kp.new hp)).trans kp5)
    exact .cons (.str _) (.cons (.int _) (.cons (.int _) (.cons (.tup (.inl (.inl hp5)) ((ht.mono (Tk.new hp)).mono (kp5.tk1 hb4))) (.cons (.int _) .nil))))
abbrev N_law_simple : List Str := ["_law_box", "_law_shape", "_law_turn", "_law_handler_here", "_law_kind", "_law_number"]
theorem rd_law_simple (vs : List V) (H : Hp) (Q : VK) (E : XK) (h : spSimple K vs H Q E) : t_law_simple K spTake (spCallS K) (spPart K 5) { nx := fun _ H' => Q .non H', rt := Q } (start N_law_simple vs) H := by
  obtain ⟨b, sh, l, cs, nk, turn, hand, rfl, hb, s, q⟩ := h
  refine ⟨_, rfl, b, l, 9, rfl, hb, by decide, by decide, fun r l1 H1 r0 r1 hb1 kp1 => ?_⟩
  have s1 := s.mono kp1
  have l7 : ∀ {e : Ex}, e.dep ≤ 3 → e.len ≤ 7 := fun h => Ex.len_le (n := 2) h
  refine r_if (pb_and (pb_eqI rfl) (pb_var rfl)) (fun e => ?_) fun _ => r_if (pb_and (pb_eqI rfl) (pb_var rfl)) (fun e => ?_) fun _ => r_if (pb_eqI rfl) (fun _ => ?_) fun _ => r_if (pb_eqI rfl) (fun _ => ?_) fun _ => r_if (pb_eqI rfl) (fun _ => ?_) fun _ =>
    r_if (pb_eqI rfl) (fun _ => ?_) fun _ => r_if (pb_eqI rfl) (fun _ => ?_) fun _ => ?_
  · have hh : hand = true := (Bool.and_eq_true_iff.mp e).2
    exact ⟨(by show 1 ≤ sizeLine; decide), Drawn.mk q .again ⟨hh, Nat.le_refl 1, (by decide), (by decide)⟩ rfl (.cons (.str _) .nil) hb1 kp1⟩
  · have hh : turn = true := (Bool.and_eq_true_iff.mp e).2
    refine ⟨(by show 2 ≤ sizeLine; decide), fun p hp => ?_⟩
    have hb2 := box_new (o := .lst [.str "break", .str "continue"]) hb1 hp
    have pb : p ≠ b := fun e => by rw [e, hb1] at hp; cases hp
    refine ⟨_, rfl, b, l1, 2, rfl, hb2, by decide, by decide, fun x l2 H2 x0 x1 hb3 kp3 => ?_⟩
    have hp3 := kp3 p _ upd_same pb
    have hx : x = 0 ∨ x = 1 := by omega
    rcases hx with rfl | rfl
    · exact ⟨p, _, 0, .str "break", rfl, rfl, SqL.of hp3, rfl, (by show 1 ≤ sizeLine; decide), Drawn.mk q .brk ⟨hh, Nat.le_refl 1, (by decide), (by decide)⟩ rfl (.cons (.str _) .nil) hb3 ((kp1.trans (Kp.new hp)).trans kp3)⟩
    · exact ⟨p, _, 1, .str "continue", rfl, rfl, SqL.of hp3, rfl, (by show 1 ≤ sizeLine; decide), Drawn.mk q .cnt ⟨hh, Nat.le_refl 1, (by decide), (by decide)⟩ rfl (.cons (.str _) .nil) hb3 ((kp1.trans (Kp.new hp)).trans kp3)⟩
  · exact ⟨_, rfl, _, rfl, b, sh, l1, cs, nk, rfl, hb1, s1, fun v x l' H' gx tx hb' kp' => q v x l' H' (gx turn hand) tx hb' (kp1.trans kp')⟩
  · refine ⟨_, rfl, b, l1, 1, rfl, hb1, by decide, fun v e l2 H2 we de te hb2 kp2 => ?_⟩
    obtain ⟨c, h1, h2, cb⟩ := s1.ex
    have h1' := kp2 _ _ h1 s1.ne
    refine ⟨_, rfl, rd_ixL (j := 1) rfl (SqL.of h1') rfl ⟨b, l2, _, rfl, hb2, by have := s.n0; omega, by have := s.n9; omega, fun x l3 H3 x0 x1 hb3 kp3 => ⟨_, rfl, ?_⟩⟩⟩
    obtain ⟨kd, rfl⟩ : ∃ k : Nat, x = (k : Int) := ⟨x.toNat, by omega⟩
    refine ⟨_, rfl, b, l3, 1000, rfl, hb3, by decide, by decide, fun m l4 H4 m0 m1 hb4 kp4 => ⟨(by show 4 ≤ sizeLine; decide), ?_⟩⟩
    have le := Ex.len_le (n := 1) de
    exact Drawn.mk q (.rais kd e m) ⟨⟨by omega, ⟨we, by omega⟩, m0, m1⟩, Nat.le_refl 1, (by show e.len + 1 ≤ 11; omega), (by show e.len + 1 ≤ 11; omega)⟩ rfl (.cons (.str _) (.cons (.int _) (.cons ((te.mono (kp3.tk1 hb2)).mono (kp4.tk1 hb3)) (.cons (.int _) .nil)))) hb4 (((kp1.trans kp2).trans kp3).trans kp4)
  · refine ⟨_, rfl, b, l1, 2, rfl, hb1, by decide, fun v e l2 H2 we de te hb2 kp2 => ⟨(by show 2 ≤ sizeLine; decide), ?_⟩⟩
    have le := l7 de
    exact Drawn.mk q (.ret e) ⟨⟨we, by omega⟩, Nat.le_refl 1, (by show e.len + 1 ≤ 11; omega), (by show e.len + 1 ≤ 11; omega)⟩ rfl (.cons (.str _) (.cons te .nil)) hb2 (kp1.trans kp2)
  · refine ⟨(by show 0 ≤ sizeLine; decide), fun p hp => ⟨(by show 2 ≤ sizeLine; decide), ?_⟩⟩
    exact Drawn.mk q (.row .nil) ⟨trivial, Nat.le_refl 1, (by show 0 ≤ 11; omega), (by show 0 ≤ 11; omega)⟩ rfl (.cons (.str _) (.cons (.tup (.inl (.inl upd_same)) .nil) .nil)) (box_new hb1 hp) (kp1.trans (Kp.new hp))
  · refine ⟨_, rfl, b, l1, 8, rfl, hb1, by decide, by decide, fun x l2 H2 x0 x1 hb2 kp2 => ?_⟩
    obtain ⟨k, rfl⟩ : ∃ k : Nat, x = (k : Int) := ⟨x.toNat, by omega⟩
    refine ⟨_, rfl, b, l2, 2, rfl, hb2, by decide, fun v e l3 H3 we de te hb3 kp3 => ⟨(by show 3 ≤ sizeLine; decide), ?_⟩⟩
    have le := l7 de
    exact Drawn.mk q (.set k e) ⟨⟨by omega, we, by omega⟩, Nat.le_refl 1, (by show e.len + 1 ≤ 11; omega), (by show e.len + 1 ≤ 11; omega)⟩ rfl (.cons (.str _) (.cons (.int _) (.cons te .nil))) hb3 ((kp1.trans kp2).trans kp3)
  · refine ⟨_, rfl, b, l1, 2, rfl, hb1, by decide, fun v e l2 H2 we de te hb2 kp2 => ⟨(by show 2 ≤ sizeLine; decide), ?_⟩⟩
    have le := l7 de
    exact Drawn.mk q (.say e) ⟨⟨we, by omega⟩, Nat.le_refl 1, (by show e.len + 1 ≤ 11; omega), (by show e.len + 1 ≤ 11; omega)⟩ rfl (.cons (.str _) (.cons te .nil)) hb2 (kp1.trans kp2)
abbrev N_law_handler : List Str := ["_law_box", "_law_shape", "_law_deep", "_law_turn", "_law_kind", "_law_slot"]
theorem rd_law_handler {n : Nat} (vs : List V) (H : Hp) (Q : VK) (E : XK) (h : spHandler K n vs H Q E) : t_law_handler K spTake (spStmt K n) { nx := fun _ H' => Q .non H', rt := Q } (start N_law_handler vs) H := by
  obtain ⟨b, sh, l, cs, nk, d, turn, rfl, hb, s, hd, q⟩ := h
  obtain ⟨c, h1, h2, cb⟩ := s.ex
  refine ⟨_, rfl, rd_ixL (j := 1) rfl (SqL.of h1) rfl ⟨_, _, rfl, rfl, b, l, _, rfl, hb, by have := s.n0; omega, by have := s.n9; omega, fun r l1 H1 r0 r1 hb1 kp1 => ?_⟩⟩
  refine ⟨_, rfl, b, l1, 8, rfl, hb1, by decide, by decide, fun x l2 H2 x0 x1 hb2 kp2 => ?_⟩
  obtain ⟨k, rfl⟩ : ∃ k : Nat, x = (k : Int) := ⟨x.toNat, by omega⟩
  have s2 := s.mono (kp1.trans kp2)
  have h1' := (kp1.trans kp2) _ _ h1 s.ne
  have fin : ∀ o : Option Nat, (∀ j, o = some j → j < nk) → (tRet (tTup (tCons (tVar 4) (tCons (tVar 5) (tCons (tCall (spStmt K n) [] E0 (tCons (tVar 0) (tCons (tVar 1) (tCons (tVar 2) (tCons (tVar 3) (tCons (tC (.bl true)) (tNil))))))) (tNil)))))) { nx := fun _ H' => Q .non H', rt := Q } [some (.ref b), some (.ref sh), some (.int (d : Int)), some (.bl turn), some (kindV o), some (.int (k : Int))] H2 := by
    intro o ho
    refine ⟨_, rfl, _, rfl, _, rfl, _, rfl, _, rfl, _, rfl, b, sh, l2, cs, nk, d, turn, true, rfl, hb2, s2, hd, fun v st l3 H3 g3 t3 hb3 kp3 => ⟨(by show 3 ≤ sizeLine; decide), ?_⟩⟩
    refine Drawn.mk q (o, k, st) ⟨⟨ho, by show k < 8; omega, g3.1⟩, g3.2⟩ rfl ?_ hb3 ((kp1.trans kp2).trans kp3)
    refine .cons ?_ (.cons (.int _) (.cons t3 .nil))
    cases o with
    | none => exact .non
    | some j => exact .int _
  refine ⟨_, rfl, rd_ixL (j := 1) rfl (SqL.of h1') rfl ⟨rfl, _, rfl, ifB (fun _ => fin none fun _ z => by cases z) fun e => ?_⟩⟩
  have hr : r ≠ (nk : Int) := fun z => by rw [z] at e; simp at e
  have := fin (some r.toNat) fun j z => by cases z; omega
  rw [show kindV (some r.toNat) = V.int r by show V.int (r.toNat : Int) = _; rw [Int.toNat_of_nonneg r0]] at this
  exact this
theorem stT {cs : List Nat} {nk : Nat} {turn hand : Bool} {D R D' R' : Nat} {s : Sm} (h : StmtOk cs nk turn hand D R s) (hd : D ≤ D') (hr : R ≤ R') : StmtOk cs nk turn hand D' R' s := ⟨h.1, Nat.le_trans h.2.1 hd, Nat.le_trans h.2.2.1 hr, Nat.le_trans h.2.2.2 (Bw_mono (by omega))⟩
theorem d5 {b sh : Addr} {d : Nat} {t u : Bool} (h : 0 < d) : [V.ref b, .ref sh, V.int ((d : Int) - 1), .bl t, .bl u] = [V.ref b, .ref sh, V.int ((d - 1 : Nat) : Int), .bl t, .bl u] := by
  rw [show ((d : Int) - 1) = ((d - 1 : Nat) : Int) by omega]
theorem d4 {b sh : Addr} {d : Nat} {t : Bool} (h : 0 < d) : [V.ref b, .ref sh, V.int ((d : Int) - 1), .bl t] = [V.ref b, .ref sh, V.int ((d - 1 : Nat) : Int), .bl t] := by
  rw [show ((d : Int) - 1) = ((d - 1 : Nat) : Int) by omega]
abbrev N_law_statement : List Str := ["_law_box", "_law_shape", "_law_deep", "_law_turn", "_law_handler_here", "_law_kind", "_law_k", "_law_many", "_law_part_here", "_law_yes", "_law_inner"]
theorem rd_law_statement {n : Nat} (vs : List V) (H : Hp) (Q : VK) (E : XK) (h : spStmt K (n + 1) vs H Q E) : t_law_statement K spTake (spSimple K) (spStmt K n) (spPart K 5) (spHandler K n) { nx := fun _ H' => Q .non H', rt := Q } (start N_law_statement vs) H := by
  obtain ⟨b, sh, l, cs, nk, d, turn, hand, rfl, hb, s, hd, q⟩ := h
  refine ⟨_, rfl, b, l, 14, rfl, hb, by decide, by decide, fun r l1 H1 r0 r1 hb1 kp1 => ?_⟩
  have s1 := s.mono kp1
  refine r_if (pb_or (pb_eqI rfl) (pb_lt rfl)) (fun _ => ?_) fun e => ?_
  · exact ⟨_, rfl, _, rfl, _, rfl, _, rfl, b, sh, l1, cs, nk, turn, hand, rfl, hb1, s1, fun v x l' H' gx tx hb' kp' => q v x l' H' (stT gx (by omega) (Bd_ge d)) tx hb' (kp1.trans kp')⟩
  obtain ⟨e0, _⟩ := Bool.or_eq_false_iff.mp e
  have hd0 : 0 < d := by
    by_cases z : d = 0
    · subst z; exact absurd rfl (of_decide_eq_false e0)
    · omega
  obtain ⟨d, rfl⟩ : ∃ m, d = m + 1 := ⟨d - 1, by omega⟩
  have eB : Bd (d + 1) = max 66 (3 * Bd d + 9) := rfl
  have gB := Bd_ge d
  have eW : Bw (d + 1) = max 72 (3 * Bw d + 9) := rfl
  have gW := Bw_ge d
  have rest : ∀ (l1 : List Int) (H1 : Hp), H1 b = some (.lst (l1.map V.int)) → Kp (Bx b) H H1 → ShAt H1 b sh cs nk → (tSeq (tIfS (tTest (tOp rLt (tVar 5) (tC (.int 7)))) (tSeq (tAsg (tOp rAdI (tC (.int 2)) (tCall spTake [] E0 (tCons (tVar 0) (tCons (tC (.int 2)) (tNil))))) (gName 7)) (tRet (tTup (tCons (tC (.str "row")) (tCons (tCB (rTupOf K) (tCons (tLc (iRng1 (tCons (tVar 7) (tNil))) (gName 6) (tYes) (tCall (spStmt K n) [] E0 (tCons (tVar 0) (tCons (tVar 1) (tCons (tOp rSbI (tVar 2) (tC (.int 1))) (tCons (tVar 3) (tCons (tVar 4) (tNil))))))) [6]) (tNil))) (tNil)))))) (tNext)) (tSeq (tIfS (tTest (tOp rEq (tVar 5) (tC (.int 7)))) (tSeq (tAsg (tCall (spPart K 5) [] E0 (tCons (tVar 0) (tCons (tC (.int 2)) (tNil)))) (gName 8)) (tSeq (tAsg (tCall (spStmt K n) [] E0 (tCons (tVar 0) (tCons (tVar 1) (tCons (tOp rSbI (tVar 2) (tC (.int 1))) (tCons (tVar 3) (tCons (tVar 4) (tNil))))))) (gName 9)) (tRet (tTup (tCons (tC (.str "if")) (tCons (tVar 8) (tCons (tVar 9) (tCons (tCall (spStmt K n) [] E0 (tCons (tVar 0) (tCons (tVar 1) (tCons (tOp rSbI (tVar 2) (tC (.int 1))) (tCons (tVar 3) (tCons (tVar 4) (tNil))))))) (tNil))))))))) (tNext)) (tSeq (tIfS (tTest (tOp rLt (tVar 5) (tC (.int 9)))) (tSeq (tAsg (tCall (spPart K 5) [] E0 (tCons (tVar 0) (tCons (tC (.int 2)) (tNil)))) (gName 8)) (tRet (tTup (tCons (tC (.str "while")) (tCons (tVar 8) (tCons (tCall (spStmt K n) [] E0 (tCons (tVar 0) (tCons (tVar 1) (tCons (tOp rSbI (tVar 2) (tC (.int 1))) (tCons (tC (.bl true)) (tCons (tVar 4) (tNil))))))) (tNil))))))) (tNext)) (tSeq (tAsg (tCall (spStmt K n) [] E0 (tCons (tVar 0) (tCons (tVar 1) (tCons (tOp rSbI (tVar 2) (tC (.int 1))) (tCons (tVar 3) (tCons (tVar 4) (tNil))))))) (gName 10)) (tSeq (tIfS (tTest (tOp rLt (tVar 5) (tC (.int 12)))) (tSeq (tAsg (tOp rAdI (tC (.int 1)) (tCall spTake [] E0 (tCons (tVar 0) (tCons (tC (.int 2)) (tNil))))) (gName 7)) (tRet (tTup (tCons (tC (.str "try")) (tCons (tVar 10) (tCons (tCB (rTupOf K) (tCons (tLc (iRng1 (tCons (tVar 7) (tNil))) (gName 6) (tYes) (tCall (spHandler K n) [] E0 (tCons (tVar 0) (tCons (tVar 1) (tCons (tOp rSbI (tVar 2) (tC (.int 1))) (tCons (tVar 3) (tNil)))))) [6]) (tNil))) (tNil))))))) (tNext)) (tRet (tTup (tCons (tC (.str "clean")) (tCons (tVar 10) (tCons (tCall (spStmt K n) [] E0 (tCons (tVar 0) (tCons (tVar 1) (tCons (tOp rSbI (tVar 2) (tC (.int 1))) (tCons (tVar 3) (tCons (tVar 4) (tNil))))))) (tNil))))))))))) { nx := fun _ H' => Q .non H', rt := Q } [some (.ref b), some (.ref sh), some (.int ((d + 1 : Nat) : Int)), some (.bl turn), some (.bl hand), some (.int r), none, none, none, none, none] H1 := by
    intro l1 H1 hb1 kp1 s1
    -- a statement one less deep
    have sub : ∀ (t h : Bool) {l2 : List Int} {H2 : Hp} {Q2 : VK}, H2 b = some (.lst (l2.map V.int)) → ShAt H2 b sh cs nk → Drawn K b H2 Q2 Sm.d (StmtOk cs nk t h (d + 1) (Bd d)) → spStmt K n [.ref b, .ref sh, .int (((d + 1 : Nat) : Int) - 1), .bl t, .bl h] H2 Q2 E0 :=
      fun t h {l2 H2 Q2} hb2 s2 dr => ⟨b, sh, l2, cs, nk, d, t, h, by rw [show (((d + 1 : Nat) : Int) - 1) = (d : Int) by omega], hb2, s2, by omega, dr⟩
    refine r_if (pb_lt rfl) (fun _ => ?_) fun _ => r_if (pb_eqI rfl) (fun _ => ?_) fun _ => r_if (pb_lt rfl) (fun _ => ?_) fun _ => ?_
    · -- row
      refine ⟨_, rfl, b, l1, 2, rfl, hb1, by decide, by decide, fun x l2 H2 x0 x1 hb2 kp2 => ⟨_, _, rfl, rfl, ?_⟩⟩
      have s2 := s1.mono kp2
      refine ⟨_, rfl, _, rfl, by omega, by omega, fun D hD => ?_⟩
      refine lc_draw (K := K) (l := l2) Sm.d (StmtOk cs nk turn hand (d + 1) (Bd d)) _ ?hn hb2 hD ?hw ?_ ?_
      case hn => omega
      case hw => exact fun _ => rfl
      · intro i H3 l3 hi hb3 kp3 Q' dr
        exact ⟨_, rfl, _, rfl, _, rfl, _, _, rfl, rfl, _, rfl, _, rfl, sub turn hand hb3 (s2.mono kp3) dr⟩
      · intro items us l3 H3 hl hg hD3 ht hb3 kp3
        refine ⟨D, us, rfl, .inl ⟨SqL.of hD3, fun p hp => ⟨(by show 2 ≤ sizeLine; decide), ?_⟩⟩⟩
        have hl3 : items.length ≤ 3 := by omega
        have len := Sms.len_ofL (n := Bd d) fun s hs => (hg s hs).2.2.1
        have wgt := Sms.wgt_ofL (n := Bw d) fun s hs => (hg s hs).2.2.2
        have : items.length * Bd d ≤ 3 * Bd d := Nat.mul_le_mul_right _ hl3
        have : items.length * (Bw d + 1) ≤ 3 * (Bw d + 1) := Nat.mul_le_mul_right _ hl3
        refine Drawn.mk q (.row (Sms.ofL items)) ⟨Sms.wf_ofL fun s hs => (hg s hs).1, ?_, ?_, ?_⟩ rfl (.cons (.str _) (.cons (.tup (.inl (.inl upd_same)) ?_) .nil)) (box_new hb3 hp) (((kp1.trans kp2).trans kp3).trans (Kp.new hp))
        · show (Sms.ofL items).dep + 1 ≤ d + 1 + 1
          have := Sms.dep_ofL (n := d + 1) fun s hs => (hg s hs).2.1
          omega
        · show (Sms.ofL items).len ≤ Bd (d + 1)
          omega
        · show (Sms.ofL items).wgt ≤ Bw (d + 1)
          omega
        · rw [Sms.ds_ofL]
          exact ht.mono (Tk.new hp)
    · -- if
      refine ⟨_, rfl, b, l1, 2, rfl, hb1, by decide, fun v e l2 H2 we de te hb2 kp2 => ?_⟩
      refine ⟨_, rfl, _, rfl, _, rfl, _, _, rfl, rfl, _, rfl, _, rfl, sub turn hand hb2 (s1.mono kp2) fun v1 y l3 H3 gy ty hb3 kp3 => ?_⟩
      refine ⟨_, rfl, _, rfl, _, rfl, _, rfl, _, rfl, _, _, rfl, rfl, _, rfl, _, rfl, sub turn hand hb3 ((s1.mono kp2).mono kp3) fun v2 z l4 H4 gz tz hb4 kp4 => ⟨(by show 4 ≤ sizeLine; decide), ?_⟩⟩
      have le := Ex.len_le (n := 2) de
      have y2 := gy.2.1; have y3 := gy.2.2.1; have z2 := gz.2.1; have z3 := gz.2.2.1
      have y4 : y.wgt ≤ Bw d := gy.2.2.2
      have z4 : z.wgt ≤ Bw d := gz.2.2.2
      exact Drawn.mk q (.ife e y z) ⟨⟨⟨we, by omega⟩, gy.1, gz.1⟩, by show max y.dep z.dep + 1 ≤ _; omega, by show e.len + 1 + y.len + 1 + z.len ≤ _; omega, by show e.len + 1 + y.wgt + 1 + z.wgt ≤ Bw (d + 1); omega⟩ rfl (.cons (.str _) (.cons ((te.mono (kp3.tk1 hb2)).mono (kp4.tk1 hb3)) (.cons (ty.mono (kp4.tk1 hb3)) (.cons tz .nil)))) hb4 (((kp1.trans kp2).trans kp3).trans kp4)
    · -- while
      refine ⟨_, rfl, b, l1, 2, rfl, hb1, by decide, fun v e l2 H2 we de te hb2 kp2 => ?_⟩
      refine ⟨_, rfl, _, rfl, _, rfl, _, rfl, _, _, rfl, rfl, _, rfl, sub true hand hb2 (s1.mono kp2) fun v1 y l3 H3 gy ty hb3 kp3 => ⟨(by show 3 ≤ sizeLine; decide), ?_⟩⟩
      have le := Ex.len_le (n := 2) de
      have y2 := gy.2.1; have y3 := gy.2.2.1
      have y4 : y.wgt ≤ Bw d := gy.2.2.2
      exact Drawn.mk q (.whl e y) ⟨⟨⟨we, by omega⟩, gy.1⟩, by show y.dep + 1 ≤ _; omega, by show e.len + 2 + y.len + 1 ≤ _; omega, by show e.len + 2 + y.wgt + 1 ≤ Bw (d + 1); omega⟩ rfl (.cons (.str _) (.cons (te.mono (kp3.tk1 hb2)) (.cons ty .nil))) hb3 ((kp1.trans kp2).trans kp3)
    · -- try, clean
      refine ⟨_, rfl, _, rfl, _, rfl, _, _, rfl, rfl, _, rfl, _, rfl, sub turn hand hb1 s1 fun v1 y l2 H2 gy ty hb2 kp2 => ?_⟩
      have s2 := s1.mono kp2
      have y2 := gy.2.1; have y3 := gy.2.2.1
      have y4 : y.wgt ≤ Bw d := gy.2.2.2
      refine r_if (pb_lt rfl) (fun _ => ?_) fun _ => ?_
      · refine ⟨_, rfl, b, l2, 2, rfl, hb2, by decide, by decide, fun x l3 H3 x0 x1 hb3 kp3 => ⟨_, _, rfl, rfl, ?_⟩⟩
        have s3 := s2.mono kp3
        refine ⟨_, rfl, _, rfl, _, rfl, by omega, by omega, fun D hD => ?_⟩
        refine lc_draw (K := K) (l := l3) hdD (HdOk cs nk turn (d + 1) (Bd d)) _ ?hn2 hb3 hD ?hw2 ?_ ?_
        case hn2 => omega
        case hw2 => exact fun _ => rfl
        · intro i H4 l4 hi hb4 kp4 Q' dr
          exact ⟨_, rfl, _, rfl, _, rfl, _, _, rfl, rfl, _, rfl, b, sh, l4, cs, nk, d, turn, by show [V.ref b, .ref sh, V.int (((d + 1 : Nat) : Int) - 1), .bl turn] = _; rw [show (((d + 1 : Nat) : Int) - 1) = (d : Int) by omega], hb4, s3.mono kp4, by omega, dr⟩
        · intro items us l4 H4 hl hg hD4 ht hb4 kp4
          refine ⟨D, us, rfl, .inl ⟨SqL.of hD4, fun p hp => ⟨(by show 3 ≤ sizeLine; decide), ?_⟩⟩⟩
          have hl3 : items.length ≤ 2 := by omega
          have len := Hds.len_ofL (n := Bd d) fun s hs => (hg s hs).2.2.1
          have wgt := Hds.wgt_ofL (n := Bw d) fun s hs => (hg s hs).2.2.2
          have : items.length * (Bw d + 4) ≤ 2 * (Bw d + 4) := Nat.mul_le_mul_right _ hl3
          have : items.length * (Bd d + 4) ≤ 2 * (Bd d + 4) := Nat.mul_le_mul_right _ hl3
          refine Drawn.mk q (.tri y (Hds.ofL items)) ⟨⟨gy.1, Hds.wf_ofL fun s hs => (hg s hs).1⟩, ?_, ?_, ?_⟩ rfl (.cons (.str _) (.cons (((ty.mono (kp3.tk1 hb2)).mono (kp4.tk1 hb3)).mono (Tk.new hp)) (.cons (.tup (.inl (.inl upd_same)) ?_) .nil))) (box_new hb4 hp) ((((kp1.trans kp2).trans kp3).trans kp4).trans (Kp.new hp))
          · show max y.dep (Hds.ofL items).dep + 1 ≤ d + 1 + 1
            have := Hds.dep_ofL (n := d + 1) fun s hs => (hg s hs).2.1
            omega
          · show y.len + 1 + (Hds.ofL items).len ≤ Bd (d + 1)
            omega
          · show y.wgt + 1 + (Hds.ofL items).wgt ≤ Bw (d + 1)
            omega
          · rw [Hds.ds_ofL]
            exact ht.mono (Tk.new hp)
      · refine ⟨_, rfl, _, rfl, _, rfl, _, rfl, _, _, rfl, rfl, _, rfl, _, rfl, sub turn hand hb2 s2 fun v2 z l3 H3 gz tz hb3 kp3 => ⟨(by show 3 ≤ sizeLine; decide), ?_⟩⟩
        have z2 := gz.2.1; have z3 := gz.2.2.1
        have z4 : z.wgt ≤ Bw d := gz.2.2.2
        exact Drawn.mk q (.cln y z) ⟨⟨gy.1, gz.1⟩, by show max y.dep z.dep + 1 ≤ _; omega, by show y.len + 2 + z.len + 1 ≤ _; omega, by show y.wgt + z.wgt + 28 ≤ Bw (d + 1); omega⟩ rfl (.cons (.str _) (.cons (ty.mono (kp3.tk1 hb2)) (.cons tz .nil))) hb3 ((kp1.trans kp2).trans kp3)
  -- kind 4, a row of simple ones
  refine ⟨_, rfl, rfl, _, rfl, ifB (fun _ => ?_) fun _ => rest l1 H1 hb1 kp1 s1⟩
  refine ⟨_, rfl, b, l1, 3, rfl, hb1, by decide, by decide, fun x l2 H2 x0 x1 hb2 kp2 => ⟨rfl, _, rfl, ifB (fun _ => ?_) fun _ => rest l2 H2 hb2 (kp1.trans kp2) (s1.mono kp2)⟩⟩
  refine ⟨_, rfl, b, l2, 7, rfl, hb2, by decide, by decide, fun y l3 H3 y0 y1 hb3 kp3 => ⟨_, rfl, by omega, by omega, fun D hD => ?_⟩⟩
  have s3 := (s1.mono kp2).mono kp3
  refine lc_draw (K := K) (l := l3) Sm.d (StmtOk cs nk turn hand 1 11) _ ?hn hb3 hD ?hw ?_ ?_
  case hn => omega
  case hw => exact fun _ => rfl
  · intro i H4 l4 hi hb4 kp4 Q' dr
    exact ⟨_, rfl, _, rfl, _, rfl, _, rfl, b, sh, l4, cs, nk, turn, hand, rfl, hb4, s3.mono kp4, dr⟩
  · intro items us l4 H4 hl hg hD4 ht hb4 kp4
    refine ⟨D, us, rfl, .inl ⟨SqL.of hD4, fun p hp => ⟨(by show 2 ≤ sizeLine; decide), ?_⟩⟩⟩
    have hl6 : items.length ≤ 6 := by omega
    have len := Sms.len_ofL (n := 11) fun s hs => (hg s hs).2.2.1
    have wgt := Sms.wgt_ofL (n := 11) fun s hs => (hg s hs).2.2.2
    have : items.length * 11 ≤ 6 * 11 := Nat.mul_le_mul_right _ hl6
    have : items.length * (11 + 1) ≤ 6 * (11 + 1) := Nat.mul_le_mul_right _ hl6
    refine Drawn.mk q (.row (Sms.ofL items)) ⟨Sms.wf_ofL fun s hs => (hg s hs).1, ?_, ?_, ?_⟩ rfl (.cons (.str _) (.cons (.tup (.inl (.inl upd_same)) ?_) .nil)) (box_new hb4 hp) ((((kp1.trans kp2).trans kp3).trans kp4).trans (Kp.new hp))
    · show (Sms.ofL items).dep + 1 ≤ d + 1 + 1
      have := Sms.dep_ofL (n := 1) fun s hs => (hg s hs).2.1
      omega
    · show (Sms.ofL items).len ≤ Bd (d + 1)
      omega
    · show (Sms.ofL items).wgt ≤ Bw (d + 1)
      omega
    · rw [Sms.ds_ofL]
      exact ht.mono (Tk.new hp)
/-! ### programs -/
structure PgOk (p : Pg) : Prop where
  wf : p.Wf
  small : p.Small 5 1890
  k4 : p.kinds.length ≤ 4
  f4 : p.funs.length ≤ 4
  wgt : ∀ f ∈ p.funs, f.2.wgt ≤ 2060
def spProgram (K : PySem.W.Frag) : Sp := fun vs H Q _ => ∃ (b : Addr) (l : List Int), vs = [.ref b] ∧ H b = some (.lst (l.map V.int)) ∧ Drawn K b H Q Pg.d PgOk
abbrev N_law_program : List Str := ["_law_box", "_law_kinds_here", "_law_shape", "_law_k", "_law_functions", "_law_many", "_law_parts"]
theorem rd_law_program (vs : List V) (H : Hp) (Q : VK) (E : XK) (h : spProgram K vs H Q E) : t_law_program K spKinds spTake (spStmt K 4) { nx := fun _ H' => Q .non H', rt := Q } (start N_law_program vs) H := by
  obtain ⟨b, l, rfl, hb, q⟩ := h
  refine ⟨_, rfl, b, l, 4, rfl, hb, by decide, by decide, fun a ks l1 H1 wk k0 k4 ha _ hb1 kp1 => ?_⟩
  have ab : a ≠ b := ne_of ha hb1 (by intro z; cases z)
  refine ⟨_, rfl, b, l1, 4, rfl, hb1, by decide, by decide, fun n l2 H2 n0 n1 hb2 kp2 => ⟨_, _, rfl, rfl, ?_⟩⟩
  refine ⟨_, rfl, by omega, by omega, fun c hc => ?_⟩
  have cb : c ≠ b := fun e => by rw [e, hb2] at hc; cases hc
  refine lc_draw (K := K) (l := l2) (fun n : Nat => PyData.int (n : Int)) (fun n : Nat => n ≤ 3) _ ?hn hb2 hc ?hw ?_ ?_
  case hn => omega
  case hw => exact fun _ => rfl
  · intro i H3 l3 hi hb3 kp3 Q' dr
    refine ⟨_, rfl, b, l3, 4, rfl, hb3, by decide, by decide, fun x l4 H4 x0 x1 hb4 kp4 => ?_⟩
    obtain ⟨k, rfl⟩ : ∃ k : Nat, x = (k : Int) := ⟨x.toNat, by omega⟩
    exact dr _ k l4 H4 (by show k ≤ 3; omega) (.int _) hb4 kp4
  · intro cs cvs l3 H3 hl hg hc3 ht hb3 kp3
    have ecs : cvs = cs.map fun n : Nat => V.int (n : Int) := by
      clear hl hg hc3
      induction cs generalizing cvs with
      | nil => exact ht.nilE
      | cons x r ih =>
        obtain ⟨v, us, rfl, h1, h2⟩ := TpAll.consE ht
        rw [h1.intE, ih us h2]; rfl
    subst ecs
    have ha3 := kp3 _ _ (kp2 _ _ ha ab) ab
    refine ⟨_, rfl, a, _, rfl, .inr (SqT.of ha3), (by show 2 ≤ sizeLine; decide), fun sh hsh => ?_⟩
    rw [List.length_map]
    have hc4 : L2.upd H3 sh (.lst [.ref c, .int (ks.length : Int)]) c = some (.lst (cs.map fun n : Nat => V.int (n : Int))) := by rw [upd_ne (ne_of_none hc3 hsh)]; exact hc3
    have hb4 := box_new (o := .lst [.ref c, .int (ks.length : Int)]) hb3 hsh
    have shb : sh ≠ b := fun e => by rw [e, hb3] at hsh; cases hsh
    have shA : ShAt (L2.upd H3 sh (.lst [.ref c, .int (ks.length : Int)])) b sh cs ks.length := ⟨⟨c, upd_same, hc4, cb⟩, shb, k0, by omega, by omega, by omega, hg⟩
    have ha4 : L2.upd H3 sh (.lst [.ref c, .int (ks.length : Int)]) a = some (.tup (ks.map kindV)) := by rw [upd_ne (ne_of_none ha3 hsh)]; exact ha3
    have kp4 : Kp (Bx b) H (L2.upd H3 sh (.lst [.ref c, .int (ks.length : Int)])) := ((kp1.trans kp2).trans kp3).trans (Kp.new hsh)
    refine ⟨(by show 0 ≤ sizeLine; decide), fun F hF => ?_⟩
    have Fb : F ≠ b := fun e => by rw [e, hb4] at hF; cases hF
    have Fsh : F ≠ sh := fun e => by rw [e, upd_same] at hF; cases hF
    have Fc : F ≠ c := fun e => by rw [e, hc4] at hF; cases hF
    have Fa : F ≠ a := fun e => by rw [e, ha4] at hF; cases hF
    have shA5 : ShAt (L2.upd (L2.upd H3 sh (.lst [.ref c, .int (ks.length : Int)])) F (.lst [])) b sh cs ks.length := shA.mono (Kp.new hF)
    obtain ⟨c', hx1, hx2, _⟩ := shA5.ex
    refine rd_ixL (j := 0) rfl (SqL.of hx1) rfl ⟨_, rfl, ⟨_, SqL.of hx2⟩, for_list (K := K) (a := c') (xs := cs.map fun n : Nat => V.int (n : Int))
      (fun i σ H' => ∃ (fs : List (Nat × Sm)) (fvs : List V) (l' : List Int) (v3 v5 v6 : Option V), σ = [some (.ref b), some (.ref a), some (.ref sh), v3, some (.ref F), v5, v6] ∧ fs.map (·.1) = cs.take i ∧
        (∀ f ∈ fs, f.2.Wf cs ks.length false false ∧ f.2.dep ≤ 5 ∧ f.2.len ≤ 1890 ∧ f.2.wgt ≤ 2060) ∧ H' F = some (.lst fvs) ∧ TpAll K H' fvs (fs.map funD) ∧ H' b = some (.lst (l'.map V.int)) ∧ Kp (Bx b) (L2.upd H3 sh (.lst [.ref c, .int (ks.length : Int)])) H' ∧ H' c' = some (.lst (cs.map fun n : Nat => V.int (n : Int))))
      ⟨[], [], l3, none, none, none, rfl, rfl, (by simp), upd_same, .nil, box_new hb4 hF, Kp.new hF, hx2⟩ (fun i σ H' _ ⟨_, _, _, _, _, _, _, _, _, _, _, _, _, h⟩ => SqL.of h) ?_ ?_⟩
    · rintro i y σ H5 hy ⟨fs, fvs, l5, v3, v5, v6, rfl, hf1, hf2, hF5, ht5, hb5, kp5, hc5⟩
      have shA6 := shA.mono kp5
      rw [List.getElem?_map] at hy
      cases ei : cs[i]? with
      | none => rw [ei] at hy; cases hy
      | some m =>
        rw [ei] at hy
        obtain rfl : V.int (m : Int) = y := Option.some.inj hy
        refine ⟨_, rfl, b, l5, 3, rfl, hb5, by decide, by decide, fun x l6 H6 x0 x1 hb6 kp6 => ⟨_, _, rfl, rfl, ?_⟩⟩
        have F6 := kp6 _ _ hF5 Fb
        refine ⟨_, rfl, by omega, by omega, fun D hD => ?_⟩
        have DF : F ≠ D := ne_of_none F6 hD
        refine lc_draw (K := K) (l := l6) Sm.d (StmtOk cs ks.length false false 4 (Bd 3)) _ ?hn hb6 hD ?hw ?_ ?_
        case hn => omega
        case hw => exact fun _ => rfl
        · intro i7 H7 l7 hi hb7 kp7 Q' dr
          exact ⟨_, rfl, _, rfl, b, sh, l7, cs, ks.length, 3, false, false, rfl, hb7, (shA6.mono kp6).mono kp7, by decide, dr⟩
        · intro items us l7 H7 hl7 hg7 hD7 ht7 hb7 kp7
          have F7 := kp7 _ _ F6 Fb
          refine ⟨_, rfl, .inl ⟨rfl, _, SqL.of F7⟩, _, rfl, _, rfl, D, us, rfl, .inl ⟨SqL.of hD7, fun p hp => ⟨(by show 2 ≤ sizeLine; decide), fun p2 hp2 => ⟨(by show 2 ≤ sizeLine; decide), fun p3 hp3 => ?_⟩⟩⟩⟩
          have hb8 := box_new (o := .tup us) hb7 hp
          have hb9 := box_new (o := .tup [.str "row", .ref p]) hb8 hp2
          have hb10 := box_new (o := .tup [.int (m : Int), .ref p2]) hb9 hp3
          have F8 : L2.upd (L2.upd (L2.upd H7 p (.tup us)) p2 (.tup [.str "row", .ref p])) p3 (.tup [.int (m : Int), .ref p2]) F = some (.lst fvs) := by
            have e1 := ne_of_none F7 hp
            have z1 : L2.upd H7 p (.tup us) F = some (.lst fvs) := by rw [upd_ne e1]; exact F7
            have e2 := ne_of_none z1 hp2
            have z2 : L2.upd (L2.upd H7 p (.tup us)) p2 (.tup [.str "row", .ref p]) F = some (.lst fvs) := by rw [upd_ne e2]; exact z1
            rw [upd_ne (ne_of_none z2 hp3)]; exact z2
          have kpX : Kp (Bx b) H5 (L2.upd (L2.upd (L2.upd H7 p (.tup us)) p2 (.tup [.str "row", .ref p])) p3 (.tup [.int (m : Int), .ref p2])) := (((kp6.trans kp7).trans (Kp.new hp)).trans (Kp.new hp2)).trans (Kp.new hp3)
          have tkX : Tk H5 (L2.upd (L2.upd (L2.upd H7 p (.tup us)) p2 (.tup [.str "row", .ref p])) p3 (.tup [.int (m : Int), .ref p2])) := kpX.tk1 hb5
          have tB : TpAll K (L2.upd (L2.upd H7 p (.tup us)) p2 (.tup [.str "row", .ref p])) [.int (m : Int), .ref p2] [.int (m : Int), (Sm.row (Sms.ofL items)).d] := by
            refine .cons (.int _) (.cons (Tp.mk hp2 (.cons (.str _) (.cons (Tp.mk hp ?_) .nil))) .nil)
            rw [Sms.ds_ofL]; exact ht7
          have len := Sms.len_ofL (n := 630) fun s hs => (hg7 s hs).2.2.1
          have wgt := Sms.wgt_ofL (n := 684) fun s hs => (hg7 s hs).2.2.2
          have : items.length * (684 + 1) ≤ 3 * (684 + 1) := Nat.mul_le_mul_right _ (by omega)
          have dep := Sms.dep_ofL (n := 4) fun s hs => (hg7 s hs).2.1
          have : items.length * 630 ≤ 3 * 630 := Nat.mul_le_mul_right _ (by omega)
          have fl : fvs.length = i := by
            have e1 := ht5.length
            have e2 : fs.length = (cs.take i).length := by rw [← hf1, List.length_map]
            have := (List.getElem?_eq_some_iff.mp ei).1
            rw [List.length_map] at e1
            rw [List.length_take] at e2
            omega
          have ilt := (List.getElem?_eq_some_iff.mp ei).1
          refine ⟨F, fvs, .ref p3, rfl, rfl, F8, sz_lt1 (by omega), fs ++ [(m, .row (Sms.ofL items))], fvs ++ [.ref p3], l7, _, _, _, rfl, ?_, ?_, upd_same, ?_, ?_, ?_, ?_⟩
          · rw [List.map_append, hf1, List.take_succ, ei]; rfl
          · intro f hf
            rcases List.mem_append.mp hf with z | z
            · exact hf2 f z
            · obtain rfl : f = (m, .row (Sms.ofL items)) := by simpa using z
              exact ⟨Sms.wf_ofL fun s hs => (hg7 s hs).1, by show (Sms.ofL items).dep + 1 ≤ 5; omega, by show (Sms.ofL items).len ≤ 1890; omega, by show (Sms.ofL items).wgt ≤ 2060; omega⟩
          · rw [List.map_append]
            exact ((ht5.mono tkX).snoc (Tp.mk hp3 tB)).mono (Tk.lst F8)
          · rw [upd_ne Fb.symm]; exact hb10
          · exact (kp5.trans kpX).late hF
          · have cF : c' ≠ F := by
              rintro rfl
              rw [upd_same] at hx2
              have := Option.some.inj hx2
              injection this with e
              have hz := shA.c0
              cases cs with
              | nil => simp at hz
              | cons _ _ => cases e
            have cb' : c' ≠ b := by
              obtain ⟨c2, _, _, h3⟩ := shA5.ex
              assumption
            rw [upd_ne cF]; exact kpX _ _ hc5 cb'
    · rintro σ H5 ⟨fs, fvs, l5, v3, v5, v6, rfl, hf1, hf2, hF5, ht5, hb5, kp5, hc5⟩
      rw [List.length_map, List.take_of_length_le (Nat.le_refl _)] at hf1
      have ha5 := kp5 _ _ ha4 ab
      refine ⟨_, rfl, _, rfl, F, fvs, rfl, .inl ⟨SqL.of hF5, fun p hp => ⟨(by show 2 ≤ sizeLine; decide), ?_⟩⟩⟩
      have hcs : Pg.cs ⟨ks, fs⟩ = cs := hf1
      have lf : fs.length = cs.length := by rw [← hf1, List.length_map]
      refine Drawn.mk q (⟨ks, fs⟩ : Pg) ⟨⟨wk, k0, by show ks.length ≤ 8; omega, by show 0 < fs.length; omega, by show fs.length ≤ 8; omega, fun f hf => hg f.1 (by rw [← hf1]; exact List.mem_map_of_mem hf), fun f hf => by rw [hcs]; exact (hf2 f hf).1⟩, ⟨fun f hf => (hf2 f hf).2.1, fun f hf => (hf2 f hf).2.2.1⟩, by show ks.length ≤ 4; omega, by show fs.length ≤ 4; omega, fun f hf => (hf2 f hf).2.2.2⟩ rfl ?_ (box_new hb5 hp) ((kp4.trans kp5).trans (Kp.new hp))
      exact .cons (.tup (.inl (.inl (by rw [upd_ne (ne_of_none ha5 hp)]; exact ha5))) (tp_kinds ks)) (.cons (Tp.mk hp ht5) .nil)
end
end Lp

/-! Lc: rows, code, tables, as data; the two ways of filling in what is behind. -/
namespace Lp
open PySem PySem.Spec PyProof.Rows L2

inductive Rw where
  | num (n : Int)
  | var (k : Nat)
  | op (o : BOp)
  | say
  | set (k : Nat)
  | unless (q : Int)
  | go (z : Int)
  | turn
  | leap (q D : Int)
  | ret
  | rais (kd : Nat) (m : Int)
  | again
  | call (f n : Nat) (m : Int)
  | hand (b x : Int) (kd : Option Nat) (D : Int)
  | settled
  | mend
  | cup (b x D : Int)
  | resume
  deriving DecidableEq
def Rw.d : Rw → PyData
  | .num n => .tuple [.str "num", .int n]
  | .var k => .tuple [.str "var", .int (k : Int)]
  | .op o => .tuple [.str o.s]
  | .say => .tuple [.str "say"]
  | .set k => .tuple [.str "set", .int (k : Int)]
  | .unless q => .tuple [.str "unless", .int q]
  | .go z => .tuple [.str "go", .int z]
  | .turn => .tuple [.str "turn"]
  | .leap q D => .tuple [.str "leap", .int q, .int D]
  | .ret => .tuple [.str "return"]
  | .rais kd m => .tuple [.str "raise", .int (kd : Int), .int m]
  | .again => .tuple [.str "again"]
  | .call f n m => .tuple [.str "call", .int (f : Int), .int (n : Int), .int m]
  | .hand b x kd D => .tuple [.str "handler", .int b, .int x, kindD kd, .int D]
  | .settled => .tuple [.str "settled"]
  | .mend => .tuple [.str "mend"]
  | .cup b x D => .tuple [.str "cleanup", .int b, .int x, .int D]
  | .resume => .tuple [.str "resume"]
def Ex.code : Ex → List Rw
  | .num n => [.num n]
  | .var k => [.var k]
  | .bin o a b => a.code ++ b.code ++ [.op o]
def exsCode : List Ex → List Rw
  | [] => []
  | e :: r => e.code ++ exsCode r
/-- the innermost while: its top, the place behind, its depth -/
abbrev Tn : Type := Int × Int × Int
mutual
def Sm.code (base D : Int) (tn : Tn) : Sm → List Rw
  | .say e => e.code ++ [.say]
  | .set k e => e.code ++ [.set k]
  | .row ps => ps.code base D tn
  | .ife e s t => e.code ++ [.unless (base + e.len + 1 + s.len + 1)] ++ s.code (base + e.len + 1) D tn ++ [.go (base + e.len + 1 + s.len + 1 + t.len)] ++ t.code (base + e.len + 1 + s.len + 1) D tn
  | .whl e s => e.code ++ [.unless (base + e.len + 2 + s.len + 1), .turn] ++ s.code (base + e.len + 2) D (base, base + e.len + 2 + s.len + 1, D) ++ [.go base]
  | .brk => [.leap tn.2.1 tn.2.2]
  | .cnt => [.leap tn.1 tn.2.2]
  | .ret e => e.code ++ [.ret]
  | .call k f ps m => exsCode ps ++ [.call f ps.length m, .set k]
  | .rais kd e m => e.code ++ [.rais kd m]
  | .again => [.again]
  | .tri s hs => s.code base D tn ++ [.go (base + s.len + 1 + hs.len)] ++ hs.code base (base + s.len) (base + s.len + 1 + hs.len) (base + s.len + 1) D tn
  | .cln s c => s.code base D tn ++ [.mend, .cup base (base + s.len + 1) D] ++ c.code (base + s.len + 2) (D + 1) tn ++ [.resume]
def Sms.code (base D : Int) (tn : Tn) : Sms → List Rw
  | .nil => []
  | .cons s r => s.code base D tn ++ r.code (base + s.len) D tn
/-- handlers of the stretch b, x, from the place at_ on; z: the place behind all -/
def Hds.code (b x z at_ D : Int) (tn : Tn) : Hds → List Rw
  | .nil => []
  | .cons k sl t r => [.hand b x k D, .set sl] ++ t.code (at_ + 2) (D + 1) tn ++ [.settled, .go z] ++ r.code b x z (at_ + 2 + t.len + 2) D tn
end
theorem Ex.code_len : ∀ e : Ex, e.code.length = e.len
  | .num _ => rfl
  | .var _ => rfl
  | .bin _ a b => by simp [Ex.code, Ex.len, Ex.code_len a, Ex.code_len b]; omega
theorem exsCode_len : ∀ ps : List Ex, (exsCode ps).length = exsLen ps
  | [] => rfl
  | e :: r => by simp [exsCode, exsLen, Ex.code_len, exsCode_len r]
mutual
theorem Sm.code_len : ∀ (s : Sm) (base D : Int) (tn : Tn), (s.code base D tn).length = s.len
  | .say e, _, _, _ => by simp [Sm.code, Sm.len, Ex.code_len]
  | .set _ e, _, _, _ => by simp [Sm.code, Sm.len, Ex.code_len]
  | .row ps, _, _, _ => by simp [Sm.code, Sm.len, Sms.code_len ps]
  | .ife e s t, _, _, _ => by simp [Sm.code, Sm.len, Ex.code_len, Sm.code_len s, Sm.code_len t]; omega
  | .whl e s, _, _, _ => by simp [Sm.code, Sm.len, Ex.code_len, Sm.code_len s]; omega
  | .brk, _, _, _ => rfl
  | .cnt, _, _, _ => rfl
  | .ret e, _, _, _ => by simp [Sm.code, Sm.len, Ex.code_len]
  | .call _ _ ps _, _, _, _ => by simp [Sm.code, Sm.len, exsCode_len]
  | .rais _ e _, _, _, _ => by simp [Sm.code, Sm.len, Ex.code_len]
  | .again, _, _, _ => rfl
  | .tri s hs, _, _, _ => by simp [Sm.code, Sm.len, Sm.code_len s, Hds.code_len hs]; omega
  | .cln s c, _, _, _ => by simp [Sm.code, Sm.len, Sm.code_len s, Sm.code_len c]; omega
theorem Sms.code_len : ∀ (ps : Sms) (base D : Int) (tn : Tn), (ps.code base D tn).length = ps.len
  | .nil, _, _, _ => rfl
  | .cons s r, _, _, _ => by simp [Sms.code, Sms.len, Sm.code_len s, Sms.code_len r]
theorem Hds.code_len : ∀ (hs : Hds) (b x z at_ D : Int) (tn : Tn), (hs.code b x z at_ D tn).length = hs.len
  | .nil, _, _, _, _, _, _ => rfl
  | .cons k sl t r, _, _, _, _, _, _ => by simp [Hds.code, Hds.len, Sm.code_len t, Hds.code_len r]; omega
end

/-! ### no place is below nought, but where it is handed in -/
def Nng : Rw → Prop
  | .unless q => 0 ≤ q
  | .go z => 0 ≤ z
  | .leap q _ => 0 ≤ q
  | _ => True
theorem Ex.nng : ∀ (e : Ex), ∀ r ∈ e.code, ∀ w D z, r ≠ .leap w D ∧ r ≠ .go z
  | .num _, r, h, w, D, z => by simp [Ex.code] at h; subst h; simp
  | .var _, r, h, w, D, z => by simp [Ex.code] at h; subst h; simp
  | .bin o a b, r, h, w, D, z => by
    simp [Ex.code] at h
    rcases h with h | h | h
    · exact Ex.nng a r h w D z
    · exact Ex.nng b r h w D z
    · subst h; simp
theorem exsCode_nng : ∀ (ps : List Ex), ∀ r ∈ exsCode ps, ∀ w D z, r ≠ .leap w D ∧ r ≠ .go z
  | [], r, h, _, _, _ => by simp [exsCode] at h
  | e :: ps, r, h, w, D, z => by
    rcases List.mem_append.mp (show r ∈ e.code ++ exsCode ps from h) with h | h
    · exact Ex.nng e r h w D z
    · exact exsCode_nng ps r h w D z

/-! ### the law's way: a mark below nought, filled in behind by a look at each row -/
def subL (w z D : Int) (r : Rw) : Rw := if r = .leap w D then .leap z D else r
def subG (z : Int) (r : Rw) : Rw := if r = .go (-1) then .go z else r
theorem map_idL {w z D : Int} {l : List Rw} (h : ∀ r ∈ l, ∀ w D z, r ≠ .leap w D ∧ r ≠ .go z) : l.map (subL w z D) = l := by
  have : l.map (subL w z D) = l.map id := List.map_congr_left fun r hr => by
    unfold subL
    rw [if_neg (h r hr w D 0).1]; rfl
  rw [this, List.map_id]
theorem map_idG {z : Int} {l : List Rw} (h : ∀ r ∈ l, ∀ w D z, r ≠ .leap w D ∧ r ≠ .go z) : l.map (subG z) = l := by
  have : l.map (subG z) = l.map id := List.map_congr_left fun r hr => by
    unfold subG
    rw [if_neg (h r hr 0 0 (-1)).2]; rfl
  rw [this, List.map_id]
mutual
theorem Sm.subL {w z p D0 : Int} (hw : w < 0) (hp : 0 ≤ p) : ∀ (s : Sm) (base D : Int), 0 ≤ base → (s.code base D (p, w, D0)).map (subL w z D0) = s.code base D (p, z, D0)
  | .say e, _, _, _ => by simp [Sm.code, map_idL (Ex.nng e)]; rfl
  | .set _ e, _, _, _ => by simp [Sm.code, map_idL (Ex.nng e)]; rfl
  | .row ps, base, D, h => Sms.subL hw hp ps base D h
  | .ife e s t, base, D, h => by
    simp only [Sm.code, List.map_append, List.map_cons, List.map_nil, map_idL (Ex.nng e)]
    rw [Sm.subL hw hp s _ _ (by omega), Sm.subL hw hp t _ _ (by omega)]; rfl
  | .whl e s, base, D, h => by
    simp only [Sm.code, List.map_append, List.map_cons, List.map_nil, map_idL (Ex.nng e)]
    rw [Sm.subL_id hw s _ _ _ _ _ (by omega) h (by omega)]; rfl
  | .brk, _, _, _ => by simp [Sm.code, Lp.subL]
  | .cnt, _, _, _ => by
    have : p ≠ w := by omega
    simp [Sm.code, Lp.subL, this]
  | .ret e, _, _, _ => by simp [Sm.code, map_idL (Ex.nng e)]; rfl
  | .call _ _ ps _, _, _, _ => by simp [Sm.code, map_idL (exsCode_nng ps)]; exact ⟨rfl, rfl⟩
  | .rais _ e _, _, _, _ => by simp [Sm.code, map_idL (Ex.nng e)]; rfl
  | .again, _, _, _ => rfl
  | .tri s hs, base, D, h => by
    simp only [Sm.code, List.map_append, List.map_cons, List.map_nil]
    rw [Sm.subL hw hp s _ _ h, Hds.subL hw hp hs _ _ _ _ _ (by omega)]; rfl
  | .cln s c, base, D, h => by
    simp only [Sm.code, List.map_append, List.map_cons, List.map_nil]
    rw [Sm.subL hw hp s _ _ h, Sm.subL hw hp c _ _ (by omega)]; rfl
theorem Sms.subL {w z p D0 : Int} (hw : w < 0) (hp : 0 ≤ p) : ∀ (ps : Sms) (base D : Int), 0 ≤ base → (ps.code base D (p, w, D0)).map (subL w z D0) = ps.code base D (p, z, D0)
  | .nil, _, _, _ => rfl
  | .cons s r, base, D, h => by
    simp only [Sms.code, List.map_append]
    rw [Sm.subL hw hp s _ _ h, Sms.subL hw hp r _ _ (by omega)]
theorem Hds.subL {w z p D0 : Int} (hw : w < 0) (hp : 0 ≤ p) : ∀ (hs : Hds) (b x y at_ D : Int), 0 ≤ at_ → (hs.code b x y at_ D (p, w, D0)).map (subL w z D0) = hs.code b x y at_ D (p, z, D0)
  | .nil, _, _, _, _, _, _ => rfl
  | .cons k sl t r, b, x, y, at_, D, h => by
    simp only [Hds.code, List.map_append, List.map_cons, List.map_nil]
    rw [Sm.subL hw hp t _ _ (by omega), Hds.subL hw hp r _ _ _ _ _ (by omega)]; rfl
theorem Sm.subL_id {w z D0 : Int} (hw : w < 0) : ∀ (s : Sm) (base D p q Dq : Int), 0 ≤ base → 0 ≤ p → 0 ≤ q → (s.code base D (p, q, Dq)).map (Lp.subL w z D0) = s.code base D (p, q, Dq)
  | .say e, _, _, _, _, _, _, _, _ => by simp [Sm.code, map_idL (Ex.nng e)]; rfl
  | .set _ e, _, _, _, _, _, _, _, _ => by simp [Sm.code, map_idL (Ex.nng e)]; rfl
  | .row ps, base, D, p, q, Dq, h, hp, hq => Sms.subL_id hw ps base D p q Dq h hp hq
  | .ife e s t, base, D, p, q, Dq, h, hp, hq => by
    simp only [Sm.code, List.map_append, List.map_cons, List.map_nil, map_idL (Ex.nng e)]
    rw [Sm.subL_id hw s _ _ _ _ _ (by omega) hp hq, Sm.subL_id hw t _ _ _ _ _ (by omega) hp hq]; rfl
  | .whl e s, base, D, p, q, Dq, h, hp, hq => by
    simp only [Sm.code, List.map_append, List.map_cons, List.map_nil, map_idL (Ex.nng e)]
    rw [Sm.subL_id hw s _ _ _ _ _ (by omega) h (by omega)]; rfl
  | .brk, _, _, p, q, Dq, h, hp, hq => by
    have : q ≠ w := by omega
    simp [Sm.code, Lp.subL, this]
  | .cnt, _, _, p, q, Dq, h, hp, hq => by
    have : p ≠ w := by omega
    simp [Sm.code, Lp.subL, this]
  | .ret e, _, _, _, _, _, _, _, _ => by simp [Sm.code, map_idL (Ex.nng e)]; rfl
  | .call _ _ ps _, _, _, _, _, _, _, _, _ => by simp [Sm.code, map_idL (exsCode_nng ps)]; exact ⟨rfl, rfl⟩
  | .rais _ e _, _, _, _, _, _, _, _, _ => by simp [Sm.code, map_idL (Ex.nng e)]; rfl
  | .again, _, _, _, _, _, _, _, _ => rfl
  | .tri s hs, base, D, p, q, Dq, h, hp, hq => by
    simp only [Sm.code, List.map_append, List.map_cons, List.map_nil]
    rw [Sm.subL_id hw s _ _ _ _ _ h hp hq, Hds.subL_id hw hs _ _ _ _ _ _ _ _ (by omega) hp hq]; rfl
  | .cln s c, base, D, p, q, Dq, h, hp, hq => by
    simp only [Sm.code, List.map_append, List.map_cons, List.map_nil]
    rw [Sm.subL_id hw s _ _ _ _ _ h hp hq, Sm.subL_id hw c _ _ _ _ _ (by omega) hp hq]; rfl
theorem Sms.subL_id {w z D0 : Int} (hw : w < 0) : ∀ (ps : Sms) (base D p q Dq : Int), 0 ≤ base → 0 ≤ p → 0 ≤ q → (ps.code base D (p, q, Dq)).map (Lp.subL w z D0) = ps.code base D (p, q, Dq)
  | .nil, _, _, _, _, _, _, _, _ => rfl
  | .cons s r, base, D, p, q, Dq, h, hp, hq => by
    simp only [Sms.code, List.map_append]
    rw [Sm.subL_id hw s _ _ _ _ _ h hp hq, Sms.subL_id hw r _ _ _ _ _ (by omega) hp hq]
theorem Hds.subL_id {w z D0 : Int} (hw : w < 0) : ∀ (hs : Hds) (b x y at_ D p q Dq : Int), 0 ≤ at_ → 0 ≤ p → 0 ≤ q → (hs.code b x y at_ D (p, q, Dq)).map (Lp.subL w z D0) = hs.code b x y at_ D (p, q, Dq)
  | .nil, _, _, _, _, _, _, _, _, _, _, _ => rfl
  | .cons k sl t r, b, x, y, at_, D, p, q, Dq, h, hp, hq => by
    simp only [Hds.code, List.map_append, List.map_cons, List.map_nil]
    rw [Sm.subL_id hw t _ _ _ _ _ (by omega) hp hq, Hds.subL_id hw r _ _ _ _ _ _ _ _ (by omega) hp hq]; rfl
end
mutual
theorem Sm.subG {y : Int} : ∀ (s : Sm) (base D : Int) (tn : Tn), 0 ≤ base → (s.code base D tn).map (subG y) = s.code base D tn
  | .say e, _, _, _, _ => by simp [Sm.code, map_idG (Ex.nng e)]; rfl
  | .set _ e, _, _, _, _ => by simp [Sm.code, map_idG (Ex.nng e)]; rfl
  | .row ps, base, D, tn, h => Sms.subG ps base D tn h
  | .ife e s t, base, D, tn, h => by
    simp only [Sm.code, List.map_append, List.map_cons, List.map_nil, map_idG (Ex.nng e)]
    rw [Sm.subG s _ _ _ (by omega), Sm.subG t _ _ _ (by omega)]
    rw [show Lp.subG y (.go (base + e.len + 1 + s.len + 1 + t.len)) = .go (base + e.len + 1 + s.len + 1 + t.len) from if_neg (by simp; omega)]; rfl
  | .whl e s, base, D, tn, h => by
    simp only [Sm.code, List.map_append, List.map_cons, List.map_nil, map_idG (Ex.nng e)]
    rw [Sm.subG s _ _ _ (by omega)]
    rw [show Lp.subG y (.go base) = .go base from if_neg (by simp; omega)]; rfl
  | .brk, _, _, _, _ => rfl
  | .cnt, _, _, _, _ => rfl
  | .ret e, _, _, _, _ => by simp [Sm.code, map_idG (Ex.nng e)]; rfl
  | .call _ _ ps _, _, _, _, _ => by simp [Sm.code, map_idG (exsCode_nng ps)]; exact ⟨rfl, rfl⟩
  | .rais _ e _, _, _, _, _ => by simp [Sm.code, map_idG (Ex.nng e)]; rfl
  | .again, _, _, _, _ => rfl
  | .tri s hs, base, D, tn, h => by
    simp only [Sm.code, List.map_append, List.map_cons, List.map_nil]
    rw [Sm.subG s _ _ _ h, Hds.subG hs _ _ _ _ _ _ (by omega) (by omega)]
    rw [show Lp.subG y (.go (base + s.len + 1 + hs.len)) = .go (base + s.len + 1 + hs.len) from if_neg (by simp; omega)]
  | .cln s c, base, D, tn, h => by
    simp only [Sm.code, List.map_append, List.map_cons, List.map_nil]
    rw [Sm.subG s _ _ _ h, Sm.subG c _ _ _ (by omega)]; rfl
theorem Sms.subG {y : Int} : ∀ (ps : Sms) (base D : Int) (tn : Tn), 0 ≤ base → (ps.code base D tn).map (subG y) = ps.code base D tn
  | .nil, _, _, _, _ => rfl
  | .cons s r, base, D, tn, h => by
    simp only [Sms.code, List.map_append]
    rw [Sm.subG s _ _ _ h, Sms.subG r _ _ _ (by omega)]
theorem Hds.subG {y : Int} : ∀ (hs : Hds) (b x z at_ D : Int) (tn : Tn), 0 ≤ at_ → 0 ≤ z → (hs.code b x z at_ D tn).map (subG y) = hs.code b x z at_ D tn
  | .nil, _, _, _, _, _, _, _, _ => rfl
  | .cons k sl t r, b, x, z, at_, D, tn, h, hz => by
    simp only [Hds.code, List.map_append, List.map_cons, List.map_nil]
    rw [Sm.subG t _ _ _ (by omega), Hds.subG r _ _ _ _ _ _ (by omega) hz]
    rw [show Lp.subG y (.go z) = .go z from if_neg (by simp; omega)]; rfl
end
/-- handlers with the mark -1, filled in -/
theorem Hds.fill {y : Int} : ∀ (hs : Hds) (b x at_ D : Int) (tn : Tn), 0 ≤ at_ → (hs.code b x (-1) at_ D tn).map (Lp.subG y) = hs.code b x y at_ D tn
  | .nil, _, _, _, _, _, _ => rfl
  | .cons k sl t r, b, x, at_, D, tn, h => by
    simp only [Hds.code, List.map_append, List.map_cons, List.map_nil]
    rw [Sm.subG t _ _ _ (by omega), Hds.fill r _ _ _ _ _ (by omega)]
    rw [show Lp.subG y (.go (-1)) = .go y from if_pos rfl]; rfl

/-! ### the program's way: places of the breaks, filled in behind -/
mutual
def Sm.bks (base : Int) : Sm → List Int
  | .row ps => ps.bks base
  | .ife e s t => s.bks (base + e.len + 1) ++ t.bks (base + e.len + 1 + s.len + 1)
  | .brk => [base]
  | .tri s hs => s.bks base ++ hs.bks (base + s.len + 1)
  | .cln s c => s.bks base ++ c.bks (base + s.len + 2)
  | _ => []
def Sms.bks (base : Int) : Sms → List Int
  | .nil => []
  | .cons s r => s.bks base ++ r.bks (base + s.len)
def Hds.bks (at_ : Int) : Hds → List Int
  | .nil => []
  | .cons _ _ t r => t.bks (at_ + 2) ++ r.bks (at_ + 2 + t.len + 2)
end
def fillAt (row : Rw) (ps : List Int) (l : List Rw) : List Rw := ps.foldl (fun l p => l.set p.toNat row) l
theorem fillAt_app (row : Rw) (ps qs : List Int) (l : List Rw) : fillAt row (ps ++ qs) l = fillAt row qs (fillAt row ps l) := by
  unfold fillAt; rw [List.foldl_append]
mutual
theorem Sm.fill {p z D0 : Int} : ∀ (s : Sm) (base D : Int) (pre post : List Rw), (pre.length : Int) = base →
    fillAt (.leap z D0) (s.bks base) (pre ++ s.code base D (p, 0, D0) ++ post) = pre ++ s.code base D (p, z, D0) ++ post
  | .say e, _, _, _, _, _ => rfl
  | .set _ e, _, _, _, _, _ => rfl
  | .row ps, base, D, pre, post, h => Sms.fill ps base D pre post h
  | .ife e s t, base, D, pre, post, h => by
    have h1 := Sm.fill (p := p) (z := z) (D0 := D0) s (base + e.len + 1) D (pre ++ e.code ++ [.unless (base + e.len + 1 + s.len + 1)]) ([.go (base + e.len + 1 + s.len + 1 + t.len)] ++ t.code (base + e.len + 1 + s.len + 1) D (p, 0, D0) ++ post) (by simp [Ex.code_len]; omega)
    have h2 := Sm.fill (p := p) (z := z) (D0 := D0) t (base + e.len + 1 + s.len + 1) D (pre ++ e.code ++ [.unless (base + e.len + 1 + s.len + 1)] ++ s.code (base + e.len + 1) D (p, z, D0) ++ [.go (base + e.len + 1 + s.len + 1 + t.len)]) post (by simp [Ex.code_len, Sm.code_len]; omega)
    simp only [Sm.bks, Sm.code, fillAt_app, List.append_assoc] at h1 h2 ⊢
    rw [h1, h2]
  | .whl e s, _, _, _, _, _ => rfl
  | .brk, base, D, pre, post, h => by
    have : base.toNat = pre.length := by omega
    simp [Sm.bks, Sm.code, fillAt, this]
  | .cnt, _, _, _, _, _ => rfl
  | .ret e, _, _, _, _, _ => rfl
  | .call _ _ ps _, _, _, _, _, _ => rfl
  | .rais _ e _, _, _, _, _, _ => rfl
  | .again, _, _, _, _, _ => rfl
  | .tri s hs, base, D, pre, post, h => by
    have h1 := Sm.fill (p := p) (z := z) (D0 := D0) s base D pre ([.go (base + s.len + 1 + hs.len)] ++ hs.code base (base + s.len) (base + s.len + 1 + hs.len) (base + s.len + 1) D (p, 0, D0) ++ post) h
    have h2 := Hds.fillB (p := p) (z := z) (D0 := D0) hs base (base + s.len) (base + s.len + 1 + hs.len) (base + s.len + 1) D (pre ++ s.code base D (p, z, D0) ++ [.go (base + s.len + 1 + hs.len)]) post (by simp [Sm.code_len]; omega)
    simp only [Sm.bks, Sm.code, fillAt_app, List.append_assoc] at h1 h2 ⊢
    rw [h1, h2]
  | .cln s c, base, D, pre, post, h => by
    have h1 := Sm.fill (p := p) (z := z) (D0 := D0) s base D pre ([.mend, .cup base (base + s.len + 1) D] ++ c.code (base + s.len + 2) (D + 1) (p, 0, D0) ++ [.resume] ++ post) h
    have h2 := Sm.fill (p := p) (z := z) (D0 := D0) c (base + s.len + 2) (D + 1) (pre ++ s.code base D (p, z, D0) ++ [.mend, .cup base (base + s.len + 1) D]) ([.resume] ++ post) (by simp [Sm.code_len]; omega)
    simp only [Sm.bks, Sm.code, fillAt_app, List.append_assoc] at h1 h2 ⊢
    rw [h1, h2]
theorem Sms.fill {p z D0 : Int} : ∀ (ps : Sms) (base D : Int) (pre post : List Rw), (pre.length : Int) = base →
    fillAt (.leap z D0) (ps.bks base) (pre ++ ps.code base D (p, 0, D0) ++ post) = pre ++ ps.code base D (p, z, D0) ++ post
  | .nil, _, _, _, _, _ => rfl
  | .cons s r, base, D, pre, post, h => by
    have h1 := Sm.fill (p := p) (z := z) (D0 := D0) s base D pre (r.code (base + s.len) D (p, 0, D0) ++ post) h
    have h2 := Sms.fill (p := p) (z := z) (D0 := D0) r (base + s.len) D (pre ++ s.code base D (p, z, D0)) post (by simp [Sm.code_len]; omega)
    simp only [Sms.bks, Sms.code, fillAt_app, List.append_assoc] at h1 h2 ⊢
    rw [h1, h2]
theorem Hds.fillB {p z D0 : Int} : ∀ (hs : Hds) (b x y at_ D : Int) (pre post : List Rw), (pre.length : Int) = at_ →
    fillAt (.leap z D0) (hs.bks at_) (pre ++ hs.code b x y at_ D (p, 0, D0) ++ post) = pre ++ hs.code b x y at_ D (p, z, D0) ++ post
  | .nil, _, _, _, _, _, _, _, _ => rfl
  | .cons k sl t r, b, x, y, at_, D, pre, post, h => by
    have h1 := Sm.fill (p := p) (z := z) (D0 := D0) t (at_ + 2) (D + 1) (pre ++ [.hand b x k D, .set sl]) ([.settled, .go y] ++ r.code b x y (at_ + 2 + t.len + 2) D (p, 0, D0) ++ post) (by simp; omega)
    have h2 := Hds.fillB (p := p) (z := z) (D0 := D0) r b x y (at_ + 2 + t.len + 2) D (pre ++ [.hand b x k D, .set sl] ++ t.code (at_ + 2) (D + 1) (p, z, D0) ++ [.settled, .go y]) post (by simp [Sm.code_len]; omega)
    simp only [Hds.bks, Hds.code, fillAt_app, List.append_assoc] at h1 h2 ⊢
    rw [h1, h2]
end

/-! ### tables -/
structure Tb where
  b : Int
  x : Int
  kd : Option (Option Nat)   -- some: a handler of that kind; none: a cleanup
  p : Int
  D : Int
  deriving DecidableEq
def Tb.d (t : Tb) : PyData := .tuple [.int t.b, .int t.x, .str (match t.kd with | some _ => "handler" | none => "cleanup"), (match t.kd with | some k => kindD k | none => .none), .int t.p, .int t.D]
def tbOf (p : Int) : Rw → List Tb
  | .hand b x k D => [⟨b, x, some k, p, D⟩]
  | .cup b x D => [⟨b, x, none, p, D⟩]
  | _ => []
def tabAt (p : Int) : List Rw → List Tb
  | [] => []
  | r :: rs => tbOf p r ++ tabAt (p + 1) rs
theorem tabAt_app : ∀ (l m : List Rw) (p : Int), tabAt p (l ++ m) = tabAt p l ++ tabAt (p + l.length) m
  | [], m, p => by simp [tabAt]
  | r :: l, m, p => by
    show tbOf p r ++ tabAt (p + 1) (l ++ m) = (tbOf p r ++ tabAt (p + 1) l) ++ _
    rw [tabAt_app l m (p + 1), List.append_assoc]
    have : p + 1 + (l.length : Int) = p + ((r :: l).length : Int) := by simp; omega
    rw [this]
theorem tabAt_len : ∀ (l : List Rw) (p : Int), (tabAt p l).length ≤ l.length
  | [], _ => Nat.le_refl _
  | r :: l, p => by
    have := tabAt_len l (p + 1)
    have h2 : (tbOf p r).length ≤ 1 := by cases r <;> simp [tbOf]
    simp [tabAt]; omega
/-- a function's code, a program's -/
structure Fc where
  many : Nat
  rows : List Rw
def Fc.tab (f : Fc) : List Tb := tabAt 0 f.rows
def Fc.d (f : Fc) : PyData := .tuple [.int (f.many : Int), .tuple (f.rows.map Rw.d), .tuple (f.tab.map Tb.d)]
def bodyRows (s : Sm) : List Rw := s.code 0 0 (0, 0, 0) ++ [.num 0, .ret]
def Pg.code (p : Pg) : List Fc := p.funs.map fun f => ⟨f.1, bodyRows f.2⟩
def codeD (c : List Fc) : PyData := .tuple (c.map Fc.d)

/-! ### rows as data are told apart -/
theorem eqvAll_len {xs ys : List PyData} (h : xs.length ≠ ys.length) : PyData.eqvAll xs ys = false := by
  induction xs generalizing ys with
  | nil => cases ys with
    | nil => exact absurd rfl h
    | cons _ _ => rfl
  | cons x xs ih => cases ys with
    | nil => rfl
    | cons y ys =>
      have := ih (ys := ys) (by simpa using h)
      simp [PyData.eqvAll, this]
theorem Rw.eqv_leap (r : Rw) (w D : Int) : PyData.eqv r.d (Rw.leap w D).d = decide (r = .leap w D) := by
  cases r <;> simp [Rw.d, PyData.eqv, PyData.eqvAll]
  all_goals first
    | rfl
    | (intro h; exact absurd h (by decide))
theorem Rw.eqv_go (r : Rw) (z : Int) : PyData.eqv r.d (Rw.go z).d = decide (r = .go z) := by
  cases r <;> simp [Rw.d, PyData.eqv, PyData.eqvAll]
  all_goals first
    | rfl
    | (intro h; exact absurd h (by decide))
end Lp

/-! Le: for i, x in enumerate(t), t a tuple. -/
namespace Lp
open PySem PySem.Spec PyProof.Rows L2

set_option maxHeartbeats 4000000 in
theorem meets_en1 {v : Value} {ob : Obj} {Hd : Heap → Prop} (B : Begins v ob Hd) :
    Meets (Builtin.«enumerate.__new__» ⟨[.type "enumerate", v], []⟩) (fun _ R s => Hd s.heap ∧
      R (.ok (.ret (.ref (s.heap.push ob).objs.size))) { s with heap := (s.heap.push ob).push { cls := .type "enumerate", data := .fields #[.none, .bool false, .ref s.heap.objs.size, rawInt 0, .none, .none] } }) := by
  refine .of_wp fun P w A R s h => ?_
  obtain ⟨hp, gn, dr, tk, os⟩ := s
  obtain ⟨h1, h2⟩ := h
  have sub := sub_enumerate
  have it1 : ∀ {A2 : Around} {E2 Q2 : Value → Shared → Prop}, Q2 (.ref hp.objs.size) ⟨hp.push ob, gn, dr, tk, os⟩ → wpAny (model P w) A2 (pyIter v) Q2 E2 ⟨hp, gn, dr, tk, os⟩ := fun q => B.iter P w _ _ ⟨hp, gn, dr, tk, os⟩ _ h1 q
  wp_walk using it1
  refine wpAny_stack_any fun z => wpAny_pure ?_
  split
  · rename_i c _ _ _ _ _
    cases (c == Value.type "enumerate") <;>
      (wp_walk using it1
       exact ⟨_, rfl, h2⟩)
  · (wp_walk using it1
     exact ⟨_, rfl, h2⟩)
theorem call_en1 {P : Program} {w : World} {A : Around} {E : Value → Shared → Prop} {s : Shared} {a : Addr} {items : Array Value} {Q : Value → Shared → Prop} (hT : s.heap.IsTuple a items)
    (h : ∀ h', IsEnum h' (s.heap.objs.size + 1) s.heap.objs.size 0 .none → h'.IsTupleIter s.heap.objs.size a 0 → (∀ b o, s.heap.get? b = some o → h'.get? b = some o) → Q (.ref (s.heap.objs.size + 1)) { s with heap := h' }) :
    wpAny (model P w) A (call (.type "enumerate") [.ref a]) Q E s := by
  refine callType_new F.called_enumerate (by decide) (F.typeCall_enumerate_1 _) (F.newCall_enumerate_1 _) (fun o => F.args_object_init_2 o _) F.entry_enumerate_new (meets_en1 (begins_tuple a items)) ⟨hT, ?_⟩
  let o1 : Obj := { cls := .type "tuple_iterator", data := .fields #[.ref a, .int 0 0] }
  let o2 : Obj := { cls := .type "enumerate", data := .fields #[.none, .bool false, .ref s.heap.objs.size, rawInt 0, .none, .none] }
  have sz1 : (s.heap.push o1).objs.size = s.heap.objs.size + 1 := Heap.size_push ..
  show _ ∧ Q (.ref (s.heap.push o1).objs.size) _
  rw [show (s.heap.push { cls := .type "tuple_iterator", data := .fields #[.ref a, .int 0 0] }).objs.size = s.heap.objs.size + 1 from sz1]
  have ge : ((s.heap.push o1).push o2).get? (s.heap.objs.size + 1) = some o2 := by
    rw [← sz1]
    exact Heap.get?_push_size _ rfl
  refine ⟨⟨_, ge, rfl⟩, h _ ge ⟨o1, Heap.get?_push_of_some _ (Heap.get?_push_size _ rfl), rfl, rfl⟩ fun b o q => Heap.get?_push_of_some _ (Heap.get?_push_of_some _ q)⟩
/-- the tuple at a, each item in a new pair -/
def IteT (K : PySem.W.Frag) (a : Addr) : It :=
  ⟨fun i H => ∃ (xs : List V) (x : V), SqT K H a xs ∧ xs[i]? = some x, fun i H v H' => ∃ T x, v = .ref T ∧ H T = none ∧ H' = upd H T (.tup [.int (i : Nat), x]) ∧ ∀ xs, SqT K H a xs → xs[i]? = some x, fun i H => ∃ xs : List V, SqT K H a xs ∧ xs.length ≤ i⟩
theorem turn_enT {P : Program} {w : World} {K : PySem.W.Frag} {elts : List Expr} {kk : Nat} {tpos : Pos} (a e it : Addr) :
    Turn P w K (.Tuple elts kk tpos) (IteT K a) [e, it] e (fun i h => (∃ old, IsEnum h e it ((i : Nat) : Int) old) ∧ h.IsTupleIter it a i ∧ e ≠ it) where
  mem := List.mem_cons_self
  obj := by
    rintro i h ⟨⟨old, he⟩, ⟨o, ho, hc, hd⟩, _⟩ b hb
    rcases List.mem_cons.mp hb with rfl | hb
    · exact ⟨_, he, fun v q => nomatch q⟩
    · rw [List.mem_singleton.mp hb]
      exact ⟨o, ho, fun v q => by rw [hd] at q; cases q⟩
  keep := by
    rintro i h h' ⟨⟨old, he⟩, hi, ne⟩ k
    exact ⟨⟨old, k e List.mem_cons_self _ he⟩, hi.at fun o q => k it (List.mem_cons_of_mem _ List.mem_cons_self) o q, ne⟩
  item := by
    rintro X rfl rfl rfl calm i pins s σ H E I hf ⟨⟨old, he⟩, hit, ne⟩ ⟨xs, x, hq, hx⟩
    obtain ⟨its, rv, tp, hz⟩ := I.tuple hq
    obtain ⟨u, hu, ru⟩ := rv.get hx
    have tp' : s.heap.IsTuple a its.toArray := tp
    have a_it : a ≠ it := by
      rintro rfl
      obtain ⟨o, ho, hc, _⟩ := tp'
      obtain ⟨o2, ho2, hc2, _⟩ := hit
      rw [ho] at ho2; cases ho2
      rw [hc] at hc2
      exact absurd hc2 (by simp)
    have a_e : e ≠ a := by
      rintro rfl
      obtain ⟨o, ho, hc, _⟩ := tp'
      have he' : s.heap.get? e = some _ := he
      rw [ho] at he'
      have hc2 := congrArg (fun z : Option Obj => z.map (·.cls)) he'
      simp only [Option.map_some] at hc2
      rw [hc] at hc2
      exact absurd (Option.some.inj hc2) (by simp)
    have hel : e < s.heap.objs.size := Heap.lt_size he
    have hil : it < s.heap.objs.size := by obtain ⟨_, q, _⟩ := hit; exact Heap.lt_size q
    have hin : X.A.in1.handled = none := I.ok.hd calm
    have hlt : i < its.toArray.size := by
      have := (List.getElem?_eq_some_iff.mp hu).1
      simpa using this
    refine wpAny_pyNext_enum_itemC (Draws.tuple hin it a a_it its.toArray) he ⟨hit, tp'⟩ hlt ne (by simp [ne, a_e]) fun y h' tk hy ho st hT hsz hk => ?_
    have ey : y = u := by
      have h1 : its[i]? = some y := by simpa using hy
      rw [hu] at h1
      exact (Option.some.inj h1).symm
    subst ey
    refine ⟨_, rfl, wpAny_letOwnedTupleGo_enum (s := { s with heap := h', toks := tk + 1 }) ho fun h'' he' sb => ?_⟩
    have hT2 : h''.get? s.heap.objs.size = some { cls := .type "tuple", data := .seq #[.int i tk, y] } := (sb.2 _ (Nat.ne_of_gt hel)).trans hT
    have nw : ObjOk X.prog X.w (upd H s.heap.objs.size (.tup [.int (i : Nat), x])) h'' s.heap.objs.size (.tup [.int (i : Nat), x]) :=
      ⟨by show 2 ≤ sizeLine; decide, [.int i tk, y], .cons ⟨_, rfl⟩ (.cons ru .nil), ⟨_, hT2, rfl, _, rfl⟩⟩
    have I1 : Inv X pins σ (upd H s.heap.objs.size (.tup [.int (i : Nat), x])) { s with heap := h'', toks := tk + 1 } := by
      refine I.turnedNew (ch := [e, it]) (fun b o hb q => ?_) hf (Nat.le_refl _) nw
      have b1 : b ≠ e := fun z => hb (by simp [z])
      have b2 : b ≠ it := fun z => hb (by simp [z])
      exact (sb.2 b b1).trans (hk b o b1 b2 q)
    refine ⟨.ref s.heap.objs.size, _, I1, rfl, ⟨_, x, rfl, I.hok.fresh (Nat.le_refl _), rfl, fun ys hy => by rw [I.tuple_inj hy hq]; exact hx⟩, ⟨⟨y, ?_⟩, st.1.at fun o q => (sb.2 it (Ne.symm ne)).trans q, ne⟩, fun b hb => ?_⟩
    · rw [show ((i + 1 : Nat) : Int) = (i : Int) + 1 by omega]
      exact he'
    · have lt : b < s.heap.objs.size := by
        rcases List.mem_cons.mp hb with rfl | z
        · exact hel
        · rw [List.mem_singleton.mp z]; exact hil
      rw [upd_ne (Nat.ne_of_lt lt)]
      exact (hf b hb).1
  done := by
    rintro X rfl rfl rfl calm i pins s σ H E I hf ⟨⟨old, he⟩, hit, ne⟩ ⟨xs, hq, hx⟩
    obtain ⟨its, rv, tp, hz⟩ := I.tuple hq
    have tp' : s.heap.IsTuple a its.toArray := tp
    obtain ⟨f0, f1, f2, f3, f4, f5⟩ := hf it (by simp)
    have hin : X.A.in1.handled = none := I.ok.hd calm
    have a_it : a ≠ it := by
      rintro rfl
      obtain ⟨o, ho, hc, _⟩ := tp'
      obtain ⟨o2, ho2, hc2, _⟩ := hit
      rw [ho] at ho2; cases ho2
      rw [hc] at hc2
      exact absurd hc2 (by simp)
    have big : its.toArray.size ≤ i := by
      have := rv.length
      simp; omega
    have none_ : its.toArray[i]? = none := Array.getElem?_eq_none big
    refine wpAny_pyNext_enum_endD (n := i) (fp := [it, a]) (P := fun _ _ => True) (St := fun j h => j = i ∧ h.IsTupleIter it a j ∧ h.IsTuple a its.toArray) ?_ he ⟨rfl, hit, tp'⟩ fun h' eb => ⟨rfl, I.turned (t' := s.toks) (fun b o hb q => eb b o hb q) f0 f1 f3 f4 f5⟩
    have D := Draws.tuple (prog := X.prog) (w := X.w) hin it a a_it its.toArray
    exact ⟨fun j h st => D.live j h st.2, fun j h h' st hk => ⟨st.1, D.frame j h h' st.2 hk⟩, fun j s Q E hj st _ => absurd st.1 (Nat.ne_of_lt hj), fun s Q E st hE => wpAny_nextOf_tuple_end hin st.2.1 st.2.2 none_ hE⟩
  self := fun A i s Q E st h => let ⟨⟨_, he⟩, _⟩ := st; wpAny_pyIter_enum he h
def iEnT (K : PySem.W.Frag) (ta : TA) : TI := fun σ H R => ta σ H fun vs H1 => ∃ a xs, vs = [.ref a] ∧ SqT K H1 a xs ∧ R (IteT K a) H1
theorem pi_enT {X : Cx} {e : Expr} {ta : TA} {p pos tpos : Pos} {elts : List Expr} {kk : Nat} (hg : Gl X "enumerate") (hm : X.mg "enumerate" = none) (ha : PA X [e] ta) (hs : starEach [e] X.env = [(false, eval e X.env)] := by rfl) :
    PI X (.Tuple elts kk tpos) (.Call (.Name "enumerate" p) [e] [] pos) (iEnT X.K ta) := by
  constructor
  intro pins s σ H R I h
  refine Call_ (ld_blt I hg hm boot_enumerate (PyProof.Rows.callWith_type1 (thn (ha.run pos pins s σ H _ I h) fun us s1 ⟨vs, H1, I1, r1, a, xs, ex, hq, q⟩ => ?_) hs rfl))
  subst ex
  cases r1 with
  | cons r rr =>
    cases rr
    cases r
    obtain ⟨its, rv, tp, hz⟩ := I1.tuple hq
    refine call_en1 (show s1.heap.IsTuple a its.toArray from tp) fun h' he hit hk => wpAny_pyIter_enum he ?_
    have I2 : Inv X pins σ H1 { s1 with heap := h' } := I1.kept (t' := s1.toks) hk
    refine ⟨_, [s1.heap.objs.size + 1, s1.heap.objs.size], _, _, H1, rfl, I2, turn_enT a (s1.heap.objs.size + 1) s1.heap.objs.size, ⟨⟨.none, he⟩, hit, Nat.succ_ne_self _⟩, fun b hb => ?_, q⟩
    have le : s1.heap.objs.size ≤ b := by
      rcases List.mem_cons.mp hb with rfl | z
      · exact Nat.le_succ _
      · rw [List.mem_singleton.mp z]; exact Nat.le_refl _
    exact I1.fpOk le (I1.hok.fresh le)
/-- the loop: Pv by the turn, the slots, the heap; each turn brings a new pair at T -/
theorem for_enT {K : PySem.W.Frag} {a : Addr} {xs : List V} {g : TG} {tb : TS} {D : Ends} {σ : L2.St} {H : Hp} (Pv : Nat → L2.St → Hp → Prop) (h0 : Pv 0 σ H) (hl : ∀ i σ H, i ≤ xs.length → Pv i σ H → SqT K H a xs)
    (hs : ∀ i x σ H T, xs[i]? = some x → Pv i σ H → H T = none → g (.ref T) σ (upd H T (.tup [.int ((i : Nat) : Int), x])) fun σ2 H2 => tb { D with nx := Pv (i + 1), ct := Pv (i + 1), bk := D.nx } σ2 H2) (hd : ∀ σ H, Pv xs.length σ H → D.nx σ H) :
    ∃ W : Nat → Nat → L2.St → Hp → Prop, (∃ m, W 0 m σ H) ∧ ∀ i m σ H, W i m σ H →
      ((IteT K a).stop i H ∧ D.nx σ H) ∨ ((IteT K a).go i H ∧ ∃ N : L2.St → Hp → Prop, (∀ σ' H', N σ' H' → ∃ m', m' < m ∧ W (i + 1) m' σ' H') ∧ ∀ x H', (IteT K a).yld i H x H' → g x σ H' fun σ2 H2 => tb { D with nx := N, ct := N, bk := D.nx } σ2 H2) := by
  refine ⟨fun i m σ H => m = xs.length - i ∧ i ≤ xs.length ∧ Pv i σ H, ⟨xs.length, rfl, Nat.zero_le _, h0⟩, ?_⟩
  rintro i m σ H ⟨rfl, hi, p⟩
  have hq := hl i σ H hi p
  by_cases lt : i < xs.length
  · refine .inr ⟨⟨xs, xs[i], hq, List.getElem?_eq_getElem lt⟩, Pv (i + 1), fun σ' H' p' => ⟨xs.length - (i + 1), by omega, rfl, lt, p'⟩, ?_⟩
    rintro v H' ⟨T, x, rfl, hT, rfl, hx⟩
    exact hs i x σ H T (hx xs hq) p hT
  · have e : i = xs.length := by omega
    subst e
    exact .inl ⟨⟨xs, hq, Nat.le_refl _⟩, hd σ H p⟩
end Lp

/-! L4a: the law's own coding, and its look at two things alike. -/
namespace Lp
open PySem PySem.Spec PyProof.Rows L2
def t_law_alike (K : PySem.W.Frag) (sp_law_alike : Sp) : TS :=
  tSeq (tIfS (tTest (tOp rIsN (tVar 1) (tC .non))) (tRet (tOp rIsN (tVar 0) (tC .non))) (tNext)) (tSeq (tIfS (tB (tCB (rIsi K) (tCons (tVar 1) (tCons (tC (.ty "bool")) (tNil))))) (tRet (tAndV (tCB (rIsi K) (tCons (tVar 0) (tCons (tC (.ty "bool")) (tNil)))) (tOp rEq (tVar 0) (tVar 1)))) (tNext)) (tSeq (tIfS (tB (tCB (rIsi K) (tCons (tVar 1) (tCons (tC (.ty "int")) (tNil))))) (tRet (tAndV (tCB (rIsi K) (tCons (tVar 0) (tCons (tC (.ty "int")) (tNil)))) (tAndV (tNotV (tCB (rIsi K) (tCons (tVar 0) (tCons (tC (.ty "bool")) (tNil))))) (tOp rEq (tVar 0) (tVar 1))))) (tNext)) (tSeq (tIfS (tB (tCB (rIsi K) (tCons (tVar 1) (tCons (tC (.ty "str")) (tNil))))) (tRet (tAndV (tCB (rIsi K) (tCons (tVar 0) (tCons (tC (.ty "str")) (tNil)))) (tOp rEq (tVar 0) (tVar 1)))) (tNext)) (tSeq (tIfS (tOr (tTest (tOp rNe (tCB (rIsi K) (tCons (tVar 1) (tCons (tC (.ty "tuple")) (tNil)))) (tCB (rIsi K) (tCons (tVar 0) (tCons (tC (.ty "tuple")) (tNil)))))) (tTest (tOp rNe (tCB (rIsi K) (tCons (tVar 1) (tCons (tC (.ty "list")) (tNil)))) (tCB (rIsi K) (tCons (tVar 0) (tCons (tC (.ty "list")) (tNil))))))) (tRet (tC (.bl false))) (tNext)) (tSeq (tIfS (tTest (tOp rNe (tCB (rLenQ K) (tCons (tVar 0) (tNil))) (tCB (rLenQ K) (tCons (tVar 1) (tNil))))) (tRet (tC (.bl false))) (tNext)) (tSeq (tFor (iRng1 (tCons (tCB (rLenQ K) (tCons (tVar 1) (tNil))) (tNil))) (gName 2) (tIfS (tNot (tB (tCall sp_law_alike [] E0 (tCons (tOp (rIx K) (tVar 0) (tVar 2)) (tCons (tOp (rIx K) (tVar 1) (tVar 2)) (tNil)))))) (tRet (tC (.bl false))) (tNext))) (tRet (tC (.bl true)))))))))

def t_law_part_code (K : PySem.W.Frag) (sp_law_part_code : Sp) : TS :=
  tSeq (tIfS (tTest (tOp (rIn K false) (tOp (rIxT K) (tVar 0) (tC (.int 0))) (tTup (tCons (tC (.str "num")) (tCons (tC (.str "var")) (tNil)))))) (tRet (tLst (tCons (tVar 0) (tNil)))) (tNext)) (tRet (tOp rCat (tOp rCat (tCall sp_law_part_code [] E0 (tCons (tOp (rIxT K) (tVar 0) (tC (.int 1))) (tNil))) (tCall sp_law_part_code [] E0 (tCons (tOp (rIxT K) (tVar 0) (tC (.int 2))) (tNil)))) (tLst (tCons (tTup (tCons (tOp (rIxT K) (tVar 0) (tC (.int 0))) (tNil))) (tNil)))))

def t_law_loop_code (K : PySem.W.Frag) (sp_law_part_code : Sp) (sp_law_code : Sp) : TS :=
  tSeq (tAsg (tCall sp_law_part_code [] E0 (tCons (tOp (rIxT K) (tVar 0) (tC (.int 1))) (tNil))) (gName 3)) (tSeq (tAsg (tOp rAdI (tOp rAdI (tVar 1) (tCB (rLenQ K) (tCons (tVar 3) (tNil)))) (tC (.int 2))) (gName 4)) (tSeq (tAsg (tCall sp_law_code [] E0 (tCons (tOp (rIxT K) (tVar 0) (tC (.int 2))) (tCons (tVar 4) (tCons (tVar 2) (tCons (tTup (tCons (tVar 1) (tCons (tOp rSbI (tUn rNeg (tC (.int 1))) (tVar 1)) (tCons (tVar 2) (tNil))))) (tNil)))))) (gName 5)) (tSeq (tAsg (tOp rAdI (tOp rAdI (tVar 4) (tCB (rLenQ K) (tCons (tVar 5) (tNil)))) (tC (.int 1))) (gName 6)) (tSeq (tAsg (tLc (iList K (tVar 5)) (gName 7) (tYes) (tOp (rIxL K) (tLst (tCons (tVar 7) (tCons (tTup (tCons (tC (.str "leap")) (tCons (tVar 6) (tCons (tVar 2) (tNil))))) (tNil)))) (tCB rInt1 (tCons (tOp (rEqD K) (tVar 7) (tTup (tCons (tC (.str "leap")) (tCons (tOp rSbI (tUn rNeg (tC (.int 1))) (tVar 1)) (tCons (tVar 2) (tNil)))))) (tNil)))) [7]) (gName 5)) (tRet (tOp rCat (tOp rCat (tOp rCat (tVar 3) (tLst (tCons (tTup (tCons (tC (.str "unless")) (tCons (tVar 6) (tNil)))) (tCons (tTup (tCons (tC (.str "turn")) (tNil))) (tNil))))) (tVar 5)) (tLst (tCons (tTup (tCons (tC (.str "go")) (tCons (tVar 1) (tNil)))) (tNil)))))))))

def t_law_try_code (K : PySem.W.Frag) (sp_law_code : Sp) : TS :=
  tSeq (tAsg (tCall sp_law_code [] E0 (tCons (tOp (rIxT K) (tVar 0) (tC (.int 1))) (tCons (tVar 1) (tCons (tVar 2) (tCons (tVar 3) (tNil)))))) (gName 4)) (tSeq (tAsg (tOp rAdI (tVar 1) (tCB (rLenQ K) (tCons (tVar 4) (tNil)))) (gName 5)) (tSeq (tAsg (tOp rCat (tVar 4) (tLst (tCons (tTup (tCons (tC (.str "go")) (tCons (tUn rNeg (tC (.int 1))) (tNil)))) (tNil)))) (gName 6)) (tSeq (tFor (iTup K (tOp (rIxT K) (tVar 0) (tC (.int 2)))) (gName 7) (tSeq (tAsg (tOp rCat (tVar 6) (tLst (tCons (tTup (tCons (tC (.str "handler")) (tCons (tVar 1) (tCons (tVar 5) (tCons (tOp (rIxT K) (tVar 7) (tC (.int 0))) (tCons (tVar 2) (tNil))))))) (tCons (tTup (tCons (tC (.str "set")) (tCons (tOp (rIxT K) (tVar 7) (tC (.int 1))) (tNil)))) (tNil))))) (gName 6)) (tSeq (tAsg (tOp rCat (tVar 6) (tCall sp_law_code [] E0 (tCons (tOp (rIxT K) (tVar 7) (tC (.int 2))) (tCons (tOp rAdI (tVar 1) (tCB (rLenQ K) (tCons (tVar 6) (tNil)))) (tCons (tOp rAdI (tVar 2) (tC (.int 1))) (tCons (tVar 3) (tNil))))))) (gName 6)) (tAsg (tOp rCat (tVar 6) (tLst (tCons (tTup (tCons (tC (.str "settled")) (tNil))) (tCons (tTup (tCons (tC (.str "go")) (tCons (tUn rNeg (tC (.int 1))) (tNil)))) (tNil))))) (gName 6))))) (tSeq (tAsg (tOp rAdI (tVar 1) (tCB (rLenQ K) (tCons (tVar 6) (tNil)))) (gName 8)) (tRet (tLc (iList K (tVar 6)) (gName 9) (tYes) (tOp (rIxL K) (tLst (tCons (tVar 9) (tCons (tTup (tCons (tC (.str "go")) (tCons (tVar 8) (tNil)))) (tNil)))) (tCB rInt1 (tCons (tOp (rEqD K) (tVar 9) (tTup (tCons (tC (.str "go")) (tCons (tUn rNeg (tC (.int 1))) (tNil))))) (tNil)))) [9]))))))

def t_law_if_code (K : PySem.W.Frag) (sp_law_part_code : Sp) (sp_law_code : Sp) : TS :=
  tSeq (tAsg (tCall sp_law_part_code [] E0 (tCons (tOp (rIxT K) (tVar 0) (tC (.int 1))) (tNil))) (gName 4)) (tSeq (tAsg (tCall sp_law_code [] E0 (tCons (tOp (rIxT K) (tVar 0) (tC (.int 2))) (tCons (tOp rAdI (tOp rAdI (tVar 1) (tCB (rLenQ K) (tCons (tVar 4) (tNil)))) (tC (.int 1))) (tCons (tVar 2) (tCons (tVar 3) (tNil)))))) (gName 5)) (tSeq (tAsg (tOp rAdI (tOp rAdI (tOp rAdI (tVar 1) (tCB (rLenQ K) (tCons (tVar 4) (tNil)))) (tCB (rLenQ K) (tCons (tVar 5) (tNil)))) (tC (.int 2))) (gName 6)) (tSeq (tAsg (tCall sp_law_code [] E0 (tCons (tOp (rIxT K) (tVar 0) (tC (.int 3))) (tCons (tVar 6) (tCons (tVar 2) (tCons (tVar 3) (tNil)))))) (gName 7)) (tRet (tOp rCat (tOp rCat (tOp rCat (tOp rCat (tVar 4) (tLst (tCons (tTup (tCons (tC (.str "unless")) (tCons (tVar 6) (tNil)))) (tNil)))) (tVar 5)) (tLst (tCons (tTup (tCons (tC (.str "go")) (tCons (tOp rAdI (tVar 6) (tCB (rLenQ K) (tCons (tVar 7) (tNil)))) (tNil)))) (tNil)))) (tVar 7))))))

def t_law_clean_code (K : PySem.W.Frag) (sp_law_code : Sp) : TS :=
  tSeq (tAsg (tOp rCat (tCall sp_law_code [] E0 (tCons (tOp (rIxT K) (tVar 0) (tC (.int 1))) (tCons (tVar 1) (tCons (tVar 2) (tCons (tVar 3) (tNil)))))) (tLst (tCons (tTup (tCons (tC (.str "mend")) (tNil))) (tNil)))) (gName 4)) (tSeq (tAsg (tOp rAdI (tVar 1) (tCB (rLenQ K) (tCons (tVar 4) (tNil)))) (gName 5)) (tSeq (tAsg (tCall sp_law_code [] E0 (tCons (tOp (rIxT K) (tVar 0) (tC (.int 2))) (tCons (tOp rAdI (tVar 5) (tC (.int 1))) (tCons (tOp rAdI (tVar 2) (tC (.int 1))) (tCons (tVar 3) (tNil)))))) (gName 6)) (tRet (tOp rCat (tOp rCat (tOp rCat (tVar 4) (tLst (tCons (tTup (tCons (tC (.str "cleanup")) (tCons (tVar 1) (tCons (tVar 5) (tCons (tVar 2) (tNil)))))) (tNil)))) (tVar 6)) (tLst (tCons (tTup (tCons (tC (.str "resume")) (tNil))) (tNil)))))))

def t_law_plain_code (K : PySem.W.Frag) (sp_law_part_code : Sp) : TS :=
  tSeq (tAsg (tOp (rIxT K) (tVar 0) (tC (.int 0))) (gName 2)) (tSeq (tIfS (tTest (tOp rEq (tVar 2) (tC (.str "break")))) (tRet (tLst (tCons (tTup (tCons (tC (.str "leap")) (tCons (tOp (rIxT K) (tVar 1) (tC (.int 1))) (tCons (tOp (rIxT K) (tVar 1) (tC (.int 2))) (tNil))))) (tNil)))) (tNext)) (tSeq (tIfS (tTest (tOp rEq (tVar 2) (tC (.str "continue")))) (tRet (tLst (tCons (tTup (tCons (tC (.str "leap")) (tCons (tOp (rIxT K) (tVar 1) (tC (.int 0))) (tCons (tOp (rIxT K) (tVar 1) (tC (.int 2))) (tNil))))) (tNil)))) (tNext)) (tSeq (tIfS (tTest (tOp rEq (tVar 2) (tC (.str "again")))) (tRet (tLst (tCons (tVar 0) (tNil)))) (tNext)) (tSeq (tIfS (tTest (tOp rEq (tVar 2) (tC (.str "set")))) (tRet (tOp rCat (tCall sp_law_part_code [] E0 (tCons (tOp (rIxT K) (tVar 0) (tC (.int 2))) (tNil))) (tLst (tCons (tTup (tCons (tC (.str "set")) (tCons (tOp (rIxT K) (tVar 0) (tC (.int 1))) (tNil)))) (tNil))))) (tNext)) (tSeq (tIfS (tTest (tOp rEq (tVar 2) (tC (.str "raise")))) (tRet (tOp rCat (tCall sp_law_part_code [] E0 (tCons (tOp (rIxT K) (tVar 0) (tC (.int 2))) (tNil))) (tLst (tCons (tTup (tCons (tC (.str "raise")) (tCons (tOp (rIxT K) (tVar 0) (tC (.int 1))) (tCons (tOp (rIxT K) (tVar 0) (tC (.int 3))) (tNil))))) (tNil))))) (tNext)) (tSeq (tIfS (tTest (tOp rEq (tVar 2) (tC (.str "call")))) (tSeq (tAsg (tLst (tNil)) (gName 3)) (tSeq (tFor (iTup K (tOp (rIxT K) (tVar 0) (tC (.int 3)))) (gName 4) (tAsg (tOp rCat (tVar 3) (tCall sp_law_part_code [] E0 (tCons (tVar 4) (tNil)))) (gName 3))) (tRet (tOp rCat (tVar 3) (tLst (tCons (tTup (tCons (tC (.str "call")) (tCons (tOp (rIxT K) (tVar 0) (tC (.int 2))) (tCons (tCB (rLenQ K) (tCons (tOp (rIxT K) (tVar 0) (tC (.int 3))) (tNil))) (tCons (tOp (rIxT K) (tVar 0) (tC (.int 4))) (tNil)))))) (tCons (tTup (tCons (tC (.str "set")) (tCons (tOp (rIxT K) (tVar 0) (tC (.int 1))) (tNil)))) (tNil)))))))) (tNext)) (tRet (tOp rCat (tCall sp_law_part_code [] E0 (tCons (tOp (rIxT K) (tVar 0) (tC (.int 1))) (tNil))) (tLst (tCons (tTup (tCons (tVar 2) (tNil))) (tNil)))))))))))

def t_law_code (K : PySem.W.Frag) (sp_law_code : Sp) (sp_law_if_code : Sp) (sp_law_loop_code : Sp) (sp_law_try_code : Sp) (sp_law_clean_code : Sp) (sp_law_plain_code : Sp) : TS :=
  tSeq (tAsg (tOp (rIxT K) (tVar 0) (tC (.int 0))) (gName 4)) (tSeq (tIfS (tTest (tOp rEq (tVar 4) (tC (.str "row")))) (tSeq (tAsg (tLst (tNil)) (gName 5)) (tSeq (tFor (iTup K (tOp (rIxT K) (tVar 0) (tC (.int 1)))) (gName 6) (tAsg (tOp rCat (tVar 5) (tCall sp_law_code [] E0 (tCons (tVar 6) (tCons (tOp rAdI (tVar 1) (tCB (rLenQ K) (tCons (tVar 5) (tNil)))) (tCons (tVar 2) (tCons (tVar 3) (tNil))))))) (gName 5))) (tRet (tVar 5)))) (tNext)) (tSeq (tIfS (tTest (tOp rEq (tVar 4) (tC (.str "if")))) (tRet (tCall sp_law_if_code [] E0 (tCons (tVar 0) (tCons (tVar 1) (tCons (tVar 2) (tCons (tVar 3) (tNil))))))) (tNext)) (tSeq (tIfS (tTest (tOp rEq (tVar 4) (tC (.str "while")))) (tRet (tCall sp_law_loop_code [] E0 (tCons (tVar 0) (tCons (tVar 1) (tCons (tVar 2) (tNil)))))) (tNext)) (tSeq (tIfS (tTest (tOp rEq (tVar 4) (tC (.str "try")))) (tRet (tCall sp_law_try_code [] E0 (tCons (tVar 0) (tCons (tVar 1) (tCons (tVar 2) (tCons (tVar 3) (tNil))))))) (tNext)) (tSeq (tIfS (tTest (tOp rEq (tVar 4) (tC (.str "clean")))) (tRet (tCall sp_law_clean_code [] E0 (tCons (tVar 0) (tCons (tVar 1) (tCons (tVar 2) (tCons (tVar 3) (tNil))))))) (tNext)) (tRet (tCall sp_law_plain_code [] E0 (tCons (tVar 0) (tCons (tVar 3) (tNil))))))))))

def t_law_table (K : PySem.W.Frag) : TS :=
  tSeq (tAsg (tLst (tNil)) (gName 1)) (tSeq (tFor (iRng1 (tCons (tCB (rLenQ K) (tCons (tVar 0) (tNil))) (tNil))) (gName 2) (tSeq (tAsg (tOp (rIxT K) (tVar 0) (tVar 2)) (gName 3)) (tSeq (tIfS (tTest (tOp rEq (tOp (rIxT K) (tVar 3) (tC (.int 0))) (tC (.str "handler")))) (tDrop (tBM K "list" rAppend (tVar 1) (tCons (tTup (tCons (tOp (rIxT K) (tVar 3) (tC (.int 1))) (tCons (tOp (rIxT K) (tVar 3) (tC (.int 2))) (tCons (tC (.str "handler")) (tCons (tOp (rIxT K) (tVar 3) (tC (.int 3))) (tCons (tVar 2) (tCons (tOp (rIxT K) (tVar 3) (tC (.int 4))) (tNil)))))))) (tNil)))) (tNext)) (tIfS (tTest (tOp rEq (tOp (rIxT K) (tVar 3) (tC (.int 0))) (tC (.str "cleanup")))) (tDrop (tBM K "list" rAppend (tVar 1) (tCons (tTup (tCons (tOp (rIxT K) (tVar 3) (tC (.int 1))) (tCons (tOp (rIxT K) (tVar 3) (tC (.int 2))) (tCons (tC (.str "cleanup")) (tCons (tC .non) (tCons (tVar 2) (tCons (tOp (rIxT K) (tVar 3) (tC (.int 3))) (tNil)))))))) (tNil)))) (tNext))))) (tRet (tCB (rTupOf K) (tCons (tVar 1) (tNil)))))

def t_law_coded (K : PySem.W.Frag) (sp_law_code : Sp) (sp_law_table : Sp) : TS :=
  tSeq (tAsg (tLst (tNil)) (gName 1)) (tSeq (tFor (iTup K (tOp (rIxT K) (tVar 0) (tC (.int 1)))) (gName 2) (tSeq (tAsg (tCB (rTupOf K) (tCons (tOp rCat (tCall sp_law_code [] E0 (tCons (tOp (rIxT K) (tVar 2) (tC (.int 1))) (tCons (tC (.int 0)) (tCons (tC (.int 0)) (tCons (tC .non) (tNil)))))) (tLst (tCons (tTup (tCons (tC (.str "num")) (tCons (tC (.int 0)) (tNil)))) (tCons (tTup (tCons (tC (.str "return")) (tNil))) (tNil))))) (tNil))) (gName 3)) (tDrop (tBM K "list" rAppend (tVar 1) (tCons (tTup (tCons (tOp (rIxT K) (tVar 2) (tC (.int 0))) (tCons (tVar 3) (tCons (tCall sp_law_table [] E0 (tCons (tVar 3) (tNil))) (tNil))))) (tNil)))))) (tRet (tCB (rTupOf K) (tCons (tVar 1) (tNil)))))

/-! ### alike -/
mutual
/-- the longest list or tuple within -/
def wid : PyData → Nat
  | .list xs => max xs.length (widAll xs)
  | .tuple xs => max xs.length (widAll xs)
  | .none | .bool _ | .int _ | .str _ | .dict _ => 0
def widAll : List PyData → Nat
  | [] => 0
  | x :: xs => max (wid x) (widAll xs)
end
theorem wid_mem : ∀ {ds : List PyData} {d : PyData}, d ∈ ds → wid d ≤ widAll ds ∧ d.depth ≤ PyData.depthAll ds
  | [], _, h => by cases h
  | e :: r, d, h => by
    rcases List.mem_cons.mp h with rfl | h
    · simp [widAll, PyData.depthAll]; omega
    · have := wid_mem h
      simp [widAll, PyData.depthAll]; omega
def spAlike (K : PySem.W.Frag) (n : Nat) : Sp := fun vs H Q _ => ∃ (x y : V) (d : PyData), vs = [x, y] ∧ Dp K H x d ∧ Dp K H y d ∧ d.depth < n ∧ wid d ≤ 1000000 ∧ Q (.bl true) H
theorem spAlike_zero {K : PySem.W.Frag} (vs : List V) (H : Hp) (Q : VK) (E : XK) : ¬ spAlike K 0 vs H Q E := by
  rintro ⟨x, y, d, _, _, _, h, _⟩
  omega
section
variable {K : PySem.W.Frag} {H : Hp} {a : Addr} {xs : List V}
theorem tyL (h : SqL K H a xs) : TyX K H (.ref a) (.type "list") := by
  rcases h with (h | ⟨o, h⟩) | ⟨o, its, n, hk, hc, _⟩
  · exact .base (.lst h)
  · exact .base (.frz h)
  · exact .kList hk hc
theorem tyT (h : SqT K H a xs) : TyX K H (.ref a) (.type "tuple") := by
  rcases h with (h | ⟨o, h⟩) | ⟨o, its, n, hk, hc, _⟩
  · exact .base (.tup h)
  · exact .fTuple h
  · exact .kTuple hk hc
theorem kit_bb : PySem.W.kitOne K (.type "bool") (.type "bool") = some true := kit_ty (by decide +kernel)
theorem kit_ib : PySem.W.kitOne K (.type "int") (.type "bool") = some false := kit_ty (by decide +kernel)
theorem kit_sb : PySem.W.kitOne K (.type "str") (.type "bool") = some false := kit_ty (by decide +kernel)
theorem kit_lb : PySem.W.kitOne K (.type "list") (.type "bool") = some false := kit_ty (by decide +kernel)
theorem kit_tb : PySem.W.kitOne K (.type "tuple") (.type "bool") = some false := kit_ty (by decide +kernel)
theorem kit_ii : PySem.W.kitOne K (.type "int") (.type "int") = some true := kit_ty (by decide +kernel)
theorem kit_si : PySem.W.kitOne K (.type "str") (.type "int") = some false := kit_ty (by decide +kernel)
theorem kit_li : PySem.W.kitOne K (.type "list") (.type "int") = some false := kit_ty (by decide +kernel)
theorem kit_ti : PySem.W.kitOne K (.type "tuple") (.type "int") = some false := kit_ty (by decide +kernel)
theorem kit_ss : PySem.W.kitOne K (.type "str") (.type "str") = some true := kit_ty (by decide +kernel)
theorem kit_ls : PySem.W.kitOne K (.type "list") (.type "str") = some false := kit_ty (by decide +kernel)
theorem kit_ts : PySem.W.kitOne K (.type "tuple") (.type "str") = some false := kit_ty (by decide +kernel)
theorem kit_tt : PySem.W.kitOne K (.type "tuple") (.type "tuple") = some true := kit_ty (by decide +kernel)
theorem kit_lt : PySem.W.kitOne K (.type "list") (.type "tuple") = some false := kit_ty (by decide +kernel)
theorem kit_tl : PySem.W.kitOne K (.type "tuple") (.type "list") = some false := kit_ty (by decide +kernel)
theorem kit_ll : PySem.W.kitOne K (.type "list") (.type "list") = some true := kit_ty (by decide +kernel)
/-- isinstance of what stands in a slot -/
theorem rIs {σ : L2.St} {i : Nat} {x : V} {t n : String} {b : Bool} {Q : VK} (hs : σ[i]? = some (some x)) (ty : TyX K H x (.type t)) (k : PySem.W.kitOne K (.type t) (.type n) = some b) (q : Q (.bl b) H) :
    tCB (rIsi K) (tCons (tVar i) (tCons (tC (.ty n)) tNil)) σ H Q := ⟨_, hs, x, .ty n, _, _, b, rfl, .ty n, ty, k, q⟩
theorem dpAll_length : ∀ {vs : List V} {ds : List PyData}, DpAll K H vs ds → vs.length = ds.length
  | _, [], h => by cases h; rfl
  | _, d :: ds, h => by
    cases h with
    | cons h1 h2 => simp [dpAll_length h2]
theorem dpAll_get : ∀ {vs : List V} {ds : List PyData} {i : Nat} {d : PyData}, DpAll K H vs ds → ds[i]? = some d → ∃ v, vs[i]? = some v ∧ Dp K H v d
  | _, [], i, d, h, e => by simp at e
  | _, d0 :: ds, 0, d, h, e => by
    cases h with
    | cons h1 h2 => simp at e; subst e; exact ⟨_, rfl, h1⟩
  | _, d0 :: ds, i + 1, d, h, e => by
    cases h with
    | cons h1 h2 =>
      obtain ⟨v, e', t⟩ := dpAll_get (i := i) (d := d) h2 (by simpa using e)
      exact ⟨v, by simpa using e', t⟩
end
abbrev N_law_alike : List Str := ["_law_found", "_law_due", "_law_k"]
theorem rd_alike {K : PySem.W.Frag} {n : Nat} (vs : List V) (H : Hp) (Q : VK) (E : XK) (h : spAlike K (n + 1) vs H Q E) : t_law_alike K (spAlike K n) { nx := fun _ H' => Q .non H', rt := Q } (start N_law_alike vs) H := by
  obtain ⟨x, y, d, rfl, hx, hy, hd, hw, q⟩ := h
  -- what is walked at the end: the places of two lists, two tuples
  have walk : ∀ (a b : Addr) (us ws : List V) (ds : List PyData) (s1 : SqL K H a us ∨ SqT K H a us) (s2 : SqL K H b ws ∨ SqT K H b ws), DpAll K H us ds → DpAll K H ws ds → PyData.depthAll ds < n → widAll ds ≤ 1000000 → ds.length ≤ 1000000 →
      (tSeq (tIfS (tTest (tOp rNe (tCB (rLenQ K) (tCons (tVar 0) (tNil))) (tCB (rLenQ K) (tCons (tVar 1) (tNil))))) (tRet (tC (.bl false))) (tNext)) (tSeq (tFor (iRng1 (tCons (tCB (rLenQ K) (tCons (tVar 1) (tNil))) (tNil))) (gName 2) (tIfS (tNot (tB (tCall (spAlike K n) [] E0 (tCons (tOp (rIx K) (tVar 0) (tVar 2)) (tCons (tOp (rIx K) (tVar 1) (tVar 2)) (tNil)))))) (tRet (tC (.bl false))) (tNext))) (tRet (tC (.bl true))))) { nx := fun _ H' => Q .non H', rt := Q } [some (.ref a), some (.ref b), none] H := by
    intro a b us ws ds s1 s2 h1 h2 hdep hwid hlen
    have l1 := dpAll_length h1; have l2 := dpAll_length h2
    refine ⟨_, rfl, a, us, rfl, s1, _, rfl, b, ws, rfl, s2, rfl, _, rfl, ifF (by rw [dT (by rw [l1, l2])]; rfl) ?_⟩
    refine ⟨_, rfl, b, ws, rfl, s2, _, rfl, by omega, by omega, for_range (lo := 0) (n := ((ws.length : Int)).toNat) (fun i σ H' => H' = H ∧ ∃ v, σ = [some (.ref a), some (.ref b), v]) ⟨rfl, none, rfl⟩ ?_ ?_⟩
    · rintro i σ H' hi ⟨rfl, v, rfl⟩
      have hi2 : i < ds.length := by omega
      have ed : ds[i]? = some ds[i] := List.getElem?_eq_getElem hi2
      obtain ⟨u, hu, du⟩ := dpAll_get h1 ed
      obtain ⟨w, hw', dw⟩ := dpAll_get h2 ed
      have hm := wid_mem (List.getElem_mem hi2)
      have e0 : (0 : Int) + (i : Int) = (i : Int) := by omega
      refine ⟨_, rfl, _, rfl, ?_⟩
      rw [e0]
      have ix1 : ∀ {Q' : VK}, Q' u H' → rIx K (.ref a) (.int (i : Int)) H' Q' := fun {Q'} q' => by
        rcases s1 with s | s
        · exact .inl ⟨a, us, _, u, rfl, rfl, s, atI_nat hu, q'⟩
        · exact .inr (.inl ⟨a, us, _, u, rfl, rfl, s, atI_nat hu, q'⟩)
      have ix2 : ∀ {Q' : VK}, Q' w H' → rIx K (.ref b) (.int (i : Int)) H' Q' := fun {Q'} q' => by
        rcases s2 with s | s
        · exact .inl ⟨b, ws, _, w, rfl, rfl, s, atI_nat hw', q'⟩
        · exact .inr (.inl ⟨b, ws, _, w, rfl, rfl, s, atI_nat hw', q'⟩)
      refine ix1 ⟨_, rfl, _, rfl, ix2 ⟨u, w, ds[i], rfl, du, dw, by omega, by omega, true, rfl, ifF rfl ?_⟩⟩
      exact ⟨rfl, _, rfl⟩
    · rintro σ H' ⟨rfl, v, rfl⟩
      exact q
  cases hx with
  | non =>
    cases hy
    refine ⟨_, rfl, rfl, _, rfl, ifT rfl ⟨_, rfl, rfl, q⟩⟩
  | bl b =>
    cases hy
    refine ⟨_, rfl, rfl, _, rfl, ifF rfl (rIs rfl (.base (.bl _)) kit_bb ⟨_, rfl, ifT rfl (rIs rfl (.base (.bl _)) kit_bb ⟨_, rfl, ifT rfl ⟨_, rfl, _, rfl, rfl, ?_⟩⟩)⟩)⟩
    rw [dT rfl]; exact q
  | int i =>
    cases hy
    refine ⟨_, rfl, rfl, _, rfl, ifF rfl (rIs rfl (.base (.int _)) kit_ib ⟨_, rfl, ifF rfl (rIs rfl (.base (.int _)) kit_ii ⟨_, rfl, ifT rfl (rIs rfl (.base (.int _)) kit_ii ⟨_, rfl, ifT rfl (rIs rfl (.base (.int _)) kit_ib ⟨_, rfl, _, rfl, ifT rfl ⟨_, rfl, _, rfl, rfl, ?_⟩⟩)⟩)⟩)⟩)⟩
    rw [dT rfl]; exact q
  | str z =>
    cases hy
    refine ⟨_, rfl, rfl, _, rfl, ifF rfl (rIs rfl (.base (.str _)) kit_sb ⟨_, rfl, ifF rfl (rIs rfl (.base (.str _)) kit_si ⟨_, rfl, ifF rfl (rIs rfl (.base (.str _)) kit_ss ⟨_, rfl, ifT rfl (rIs rfl (.base (.str _)) kit_ss ⟨_, rfl, ifT rfl ⟨_, rfl, _, rfl, rfl, ?_⟩⟩)⟩)⟩)⟩)⟩
    rw [dT rfl]; exact q
  | @lst a us ds s1 h1 =>
    cases hy with
    | @lst b ws _ s2 h2 =>
      have hd' : PyData.depthAll ds + 1 < n + 1 := by simpa [PyData.depth] using hd
      have hw' : max ds.length (widAll ds) ≤ 1000000 := by simpa [wid] using hw
      refine ⟨_, rfl, rfl, _, rfl, ifF rfl (rIs rfl (tyL s2) kit_lb ⟨_, rfl, ifF rfl (rIs rfl (tyL s2) kit_li ⟨_, rfl, ifF rfl (rIs rfl (tyL s2) kit_ls ⟨_, rfl, ifF rfl ?_⟩)⟩)⟩)⟩
      refine rIs rfl (tyL s2) kit_lt (rIs rfl (tyL s1) kit_lt ⟨rfl, _, rfl, ifF rfl (rIs rfl (tyL s2) kit_ll (rIs rfl (tyL s1) kit_ll ⟨rfl, _, rfl, ifF rfl ?_⟩))⟩)
      exact walk a b us ws ds (.inl s1) (.inl s2) h1 h2 (by omega) (by omega) (by omega)
  | @tup a us ds s1 h1 =>
    cases hy with
    | @tup b ws _ s2 h2 =>
      have hd' : PyData.depthAll ds + 1 < n + 1 := by simpa [PyData.depth] using hd
      have hw' : max ds.length (widAll ds) ≤ 1000000 := by simpa [wid] using hw
      refine ⟨_, rfl, rfl, _, rfl, ifF rfl (rIs rfl (tyT s2) kit_tb ⟨_, rfl, ifF rfl (rIs rfl (tyT s2) kit_ti ⟨_, rfl, ifF rfl (rIs rfl (tyT s2) kit_ts ⟨_, rfl, ifF rfl ?_⟩)⟩)⟩)⟩
      refine rIs rfl (tyT s2) kit_tt (rIs rfl (tyT s1) kit_tt ⟨rfl, _, rfl, ifF rfl (rIs rfl (tyT s2) kit_tl (rIs rfl (tyT s1) kit_tl ⟨rfl, _, rfl, ifF rfl ?_⟩))⟩)
      exact walk a b us ws ds (.inr s1) (.inr s2) h1 h2 (by omega) (by omega) (by omega)
/-! ### new lists of rows -/
/-- a new list of these; all stands -/
def NewL (K : PySem.W.Frag) (H : Hp) (Q : VK) (ds : List PyData) : Prop := ∀ (r : Addr) (vs : List V) (H' : Hp), H r = none → H' r = some (.lst vs) → TpAll K H' vs ds → Same H H' → Q (.ref r) H'
section
variable {K : PySem.W.Frag} {H H1 : Hp} {Q : VK}
theorem NewL.mono {ds : List PyData} (q : NewL K H Q ds) (s : Same H H1) : NewL K H1 Q ds := fun r vs H' hr h t s' => q r vs H' (s.free hr) h t (s.trans s')
theorem Same.new {p : Addr} {o : HO} (h : H p = none) : Same H (upd H p o) := fun b u e => by rw [upd_ne (ne_of_none e h)]; exact e
theorem sqSameL {a : Addr} {xs : List V} (s : Same H H1) (h : SqL K H a xs) : SqL K H1 a xs := s.seq h
/-- two lists in a row -/
theorem cat_new {a b : Addr} {xs ys : List V} {ds es : List PyData} (ha : H a = some (.lst xs)) (hb : H b = some (.lst ys)) (tx : TpAll K H xs ds) (ty : TpAll K H ys es) (hz : ds.length + es.length ≤ 1000000) (q : NewL K H Q (ds ++ es)) : rCat (.ref a) (.ref b) H Q := by
  refine ⟨a, b, xs, ys, rfl, rfl, ha, hb, ?_, fun p hp => ?_⟩
  · rw [tx.length, ty.length]; exact sz_le1 hz
  · exact q p _ _ hp upd_same ((tx.app ty).mono (Tk.new hp)) (Same.new hp)
/-- a comprehension over a list, all stands -/
theorem lc_same {Qd : Hp → Prop} {a D : Addr} {xs : List V} {ds es : List PyData} {te : TE} {slot : Nat} {σ : L2.St} (hs : SqL K H1 a xs) (ht : TpAll K H1 xs ds) (hl : es.length = ds.length) (hD : H1 D = none) (hz : ds.length < 1000000)
    (hw : ∀ x, wipe ((wipe σ [slot]).set slot x) [slot] = wipe σ [slot])
    (step : ∀ (i : Nat) (x : V) (d e : PyData) (H2 : Hp), ds[i]? = some d → es[i]? = some e → Same H1 H2 → Tp K H2 x d → ∀ Q' : VK, (∀ y H3, Same H2 H3 → Tp K H3 y e → Q' y H3) → te ((wipe σ [slot]).set slot (some x)) H2 Q')
    (fin : ∀ (vs : List V) (H' : Hp), H' D = some (.lst vs) → TpAll K H' vs es → Same H1 H' → Qd H') :
    ∃ W : Nat → Nat → Hp → Prop, (∃ m, W 0 m (upd H1 D (.lst []))) ∧ ∀ i m H, W i m H →
      ((Itl K a).stop i H ∧ Qd H) ∨ ((Itl K a).go i H ∧ ∃ Nx : Hp → Prop, (∀ H', Nx H' → ∃ m', m' < m ∧ W (i + 1) m' H') ∧ ∀ x H', (Itl K a).yld i H x H' → gName slot x (wipe σ [slot]) H' fun σ2 H2 => wipe σ2 [slot] = wipe σ [slot] ∧ tYes σ2 H2 fun c H3 =>
        if c = true then te σ2 H3 fun y H4 => ∃ acc, H4 D = some (.lst acc) ∧ acc.length < sizeLine ∧ Nx (upd H4 D (.lst (acc ++ [y]))) else Nx H3) := by
  have lx := ht.length
  refine lc_list (K := K) (a := a) (xs := xs) (Qd := Qd) (fun i H' => ∃ vs, H' D = some (.lst vs) ∧ TpAll K H' vs (es.take i) ∧ Same H1 H')
    ⟨[], upd_same, .nil, Same.new hD⟩ (fun i H' _ ⟨_, _, _, s⟩ => s.seq hs) ?_ ?_
  · rintro i x H2 hx ⟨vs, hv, tv, s2⟩
    obtain ⟨d, hd, td⟩ := ht.get hx
    have hi : i < es.length := by rw [hl]; exact (List.getElem?_eq_some_iff.mp hd).1
    have he : es[i]? = some es[i] := List.getElem?_eq_getElem hi
    refine ⟨hw _, ?_⟩
    show te ((wipe σ [slot]).set slot (some x)) H2 fun y H4 => ∃ acc, H4 D = some (.lst acc) ∧ acc.length < sizeLine ∧ _
    refine step i x d es[i] H2 hd he s2 (td.mono (Tk.same s2)) _ fun y H3 s3 t3 => ?_
    have hv3 := s3 D _ hv
    refine ⟨vs, hv3, ?_, vs ++ [y], upd_same, ?_, fun b u e => by rw [upd_ne (ne_of_none e hD)]; exact s3 b u (s2 b u e)⟩
    · have := tv.length
      rw [List.length_take] at this
      exact sz_lt1 (by omega)
    · rw [List.take_succ, he]
      exact ((tv.mono (Tk.same s3)).snoc t3).mono (Tk.lst hv3)
  · rintro H' ⟨vs, hv, tv, s2⟩
    rw [List.take_of_length_le (by omega)] at tv
    exact fin vs H' hv tv s2
end
/-! ### parts one by one -/
section
variable {K : PySem.W.Frag} {H : Hp} {xs : List V} {i : Nat} {x : V}
theorem drop_at (hx : xs[i]? = some x) : xs.drop i = x :: xs.drop (i + 1) := by
  have hi := (List.getElem?_eq_some_iff.mp hx).1
  rw [List.drop_eq_getElem_cons hi, (List.getElem?_eq_some_iff.mp hx).2]
theorem sms_at {r : Sms} (ht : TpAll K H (xs.drop i) r.ds) (hx : xs[i]? = some x) : ∃ s r', r = .cons s r' ∧ Tp K H x s.d ∧ TpAll K H (xs.drop (i + 1)) r'.ds := by
  rw [drop_at hx] at ht
  cases r with
  | nil => cases ht
  | cons s r' =>
    cases ht with
    | cons h1 h2 => exact ⟨s, r', rfl, h1, h2⟩
theorem sms_end {r : Sms} (ht : TpAll K H (xs.drop xs.length) r.ds) : r = .nil := by
  rw [List.drop_length] at ht
  cases r with
  | nil => rfl
  | cons s r' => cases ht
theorem hds_at {r : Hds} (ht : TpAll K H (xs.drop i) r.ds) (hx : xs[i]? = some x) : ∃ k sl t r', r = .cons k sl t r' ∧ Tp K H x (.tuple [kindD k, .int (sl : Int), t.d]) ∧ TpAll K H (xs.drop (i + 1)) r'.ds := by
  rw [drop_at hx] at ht
  cases r with
  | nil => cases ht
  | cons k sl t r' =>
    cases ht with
    | cons h1 h2 => exact ⟨k, sl, t, r', rfl, h1, h2⟩
theorem hds_end {r : Hds} (ht : TpAll K H (xs.drop xs.length) r.ds) : r = .nil := by
  rw [List.drop_length] at ht
  cases r with
  | nil => rfl
  | cons k sl t r' => cases ht
theorem exs_at {r : List Ex} (ht : TpAll K H (xs.drop i) (r.map Ex.d)) (hx : xs[i]? = some x) : ∃ e r', r = e :: r' ∧ Tp K H x e.d ∧ TpAll K H (xs.drop (i + 1)) (r'.map Ex.d) := by
  rw [drop_at hx] at ht
  cases r with
  | nil => cases ht
  | cons e r' =>
    cases ht with
    | cons h1 h2 => exact ⟨e, r', rfl, h1, h2⟩
theorem exs_end {r : List Ex} (ht : TpAll K H (xs.drop xs.length) (r.map Ex.d)) : r = [] := by
  rw [List.drop_length] at ht
  cases r with
  | nil => rfl
  | cons e r' => cases ht
end
/-! ### _law_part_code -/
def spPartCode (K : PySem.W.Frag) (n : Nat) : Sp := fun vs H Q _ => ∃ (v : V) (e : Ex), vs = [v] ∧ Tp K H v e.d ∧ e.dep ≤ n ∧ e.len ≤ 100000 ∧ NewL K H Q (e.code.map Rw.d)
theorem spPartCode_zero {K : PySem.W.Frag} (vs : List V) (H : Hp) (Q : VK) (E : XK) : ¬ spPartCode K 0 vs H Q E := by
  rintro ⟨v, e, _, _, h, _⟩
  cases e <;> simp [Ex.dep] at h
section
variable {K : PySem.W.Frag}
abbrev N_law_part_code : List Str := ["_law_part_here"]
theorem rd_part_code {n : Nat} (vs : List V) (H : Hp) (Q : VK) (E : XK) (h : spPartCode K (n + 1) vs H Q E) : t_law_part_code K (spPartCode K n) { nx := fun _ H' => Q .non H', rt := Q } (start N_law_part_code vs) H := by
  obtain ⟨v, e, rfl, ht, hd, hz, q⟩ := h
  have leaf : ∀ (a : Addr) (x0 x1 : V), v = .ref a → SqT K H a [x0, x1] → (x0 = .str "num" ∨ x0 = .str "var") → e.code.map Rw.d = [e.d] → t_law_part_code K (spPartCode K n) { nx := fun _ H' => Q .non H', rt := Q } (start N_law_part_code [v]) H := by
    rintro a x0 x1 rfl hT hx he
    refine rd_ixT (j := 0) rfl hT rfl ⟨(by show 2 ≤ sizeLine; decide), fun p hp => ⟨p, _, rfl, .inr (SqT.of upd_same), ?_⟩⟩
    have f1 : flatV x0 = true := by rcases hx with rfl | rfl <;> rfl
    have f2 : inV x0 ([.str "num", .str "var"] : List V) = true := by rcases hx with rfl | rfl <;> rfl
    refine ⟨f1, rfl, true, by rw [if_neg Bool.false_ne_true, f2], ifT rfl ?_⟩
    refine ⟨_, rfl, (by show 1 ≤ sizeLine; decide), fun r hr => ?_⟩
    have s1 : Same H (L2.upd H p (.tup [.str "num", .str "var"])) := Same.new hp
    refine q r _ _ (s1.free hr) upd_same ?_ (s1.trans (Same.new hr))
    rw [he]
    exact .cons ((ht.mono (Tk.same s1)).mono (Tk.new hr)) .nil
  cases e with
  | num k =>
    obtain ⟨a, x0, x1, rfl, hT, h0, h1⟩ := ht.tup2
    exact leaf a x0 x1 rfl hT (.inl h0.strE) rfl
  | var k =>
    obtain ⟨a, x0, x1, rfl, hT, h0, h1⟩ := ht.tup2
    exact leaf a x0 x1 rfl hT (.inr h0.strE) rfl
  | bin o e1 e2 =>
    obtain ⟨a, x0, x1, x2, rfl, hT, h0, h1, h2⟩ := ht.tup3
    cases h0.strE
    have hd' : max e1.dep e2.dep + 1 ≤ n + 1 := hd
    have hz' : e1.len + e2.len + 1 ≤ 100000 := hz
    refine rd_ixT (j := 0) rfl hT rfl ⟨(by show 2 ≤ sizeLine; decide), fun p hp => ⟨p, _, rfl, .inr (SqT.of upd_same), rfl, rfl, false, ?_, ifF rfl ?_⟩⟩
    · rw [if_neg Bool.false_ne_true]; cases o <;> rfl
    have s1 : Same H (L2.upd H p (.tup [.str "num", .str "var"])) := Same.new hp
    refine rd_ixT (j := 1) rfl (s1.sqT hT) rfl ⟨_, e1, rfl, h1.mono (Tk.same s1), by omega, by omega, fun r1 us H1 hr1 hl1 t1 s2 => ?_⟩
    have s12 := s1.trans s2
    refine rd_ixT (j := 2) rfl (s12.sqT hT) rfl ⟨_, e2, rfl, h2.mono (Tk.same s12), by omega, by omega, fun r2 ws H2 hr2 hl2 t2 s3 => ?_⟩
    refine cat_new (K := K) (s3 _ _ hl1) hl2 (t1.mono (Tk.same s3)) t2 (by rw [List.length_map, List.length_map, Ex.code_len, Ex.code_len]; omega) fun r3 ys H3 hr3 hl3 t3 s4 => ?_
    have s14 := (s12.trans s3).trans s4
    refine rd_ixT (j := 0) rfl (s14.sqT hT) rfl ⟨(by show 1 ≤ sizeLine; decide), fun p2 hp2 => ⟨(by show 1 ≤ sizeLine; decide), fun p3 hp3 => ?_⟩⟩
    have s5 : Same H3 (L2.upd (L2.upd H3 p2 (.tup [.str o.s])) p3 (.lst [.ref p2])) := (Same.new hp2).trans (Same.new hp3)
    refine cat_new (K := K) (ds := e1.code.map Rw.d ++ e2.code.map Rw.d) (es := [(Rw.op o).d]) (s5 _ _ hl3) upd_same (t3.mono (Tk.same s5)) (.cons ((Tp.mk hp2 (.cons (.str _) .nil)).mono (Tk.new hp3)) .nil) (by simp [Ex.code_len]; omega) ?_
    rw [show e1.code.map Rw.d ++ e2.code.map Rw.d ++ [(Rw.op o).d] = (Ex.bin o e1 e2).code.map Rw.d by simp [Ex.code]]
    exact q.mono (s14.trans s5)
/-! ### _law_code and what it calls -/
/-- the turn as it is handed: None, or three numbers -/
def tnD : Option Tn → PyData
  | none => .none
  | some t => .tuple [.int t.1, .int t.2.1, .int t.2.2]
def tnOf : Option Tn → Tn
  | none => (0, 0, 0)
  | some t => t
/-- what may be coded: breaks where there is a while, at most so deep and so long; from a place on -/
structure CodeOk (s : Sm) (n : Nat) (tn : Option Tn) (base : Int) : Prop where
  wf : ∃ cs nk hand, s.Wf cs nk tn.isSome hand
  dep : s.dep ≤ n
  len : s.len ≤ 100000
  b0 : 0 ≤ base
  tn0 : ∀ t, tn = some t → 0 ≤ t.1
def spCode (n : Nat) : Sp := fun vs H Q _ => ∃ (v tv : V) (s : Sm) (base D : Int) (tn : Option Tn), vs = [v, .int base, .int D, tv] ∧ Tp K H v s.d ∧ Tp K H tv (tnD tn) ∧ CodeOk s n tn base ∧ NewL K H Q ((s.code base D (tnOf tn)).map Rw.d)
theorem spCode_zero (vs : List V) (H : Hp) (Q : VK) (E : XK) : ¬ spCode (K := K) 0 vs H Q E := by
  rintro ⟨v, tv, s, base, D, tn, _, _, _, h, _⟩
  have := h.dep
  cases s <;> simp [Sm.dep] at this
def spIfCode (n : Nat) : Sp := fun vs H Q _ => ∃ (v tv : V) (e : Ex) (s t : Sm) (base D : Int) (tn : Option Tn), vs = [v, .int base, .int D, tv] ∧ Tp K H v (Sm.ife e s t).d ∧ Tp K H tv (tnD tn) ∧ CodeOk (.ife e s t) (n + 1) tn base ∧ NewL K H Q (((Sm.ife e s t).code base D (tnOf tn)).map Rw.d)
def spLoopCode (n : Nat) : Sp := fun vs H Q _ => ∃ (v : V) (e : Ex) (s : Sm) (base D : Int) (tn : Option Tn), vs = [v, .int base, .int D] ∧ Tp K H v (Sm.whl e s).d ∧ CodeOk (.whl e s) (n + 1) tn base ∧ NewL K H Q (((Sm.whl e s).code base D (tnOf tn)).map Rw.d)
def spTryCode (n : Nat) : Sp := fun vs H Q _ => ∃ (v tv : V) (s : Sm) (hs : Hds) (base D : Int) (tn : Option Tn), vs = [v, .int base, .int D, tv] ∧ Tp K H v (Sm.tri s hs).d ∧ Tp K H tv (tnD tn) ∧ CodeOk (.tri s hs) (n + 1) tn base ∧ NewL K H Q (((Sm.tri s hs).code base D (tnOf tn)).map Rw.d)
def spCleanCode (n : Nat) : Sp := fun vs H Q _ => ∃ (v tv : V) (s c : Sm) (base D : Int) (tn : Option Tn), vs = [v, .int base, .int D, tv] ∧ Tp K H v (Sm.cln s c).d ∧ Tp K H tv (tnD tn) ∧ CodeOk (.cln s c) (n + 1) tn base ∧ NewL K H Q (((Sm.cln s c).code base D (tnOf tn)).map Rw.d)
def Sm.plain : Sm → Bool
  | .row _ | .ife _ _ _ | .whl _ _ | .tri _ _ | .cln _ _ => false
  | _ => true
def spPlainCode : Sp := fun vs H Q _ => ∃ (v tv : V) (s : Sm) (n : Nat) (base D : Int) (tn : Option Tn), vs = [v, tv] ∧ Tp K H v s.d ∧ Tp K H tv (tnD tn) ∧ s.plain = true ∧ CodeOk s n tn base ∧ NewL K H Q ((s.code base D (tnOf tn)).map Rw.d)
theorem Sm.dep_pos : ∀ s : Sm, 1 ≤ s.dep := fun s => by cases s <;> simp [Sm.dep]
theorem ite_int {c : Bool} : (if c = true then (1 : Int) else 0) = if c then 1 else 0 := by cases c <;> rfl
abbrev N_law_if_code : List Str := ["_law_one", "_law_base", "_law_depth", "_law_turn", "_law_head", "_law_yes", "_law_here", "_law_no"]
theorem rd_if_code {n : Nat} (vs : List V) (H : Hp) (Q : VK) (E : XK) (h : spIfCode (K := K) n vs H Q E) : t_law_if_code K (spPartCode K 6) (spCode (K := K) n) { nx := fun _ H' => Q .non H', rt := Q } (start N_law_if_code vs) H := by
  obtain ⟨v, tv, e, s, t, base, D, tn, rfl, ht, htn, ok, q⟩ := h
  obtain ⟨cs, nk, hand, ⟨we, de⟩, ws, wt⟩ := ok.wf
  have hd : max s.dep t.dep + 1 ≤ n + 1 := ok.dep
  have hl : e.len + 1 + s.len + 1 + t.len ≤ 100000 := ok.len
  have b0 := ok.b0
  obtain ⟨a, x0, x1, x2, x3, rfl, hT, h0, h1, h2, h3⟩ := ht.tup4
  refine rd_ixT (j := 1) rfl hT rfl ⟨_, e, rfl, h1, by omega, by omega, fun r1 us H1 hr1 hl1 t1 s1 => ?_⟩
  have lu : (us.length : Int) = e.len := by rw [t1.length, List.length_map, Ex.code_len]
  refine rd_ixT (j := 2) rfl (s1.sqT hT) rfl ⟨_, rfl, _, rfl, r1, us, rfl, .inl (SqL.of hl1), _, _, rfl, rfl, _, _, rfl, rfl, _, rfl, _, rfl, ?_⟩
  refine ⟨x2, tv, s, base + us.length + 1, D, tn, rfl, h2.mono (Tk.same s1), htn.mono (Tk.same s1), ⟨⟨cs, nk, hand, ws⟩, by omega, by omega, by omega, ok.tn0⟩, fun r2 ws' H2 hr2 hl2 t2 s2 => ?_⟩
  have s12 := s1.trans s2
  have hl1' := s2 _ _ hl1
  have lw : (ws'.length : Int) = s.len := by rw [t2.length, List.length_map, Sm.code_len]
  refine ⟨_, rfl, _, rfl, r1, us, rfl, .inl (SqL.of hl1'), _, _, rfl, rfl, _, rfl, r2, ws', rfl, .inl (SqL.of hl2), _, _, rfl, rfl, _, _, rfl, rfl, ?_⟩
  refine rd_ixT (j := 3) rfl (s12.sqT hT) rfl ⟨_, rfl, _, rfl, _, rfl, ?_⟩
  refine ⟨x3, tv, t, base + us.length + ws'.length + 2, D, tn, rfl, h3.mono (Tk.same s12), htn.mono (Tk.same s12), ⟨⟨cs, nk, hand, wt⟩, by omega, by omega, by omega, ok.tn0⟩, fun r3 zs H3 hr3 hl3 t3 s3 => ?_⟩
  have lz : (zs.length : Int) = t.len := by rw [t3.length, List.length_map, Sm.code_len]
  have e1 : base + us.length + 1 = base + e.len + 1 := by omega
  have e2 : base + us.length + ws'.length + 2 = base + e.len + 1 + s.len + 1 := by omega
  rw [e1] at t2; rw [e2] at t3
  have hl1'' := s3 _ _ hl1'
  have hl2' := s3 _ _ hl2
  -- head + [("unless", here)]
  refine ⟨_, rfl, _, rfl, (by show 2 ≤ sizeLine; decide), fun p hp => ⟨(by show 1 ≤ sizeLine; decide), fun p2 hp2 => ?_⟩⟩
  have sA : Same H3 (L2.upd (L2.upd H3 p (.tup [.str "unless", .int (base + us.length + ws'.length + 2)])) p2 (.lst [.ref p])) := (Same.new hp).trans (Same.new hp2)
  refine cat_new (K := K) (ds := e.code.map Rw.d) (es := [(Rw.unless (base + us.length + ws'.length + 2)).d]) (sA _ _ hl1'') upd_same ((t1.mono (Tk.same (s2.trans s3))).mono (Tk.same sA)) (.cons ((Tp.mk hp (.cons (.str _) (.cons (.int _) .nil))).mono (Tk.new hp2)) .nil) (by rw [List.length_map, Ex.code_len]; simp; omega) fun r4 ws4 H4 hr4 hl4 t4 s4 => ?_
  have s34 := sA.trans s4
  refine ⟨_, rfl, cat_new (K := K) hl4 (s34 _ _ hl2') t4 ((t2.mono (Tk.same s3)).mono (Tk.same s34)) (by simp [Ex.code_len, Sm.code_len]; omega) fun r5 ws5 H5 hr5 hl5 t5 s5 => ?_⟩
  have s35 := s34.trans s5
  refine ⟨_, rfl, _, rfl, r3, zs, rfl, .inl (SqL.of (s35 _ _ hl3)), _, _, rfl, rfl, (by show 2 ≤ sizeLine; decide), fun p3 hp3 => ⟨(by show 1 ≤ sizeLine; decide), fun p4 hp4 => ?_⟩⟩
  have sB : Same H5 (L2.upd (L2.upd H5 p3 (.tup [.str "go", .int (base + us.length + ws'.length + 2 + zs.length)])) p4 (.lst [.ref p3])) := (Same.new hp3).trans (Same.new hp4)
  refine cat_new (K := K) (es := [(Rw.go (base + us.length + ws'.length + 2 + zs.length)).d]) (sB _ _ hl5) upd_same (t5.mono (Tk.same sB)) (.cons ((Tp.mk hp3 (.cons (.str _) (.cons (.int _) .nil))).mono (Tk.new hp4)) .nil) (by simp [Ex.code_len, Sm.code_len]; omega) fun r6 ws6 H6 hr6 hl6 t6 s6 => ?_
  have s36 := (s35.trans sB).trans s6
  refine ⟨_, rfl, cat_new (K := K) hl6 (s36 _ _ hl3) t6 (t3.mono (Tk.same s36)) (by simp [Ex.code_len, Sm.code_len]; omega) ?_⟩
  have e3 : base + us.length + ws'.length + 2 + zs.length = base + e.len + 1 + s.len + 1 + t.len := by omega
  rw [e3, e2]
  rw [show e.code.map Rw.d ++ [(Rw.unless (base + e.len + 1 + s.len + 1)).d] ++ (s.code (base + e.len + 1) D (tnOf tn)).map Rw.d ++ [(Rw.go (base + e.len + 1 + s.len + 1 + t.len)).d] ++ (t.code (base + e.len + 1 + s.len + 1) D (tnOf tn)).map Rw.d = ((Sm.ife e s t).code base D (tnOf tn)).map Rw.d by simp [Sm.code]]
  exact q.mono ((s12.trans s3).trans s36)
theorem shaped_rw (r : Rw) : SeqAt.shaped r.d = true := by
  cases r with
  | op o => cases o <;> decide +kernel
  | hand b x kd D => cases kd <;> simp [SeqAt.shaped, Rw.d, kindD, PyData.canLay0, PyData.canLayAll0, PyData.depth, PyData.depthAll] <;> decide +kernel
  | _ => simp [SeqAt.shaped, Rw.d, PyData.canLay0, PyData.canLayAll0, PyData.depth, PyData.depthAll] <;> decide +kernel
/-- [row, other][int(row == mark)] where all three are rows -/
theorem pick_row {σ : L2.St} {H2 : Hp} {x : V} {r r' mk : Rw} {i : Nat} {tb tm : TE} {Q' : VK} (hx : σ[i]? = some (some x)) (tx : Tp K H2 x r.d)
    (hb : ∀ (H3 : Hp) (Q2 : VK), Same H2 H3 → (∀ p H4, Same H3 H4 → Tp K H4 (.ref p) r'.d → Q2 (.ref p) H4) → tb σ H3 Q2)
    (hm : ∀ (H3 : Hp) (Q2 : VK), Same H2 H3 → (∀ p H4, Same H3 H4 → Tp K H4 (.ref p) mk.d → Q2 (.ref p) H4) → tm σ H3 Q2) (eqv : PyData.eqv r.d mk.d = decide (r = mk))
    (q : ∀ y H3, Same H2 H3 → Tp K H3 y (if r = mk then r' else r).d → Q' y H3) :
    tOp (rIxL K) (tLst (tCons (tVar i) (tCons tb tNil))) (tCB rInt1 (tCons (tOp (rEqD K) (tVar i) tm) tNil)) σ H2 Q' := by
  refine ⟨_, hx, hb H2 _ (Same.refl _) fun p H3 s3 t3 => ⟨(by show 2 ≤ sizeLine; decide), fun l hl => ?_⟩⟩
  have s4 : Same H2 (L2.upd H3 l (.lst [x, .ref p])) := s3.trans (Same.new hl)
  refine ⟨_, hx, hm _ _ s4 fun p2 H5 s5 t5 => ⟨r.d, mk.d, (tx.mono (Tk.same (s4.trans s5))).dp, t5.dp, shaped_rw r, shaped_rw mk, .inr ⟨_, rfl, ?_⟩⟩⟩
  rw [eqv]
  have hl5 := s5 l _ upd_same
  by_cases c : r = mk
  · rw [if_pos (dT c)]
    have z := q (.ref p) H5 (s4.trans s5)
    rw [if_pos c] at z
    exact ⟨l, _, 1, .ref p, rfl, rfl, SqL.of hl5, rfl, z (t3.mono (Tk.same ((Same.new hl).trans s5)))⟩
  · rw [if_neg (by rw [dF c]; decide)]
    have z := q x H5 (s4.trans s5)
    rw [if_neg c] at z
    exact ⟨l, _, 0, x, rfl, rfl, SqL.of hl5, rfl, z (tx.mono (Tk.same (s4.trans s5)))⟩
abbrev N_law_loop_code : List Str := ["_law_one", "_law_base", "_law_depth", "_law_head", "_law_start", "_law_inner", "_law_leave", "_law_row"]
theorem rd_loop_code {n : Nat} (vs : List V) (H : Hp) (Q : VK) (E : XK) (h : spLoopCode (K := K) n vs H Q E) : t_law_loop_code K (spPartCode K 6) (spCode (K := K) n) { nx := fun _ H' => Q .non H', rt := Q } (start N_law_loop_code vs) H := by
  obtain ⟨v, e, s, base, D, tn, rfl, ht, ok, q⟩ := h
  obtain ⟨cs, nk, hand, ⟨we, de⟩, ws⟩ := ok.wf
  have hd : s.dep + 1 ≤ n + 1 := ok.dep
  have hl : e.len + 2 + s.len + 1 ≤ 100000 := ok.len
  have b0 := ok.b0
  obtain ⟨a, x0, x1, x2, rfl, hT, h0, h1, h2⟩ := ht.tup3
  refine rd_ixT (j := 1) rfl hT rfl ⟨_, e, rfl, h1, by omega, by omega, fun r1 us H1 hr1 hl1 t1 s1 => ?_⟩
  have lu : (us.length : Int) = e.len := by rw [t1.length, List.length_map, Ex.code_len]
  refine ⟨_, rfl, _, rfl, r1, us, rfl, .inl (SqL.of hl1), _, _, rfl, rfl, _, _, rfl, rfl, ?_⟩
  refine rd_ixT (j := 2) rfl (s1.sqT hT) rfl ⟨_, rfl, _, rfl, _, rfl, _, rfl, _, rfl, _, _, rfl, rfl, _, rfl, (by show 3 ≤ sizeLine; decide), fun p hp => ?_⟩
  have sp : Same H1 (L2.upd H1 p (.tup [.int base, .int (-1 - base), .int D])) := Same.new hp
  have eS : base + us.length + 2 = base + e.len + 2 := by omega
  refine ⟨x2, .ref p, s, base + us.length + 2, D, some (base, -1 - base, D), rfl, (h2.mono (Tk.same s1)).mono (Tk.same sp), Tp.mk hp (.cons (.int _) (.cons (.int _) (.cons (.int _) .nil))), ⟨⟨cs, nk, hand, ws⟩, by omega, by omega, by omega, fun t z => by cases z; exact b0⟩, fun r2 ws' H2 hr2 hl2 t2 s2 => ?_⟩
  rw [eS] at t2
  have s12 := (s1.trans sp).trans s2
  have lw : (ws'.length : Int) = s.len := by rw [t2.length, List.length_map, Sm.code_len]
  refine ⟨_, rfl, _, rfl, r2, ws', rfl, .inl (SqL.of hl2), _, _, rfl, rfl, _, _, rfl, rfl, ?_⟩
  -- the look at each row
  have eZ : base + us.length + 2 + ws'.length + 1 = base + e.len + 2 + s.len + 1 := by omega
  refine ⟨_, rfl, r2, rfl, ⟨_, SqL.of hl2⟩, fun L hL => ?_⟩
  refine lc_same (K := K) (es := ((s.code (base + e.len + 2) D (base, base + e.len + 2 + s.len + 1, D)).map Rw.d)) (SqL.of hl2) t2 (by simp [Sm.code_len]) hL (by simp [Sm.code_len]; omega) ?hw ?_ ?_
  case hw => exact fun _ => rfl
  · intro i x d f H3 hd hf s3 tx Q' q'
    rw [List.getElem?_map] at hd hf
    have hfill := Sm.subL (w := -1 - base) (z := base + e.len + 2 + s.len + 1) (p := base) (D0 := D) (by omega) b0 s (base + e.len + 2) D (by omega)
    rw [← hfill, List.getElem?_map] at hf
    cases er : (s.code (base + e.len + 2) D (tnOf (some (base, -1 - base, D))))[i]? with
    | none => rw [er] at hd; cases hd
    | some r =>
      have er' : (s.code (base + e.len + 2) D (base, -1 - base, D))[i]? = some r := er
      rw [er] at hd; rw [er'] at hf
      obtain rfl : r.d = d := Option.some.inj hd
      obtain rfl : (subL (-1 - base) (base + e.len + 2 + s.len + 1) D r).d = f := Option.some.inj hf
      refine pick_row (r := r) (r' := .leap (base + e.len + 2 + s.len + 1) D) (mk := .leap (-1 - base) D) rfl tx ?_ ?_ (Rw.eqv_leap _ _ _) q'
      · intro H4 Q2 s4 k
        refine ⟨_, rfl, _, rfl, (by show 3 ≤ sizeLine; decide), fun p3 hp3 => k p3 _ (Same.new hp3) ?_⟩
        rw [← eZ]
        exact Tp.mk hp3 (.cons (.str _) (.cons (.int _) (.cons (.int _) .nil)))
      · intro H4 Q2 s4 k
        exact ⟨_, rfl, _, rfl, _, _, rfl, rfl, _, rfl, (by show 3 ≤ sizeLine; decide), fun p3 hp3 => k p3 _ (Same.new hp3) (Tp.mk hp3 (.cons (.str _) (.cons (.int _) (.cons (.int _) .nil))))⟩
  · intro zs H3 hL3 tz s3
    have s13 := s12.trans s3
    have hl1' := ((sp.trans s2).trans s3) _ _ hl1
    refine ⟨_, rfl, _, rfl, (by show 2 ≤ sizeLine; decide), fun p1 hp1 => ⟨(by show 1 ≤ sizeLine; decide), fun p2 hp2 => ⟨(by show 2 ≤ sizeLine; decide), fun p3 hp3 => ?_⟩⟩⟩
    have sA : Same H3 (L2.upd (L2.upd (L2.upd H3 p1 (.tup [.str "unless", .int (base + us.length + 2 + ws'.length + 1)])) p2 (.tup [.str "turn"])) p3 (.lst [.ref p1, .ref p2])) := ((Same.new hp1).trans (Same.new hp2)).trans (Same.new hp3)
    have tA : TpAll K (L2.upd (L2.upd (L2.upd H3 p1 (.tup [.str "unless", .int (base + us.length + 2 + ws'.length + 1)])) p2 (.tup [.str "turn"])) p3 (.lst [.ref p1, .ref p2])) [.ref p1, .ref p2] [(Rw.unless (base + us.length + 2 + ws'.length + 1)).d, Rw.turn.d] :=
      .cons (((Tp.mk hp1 (.cons (.str _) (.cons (.int _) .nil))).mono (Tk.new hp2)).mono (Tk.new hp3)) (.cons ((Tp.mk hp2 (.cons (.str _) .nil)).mono (Tk.new hp3)) .nil)
    refine cat_new (K := K) (sA _ _ hl1') upd_same ((t1.mono (Tk.same ((sp.trans s2).trans s3))).mono (Tk.same sA)) tA (by simp [Ex.code_len]; omega) fun r4 ws4 H4 hr4 hl4 t4 s4 => ?_
    have s34 := sA.trans s4
    refine ⟨_, rfl, cat_new (K := K) hl4 (s34 _ _ hL3) t4 (tz.mono (Tk.same s34)) (by simp [Ex.code_len, Sm.code_len]; omega) fun r5 ws5 H5 hr5 hl5 t5 s5 => ?_⟩
    refine ⟨_, rfl, (by show 2 ≤ sizeLine; decide), fun p4 hp4 => ⟨(by show 1 ≤ sizeLine; decide), fun p5 hp5 => ?_⟩⟩
    have sB : Same H5 (L2.upd (L2.upd H5 p4 (.tup [.str "go", .int base])) p5 (.lst [.ref p4])) := (Same.new hp4).trans (Same.new hp5)
    refine cat_new (K := K) (es := [(Rw.go base).d]) (sB _ _ hl5) upd_same (t5.mono (Tk.same sB)) (.cons ((Tp.mk hp4 (.cons (.str _) (.cons (.int _) .nil))).mono (Tk.new hp5)) .nil) (by simp [Ex.code_len, Sm.code_len]; omega) ?_
    rw [eZ, show e.code.map Rw.d ++ [(Rw.unless (base + e.len + 2 + s.len + 1)).d, Rw.turn.d] ++ (s.code (base + e.len + 2) D (base, base + e.len + 2 + s.len + 1, D)).map Rw.d ++ [(Rw.go base).d] = ((Sm.whl e s).code base D (tnOf tn)).map Rw.d by simp [Sm.code]]
    exact q.mono (((s13.trans s34).trans s5).trans sB)
abbrev N_law_clean_code : List Str := ["_law_one", "_law_base", "_law_depth", "_law_turn", "_law_inner", "_law_end", "_law_last"]
theorem rd_clean_code {n : Nat} (vs : List V) (H : Hp) (Q : VK) (E : XK) (h : spCleanCode (K := K) n vs H Q E) : t_law_clean_code K (spCode (K := K) n) { nx := fun _ H' => Q .non H', rt := Q } (start N_law_clean_code vs) H := by
  obtain ⟨v, tv, s, c, base, D, tn, rfl, ht, htn, ok, q⟩ := h
  obtain ⟨cs, nk, hand, ws, wc⟩ := ok.wf
  have hd : max s.dep c.dep + 1 ≤ n + 1 := ok.dep
  have hl : s.len + 2 + c.len + 1 ≤ 100000 := ok.len
  have b0 := ok.b0
  obtain ⟨a, x0, x1, x2, rfl, hT, h0, h1, h2⟩ := ht.tup3
  refine rd_ixT (j := 1) rfl hT rfl ⟨_, rfl, _, rfl, _, rfl, ?_⟩
  refine ⟨x1, tv, s, base, D, tn, rfl, h1, htn, ⟨⟨cs, nk, hand, ws⟩, by omega, by omega, b0, ok.tn0⟩, fun r1 us H1 hr1 hl1 t1 s1 => ?_⟩
  have lu : (us.length : Int) = s.len := by rw [t1.length, List.length_map, Sm.code_len]
  refine ⟨(by show 1 ≤ sizeLine; decide), fun p1 hp1 => ⟨(by show 1 ≤ sizeLine; decide), fun p2 hp2 => ?_⟩⟩
  have sA : Same H1 (L2.upd (L2.upd H1 p1 (.tup [.str "mend"])) p2 (.lst [.ref p1])) := (Same.new hp1).trans (Same.new hp2)
  refine cat_new (K := K) (es := [Rw.mend.d]) (sA _ _ hl1) upd_same (t1.mono (Tk.same sA)) (.cons ((Tp.mk hp1 (.cons (.str _) .nil)).mono (Tk.new hp2)) .nil) (by simp [Sm.code_len]; omega) fun r2 ws2 H2 hr2 hl2 t2 s2 => ?_
  have s12 := (s1.trans sA).trans s2
  have lw : (ws2.length : Int) = s.len + 1 := by rw [t2.length]; simp [Sm.code_len]
  refine ⟨_, rfl, _, rfl, r2, ws2, rfl, .inl (SqL.of hl2), _, _, rfl, rfl, ?_⟩
  refine rd_ixT (j := 2) rfl (s12.sqT hT) rfl ⟨_, rfl, _, _, rfl, rfl, _, rfl, _, _, rfl, rfl, _, rfl, ?_⟩
  have eB : base + ws2.length + 1 = base + s.len + 2 := by omega
  refine ⟨x2, tv, c, base + ws2.length + 1, D + 1, tn, rfl, h2.mono (Tk.same s12), htn.mono (Tk.same s12), ⟨⟨cs, nk, hand, wc⟩, by omega, by omega, by omega, ok.tn0⟩, fun r3 ws3 H3 hr3 hl3 t3 s3 => ?_⟩
  rw [eB] at t3
  refine ⟨_, rfl, _, rfl, _, rfl, _, rfl, (by show 4 ≤ sizeLine; decide), fun p3 hp3 => ⟨(by show 1 ≤ sizeLine; decide), fun p4 hp4 => ?_⟩⟩
  have sB : Same H3 (L2.upd (L2.upd H3 p3 (.tup [.str "cleanup", .int base, .int (base + ws2.length), .int D])) p4 (.lst [.ref p3])) := (Same.new hp3).trans (Same.new hp4)
  refine cat_new (K := K) (es := [(Rw.cup base (base + ws2.length) D).d]) (sB _ _ (s3 _ _ hl2)) upd_same ((t2.mono (Tk.same s3)).mono (Tk.same sB)) (.cons ((Tp.mk hp3 (.cons (.str _) (.cons (.int _) (.cons (.int _) (.cons (.int _) .nil))))).mono (Tk.new hp4)) .nil) (by simp [Sm.code_len]; omega) fun r4 ws4 H4 hr4 hl4 t4 s4 => ?_
  have s34 := sB.trans s4
  refine ⟨_, rfl, cat_new (K := K) hl4 (s34 _ _ hl3) t4 (t3.mono (Tk.same s34)) (by simp [Sm.code_len]; omega) fun r5 ws5 H5 hr5 hl5 t5 s5 => ?_⟩
  refine ⟨(by show 1 ≤ sizeLine; decide), fun p5 hp5 => ⟨(by show 1 ≤ sizeLine; decide), fun p6 hp6 => ?_⟩⟩
  have sC : Same H5 (L2.upd (L2.upd H5 p5 (.tup [.str "resume"])) p6 (.lst [.ref p5])) := (Same.new hp5).trans (Same.new hp6)
  refine cat_new (K := K) (es := [Rw.resume.d]) (sC _ _ hl5) upd_same (t5.mono (Tk.same sC)) (.cons ((Tp.mk hp5 (.cons (.str _) .nil)).mono (Tk.new hp6)) .nil) (by simp [Sm.code_len]; omega) ?_
  have eX : base + ws2.length = base + s.len + 1 := by omega
  rw [eX, show (s.code base D (tnOf tn)).map Rw.d ++ [Rw.mend.d] ++ [(Rw.cup base (base + s.len + 1) D).d] ++ (c.code (base + s.len + 2) (D + 1) (tnOf tn)).map Rw.d ++ [Rw.resume.d] = ((Sm.cln s c).code base D (tnOf tn)).map Rw.d by simp [Sm.code]]
  exact q.mono ((((s12.trans s3).trans s34).trans s5).trans sC)
abbrev N_law_try_code : List Str := ["_law_one", "_law_base", "_law_depth", "_law_turn", "_law_inner", "_law_end", "_law_rows", "_law_handler_here", "_law_leave", "_law_row"]
theorem rd_try_code {n : Nat} (vs : List V) (H : Hp) (Q : VK) (E : XK) (h : spTryCode (K := K) n vs H Q E) : t_law_try_code K (spCode (K := K) n) { nx := fun _ H' => Q .non H', rt := Q } (start N_law_try_code vs) H := by
  obtain ⟨v, tv, s, hs, base, D, tn, rfl, ht, htn, ok, q⟩ := h
  obtain ⟨cs, nk, hand, ws, wh⟩ := ok.wf
  have hd : max s.dep hs.dep + 1 ≤ n + 1 := ok.dep
  have hl : s.len + 1 + hs.len ≤ 100000 := ok.len
  have b0 := ok.b0
  obtain ⟨a, x0, x1, x2, rfl, hT, h0, h1, h2⟩ := ht.tup3
  obtain ⟨ah, hxs, rfl, hTh, hth⟩ := h2.tupE
  refine rd_ixT (j := 1) rfl hT rfl ⟨_, rfl, _, rfl, _, rfl, ?_⟩
  refine ⟨x1, tv, s, base, D, tn, rfl, h1, htn, ⟨⟨cs, nk, hand, ws⟩, by omega, by omega, b0, ok.tn0⟩, fun r1 us H1 hr1 hl1 t1 s1 => ?_⟩
  have lu : (us.length : Int) = s.len := by rw [t1.length, List.length_map, Sm.code_len]
  refine ⟨_, rfl, _, rfl, r1, us, rfl, .inl (SqL.of hl1), _, _, rfl, rfl, _, rfl, _, rfl, (by show 2 ≤ sizeLine; decide), fun p1 hp1 => ⟨(by show 1 ≤ sizeLine; decide), fun p2 hp2 => ?_⟩⟩
  have sA : Same H1 (L2.upd (L2.upd H1 p1 (.tup [.str "go", .int (-1)])) p2 (.lst [.ref p1])) := (Same.new hp1).trans (Same.new hp2)
  refine cat_new (K := K) (es := [(Rw.go (-1)).d]) (sA _ _ hl1) upd_same (t1.mono (Tk.same sA)) (.cons ((Tp.mk hp1 (.cons (.str _) (.cons (.int _) .nil))).mono (Tk.new hp2)) .nil) (by simp [Sm.code_len]; omega) fun r2 ws2 H2 hr2 hl2 t2 s2 => ?_
  have s12 := (s1.trans sA).trans s2
  have eX : base + us.length = base + s.len := by omega
  -- the handlers, one by one
  refine rd_ixT (j := 2) rfl (s12.sqT hT) rfl ⟨ah, rfl, ⟨_, s12.sqT hTh⟩, for_tup (K := K) (a := ah) (xs := hxs) (fun i σ H' => ∃ (r : Hds) (pre : List Rw) (rr : Addr) (rv : List V) (v7 : Option V),
      σ = [some (.ref a), some (.int base), some (.int D), some tv, some (.ref r1), some (.int (base + us.length)), some (.ref rr), v7, none, none] ∧ Same H H' ∧ H' rr = some (.lst rv) ∧ TpAll K H' rv (((s.code base D (tnOf tn)) ++ [Rw.go (-1)] ++ pre).map Rw.d) ∧
      TpAll K H' (hxs.drop i) r.ds ∧ r.Wf cs nk tn.isSome ∧ r.dep ≤ n ∧ pre.length + r.len = hs.len ∧ pre ++ r.code base (base + s.len) (-1) (base + s.len + 1 + pre.length) D (tnOf tn) = hs.code base (base + s.len) (-1) (base + s.len + 1) D (tnOf tn))
    ⟨hs, [], r2, ws2, none, rfl, s12, hl2, by rw [List.append_nil, List.map_append]; exact t2, by rw [List.drop_zero]; exact hth.mono (Tk.same s12), wh, by omega, by simp, by simp⟩ (fun i σ H' _ ⟨_, _, _, _, _, _, s', _⟩ => s'.sqT hTh) ?_ ?_⟩
  · rintro i x σ H3 hx ⟨r, pre, rr, rv, v7, rfl, s3, hrr, trv, tr, wr, dr, lr, er⟩
    obtain ⟨k, sl, t, r', rfl, tx, tr'⟩ := hds_at tr hx
    obtain ⟨ax, y0, y1, y2, rfl, hTx, k0, k1, k2⟩ := tx.tup3
    cases k1.intE
    obtain ⟨wk, wsl, wt, wr'⟩ : (∀ j, k = some j → j < nk) ∧ sl < 8 ∧ t.Wf cs nk tn.isSome true ∧ r'.Wf cs nk tn.isSome := wr
    have dr2 : max t.dep r'.dep ≤ n := dr
    have lr2 : pre.length + (2 + t.len + 2 + r'.len) = hs.len := lr
    have lrv : (rv.length : Int) = s.len + 1 + pre.length := by rw [trv.length]; simp [Sm.code_len]; omega
    -- the two rows ahead
    refine ⟨_, rfl, _, rfl, _, rfl, rd_ixT (j := 0) rfl hTx rfl ⟨_, rfl, (by show 5 ≤ sizeLine; decide), fun p3 hp3 => ?_⟩⟩
    have sx1 : Same H3 (L2.upd H3 p3 (.tup [.str "handler", .int base, .int (base + us.length), y0, .int D])) := Same.new hp3
    refine rd_ixT (j := 1) rfl (sx1.sqT hTx) rfl ⟨(by show 2 ≤ sizeLine; decide), fun p4 hp4 => ⟨(by show 2 ≤ sizeLine; decide), fun p5 hp5 => ?_⟩⟩
    have sB : Same H3 (L2.upd (L2.upd (L2.upd H3 p3 (.tup [.str "handler", .int base, .int (base + us.length), y0, .int D])) p4 (.tup [.str "set", .int (sl : Int)])) p5 (.lst [.ref p3, .ref p4])) := (sx1.trans (Same.new hp4)).trans (Same.new hp5)
    have tB : TpAll K (L2.upd (L2.upd (L2.upd H3 p3 (.tup [.str "handler", .int base, .int (base + us.length), y0, .int D])) p4 (.tup [.str "set", .int (sl : Int)])) p5 (.lst [.ref p3, .ref p4])) [.ref p3, .ref p4] [(Rw.hand base (base + s.len) k D).d, (Rw.set sl).d] := by
      rw [← eX]
      exact .cons (((Tp.mk hp3 (.cons (.str _) (.cons (.int _) (.cons (.int _) (.cons k0 (.cons (.int _) .nil)))))).mono (Tk.new hp4)).mono (Tk.new hp5)) (.cons ((Tp.mk hp4 (.cons (.str _) (.cons (.int _) .nil))).mono (Tk.new hp5)) .nil)
    refine cat_new (K := K) (sB _ _ hrr) upd_same (trv.mono (Tk.same sB)) tB (by simp [Sm.code_len]; omega) fun r4 ws4 H4 hr4 hl4 t4 s4 => ?_
    have s34 := sB.trans s4
    have l4 : (ws4.length : Int) = s.len + 1 + pre.length + 2 := by rw [t4.length]; simp [Sm.code_len]; omega
    -- the handler's own
    refine ⟨_, rfl, rd_ixT (j := 2) rfl (s34.sqT hTx) rfl ⟨_, rfl, _, rfl, r4, ws4, rfl, .inl (SqL.of hl4), _, _, rfl, rfl, _, rfl, _, _, rfl, rfl, _, rfl, ?_⟩⟩
    have eB : base + ws4.length = base + s.len + 1 + pre.length + 2 := by omega
    refine ⟨y2, tv, t, base + ws4.length, D + 1, tn, rfl, k2.mono (Tk.same s34), htn.mono (Tk.same (s3.trans s34)), ⟨⟨cs, nk, true, wt⟩, by omega, by omega, by omega, ok.tn0⟩, fun r5 ws5 H5 hr5 hl5 t5 s5 => ?_⟩
    rw [eB] at t5
    refine cat_new (K := K) (s5 _ _ hl4) hl5 (t4.mono (Tk.same s5)) t5 (by simp [Sm.code_len]; omega) fun r6 ws6 H6 hr6 hl6 t6 s6 => ?_
    refine ⟨_, rfl, (by show 1 ≤ sizeLine; decide), fun p6 hp6 => ⟨_, rfl, (by show 2 ≤ sizeLine; decide), fun p7 hp7 => ⟨(by show 2 ≤ sizeLine; decide), fun p8 hp8 => ?_⟩⟩⟩
    have sC : Same H6 (L2.upd (L2.upd (L2.upd H6 p6 (.tup [.str "settled"])) p7 (.tup [.str "go", .int (-1)])) p8 (.lst [.ref p6, .ref p7])) := ((Same.new hp6).trans (Same.new hp7)).trans (Same.new hp8)
    have tC : TpAll K (L2.upd (L2.upd (L2.upd H6 p6 (.tup [.str "settled"])) p7 (.tup [.str "go", .int (-1)])) p8 (.lst [.ref p6, .ref p7])) [.ref p6, .ref p7] [Rw.settled.d, (Rw.go (-1)).d] :=
      .cons (((Tp.mk hp6 (.cons (.str _) .nil)).mono (Tk.new hp7)).mono (Tk.new hp8)) (.cons ((Tp.mk hp7 (.cons (.str _) (.cons (.int _) .nil))).mono (Tk.new hp8)) .nil)
    refine cat_new (K := K) (sC _ _ hl6) upd_same (t6.mono (Tk.same sC)) tC (by simp [Sm.code_len]; omega) fun r7 ws7 H7 hr7 hl7 t7 s7 => ?_
    have sZ := (((s34.trans s5).trans s6).trans sC).trans s7
    refine ⟨r', pre ++ ([Rw.hand base (base + s.len) k D, Rw.set sl] ++ t.code (base + s.len + 1 + pre.length + 2) (D + 1) (tnOf tn) ++ [Rw.settled, Rw.go (-1)]), r7, ws7, _, rfl, s3.trans sZ, hl7, ?_, tr'.mono (Tk.same sZ), wr', by omega, by simp [Sm.code_len]; omega, ?_⟩
    · rw [show ((s.code base D (tnOf tn)) ++ [Rw.go (-1)] ++ (pre ++ ([Rw.hand base (base + s.len) k D, Rw.set sl] ++ t.code (base + s.len + 1 + pre.length + 2) (D + 1) (tnOf tn) ++ [Rw.settled, Rw.go (-1)]))).map Rw.d = ((s.code base D (tnOf tn)) ++ [Rw.go (-1)] ++ pre).map Rw.d ++ [(Rw.hand base (base + s.len) k D).d, (Rw.set sl).d] ++ (t.code (base + s.len + 1 + pre.length + 2) (D + 1) (tnOf tn)).map Rw.d ++ [Rw.settled.d, (Rw.go (-1)).d] by simp]
      exact t7
    · rw [← er]
      have e9 : base + s.len + 1 + ((pre ++ ([Rw.hand base (base + s.len) k D, Rw.set sl] ++ t.code (base + s.len + 1 + pre.length + 2) (D + 1) (tnOf tn) ++ [Rw.settled, Rw.go (-1)])).length : Int) = base + s.len + 1 + pre.length + 2 + t.len + 2 := by simp [Sm.code_len]; omega
      rw [e9]
      simp [Hds.code]
  · rintro σ H3 ⟨r, pre, rr, rv, v7, rfl, s3, hrr, trv, tr, wr, dr, lr, er⟩
    cases hds_end tr
    have er' : pre = hs.code base (base + s.len) (-1) (base + s.len + 1) D (tnOf tn) := by simpa [Hds.code] using er
    have lr' : pre.length = hs.len := by simpa [Hds.len] using lr
    have lrv : (rv.length : Int) = s.len + 1 + hs.len := by rw [trv.length]; simp [Sm.code_len]; omega
    refine ⟨_, rfl, _, rfl, rr, rv, rfl, .inl (SqL.of hrr), _, _, rfl, rfl, ?_⟩
    have eZ : base + rv.length = base + s.len + 1 + hs.len := by omega
    refine ⟨_, rfl, rr, rfl, ⟨_, SqL.of hrr⟩, fun L hL => ?_⟩
    have hfill : ((s.code base D (tnOf tn)) ++ [Rw.go (-1)] ++ pre).map (subG (base + s.len + 1 + hs.len)) = (Sm.tri s hs).code base D (tnOf tn) := by
      rw [er', List.map_append, List.map_append, Sm.subG s _ _ _ b0, Hds.fill hs _ _ _ _ _ (by omega)]
      rw [show [Rw.go (-1)].map (subG (base + s.len + 1 + hs.len)) = [.go (base + s.len + 1 + hs.len)] from congrArg (fun z => [z]) (if_pos rfl)]
      simp [Sm.code]
    refine lc_same (K := K) (es := ((Sm.tri s hs).code base D (tnOf tn)).map Rw.d) (SqL.of hrr) trv (by simp [Sm.code_len, Sm.len]; omega) hL (by simp [Sm.code_len]; omega) ?hw ?_ ?_
    case hw => exact fun _ => rfl
    · intro i x d f H4 hd hf s4 tx Q' q'
      rw [List.getElem?_map] at hd hf
      rw [← hfill, List.getElem?_map] at hf
      cases er2 : ((s.code base D (tnOf tn)) ++ [Rw.go (-1)] ++ pre)[i]? with
      | none => rw [er2] at hd; cases hd
      | some rw_ =>
        rw [er2] at hd hf
        obtain rfl : rw_.d = d := Option.some.inj hd
        obtain rfl : (subG (base + s.len + 1 + hs.len) rw_).d = f := Option.some.inj hf
        refine pick_row (r := rw_) (r' := .go (base + s.len + 1 + hs.len)) (mk := .go (-1)) rfl tx ?_ ?_ (Rw.eqv_go _ _) q'
        · intro H5 Q2 s5 k
          refine ⟨_, rfl, (by show 2 ≤ sizeLine; decide), fun p3 hp3 => k p3 _ (Same.new hp3) ?_⟩
          rw [← eZ]
          exact Tp.mk hp3 (.cons (.str _) (.cons (.int _) .nil))
        · intro H5 Q2 s5 k
          exact ⟨_, rfl, (by show 2 ≤ sizeLine; decide), fun p3 hp3 => k p3 _ (Same.new hp3) (Tp.mk hp3 (.cons (.str _) (.cons (.int _) .nil)))⟩
    · intro zs H4 hL4 tz s4
      exact q L zs H4 ((s3.free hL)) hL4 tz (s3.trans s4)
abbrev N_law_plain_code : List Str := ["_law_one", "_law_turn", "_law_word", "_law_rows", "_law_part_here"]
/-- an expression's rows, and one more -/
theorem part_and {σ : L2.St} {H : Hp} {Q2 : VK} {e : Ex} {x : V} {r : Rw} {te tr : TE} (te_ : ∀ Q' : VK, Q' x H → te σ H Q') (tx : Tp K H x e.d) (de : e.dep ≤ 5) (hl : e.len ≤ 100000)
    (tr_ : ∀ (H1 : Hp) (Q' : VK), Same H H1 → (∀ p H2, Same H1 H2 → Tp K H2 (.ref p) r.d → Q' (.ref p) H2) → tr σ H1 Q') (q : NewL K H Q2 (e.code.map Rw.d ++ [r.d])) :
    tOp rCat (tCall (spPartCode K 6) [] E0 (tCons te tNil)) (tLst (tCons tr tNil)) σ H Q2 := by
  refine te_ _ ⟨x, e, rfl, tx, by omega, by omega, fun r1 us H1 hr1 hl1 t1 s1 => ?_⟩
  refine tr_ H1 _ s1 fun p H2 s2 tp => ⟨(by show 1 ≤ sizeLine; decide), fun p2 hp2 => ?_⟩
  have s3 : Same H1 (L2.upd H2 p2 (.lst [.ref p])) := s2.trans (Same.new hp2)
  exact cat_new (K := K) (s3 _ _ hl1) upd_same (t1.mono (Tk.same s3)) (.cons (tp.mono (Tk.new hp2)) .nil) (by simp [Ex.code_len]; omega) (q.mono (s1.trans s3))
theorem rd_plain_code (vs : List V) (H : Hp) (Q : VK) (E : XK) (h : spPlainCode (K := K) vs H Q E) : t_law_plain_code K (spPartCode K 6) { nx := fun _ H' => Q .non H', rt := Q } (start N_law_plain_code vs) H := by
  obtain ⟨v, tv, s, n, base, D, tn, rfl, ht, htn, pl, ok, q⟩ := h
  obtain ⟨cs, nk, hand, ws⟩ := ok.wf
  have hl := ok.len
  cases s with
  | row _ => cases pl
  | ife _ _ _ => cases pl
  | whl _ _ => cases pl
  | tri _ _ => cases pl
  | cln _ _ => cases pl
  | brk =>
    obtain ⟨a, x0, rfl, hT, h0⟩ := ht.tup1
    cases h0.strE
    cases tn with
    | none => exact absurd ws (by simp [Sm.Wf])
    | some t =>
      obtain ⟨c, y0, y1, y2, rfl, hTc, k0, k1, k2⟩ := htn.tup3
      cases k0.intE; cases k1.intE; cases k2.intE
      refine rd_ixT (j := 0) rfl hT rfl ?_
      refine r_ifT (pb_is (pb_eqS rfl) rfl) ?_
      refine rd_ixT (j := 1) rfl hTc rfl (rd_ixT (j := 2) rfl hTc rfl ⟨(by show 3 ≤ sizeLine; decide), fun p hp => ⟨(by show 1 ≤ sizeLine; decide), fun p2 hp2 => ?_⟩⟩)
      exact q p2 _ _ ((Same.new hp).free hp2) upd_same (.cons ((Tp.mk hp (.cons (.str _) (.cons (.int _) (.cons (.int _) .nil)))).mono (Tk.new hp2)) .nil) ((Same.new hp).trans (Same.new hp2))
  | cnt =>
    obtain ⟨a, x0, rfl, hT, h0⟩ := ht.tup1
    cases h0.strE
    cases tn with
    | none => exact absurd ws (by simp [Sm.Wf])
    | some t =>
      obtain ⟨c, y0, y1, y2, rfl, hTc, k0, k1, k2⟩ := htn.tup3
      cases k0.intE; cases k1.intE; cases k2.intE
      refine rd_ixT (j := 0) rfl hT rfl (r_ifF (pb_is (pb_eqS rfl) rfl) (r_ifT (pb_is (pb_eqS rfl) rfl) ?_))
      refine rd_ixT (j := 0) rfl hTc rfl (rd_ixT (j := 2) rfl hTc rfl ⟨(by show 3 ≤ sizeLine; decide), fun p hp => ⟨(by show 1 ≤ sizeLine; decide), fun p2 hp2 => ?_⟩⟩)
      exact q p2 _ _ ((Same.new hp).free hp2) upd_same (.cons ((Tp.mk hp (.cons (.str _) (.cons (.int _) (.cons (.int _) .nil)))).mono (Tk.new hp2)) .nil) ((Same.new hp).trans (Same.new hp2))
  | again =>
    obtain ⟨a, x0, rfl, hT, h0⟩ := id ht.tup1
    cases h0.strE
    refine rd_ixT (j := 0) rfl hT rfl (r_ifF (pb_is (pb_eqS rfl) rfl) (r_ifF (pb_is (pb_eqS rfl) rfl) (r_ifT (pb_is (pb_eqS rfl) rfl) ?_)))
    refine ⟨_, rfl, (by show 1 ≤ sizeLine; decide), fun p hp => ?_⟩
    exact q p _ _ hp upd_same (.cons (ht.mono (Tk.new hp)) .nil) (Same.new hp)
  | set k e =>
    obtain ⟨a, x0, x1, x2, rfl, hT, h0, h1, h2⟩ := ht.tup3
    cases h0.strE; cases h1.intE
    have hl' : e.len + 1 ≤ 100000 := hl
    refine rd_ixT (j := 0) rfl hT rfl (r_ifF (pb_is (pb_eqS rfl) rfl) (r_ifF (pb_is (pb_eqS rfl) rfl) (r_ifF (pb_is (pb_eqS rfl) rfl) (r_ifT (pb_is (pb_eqS rfl) rfl) ?_))))
    refine part_and (e := e) (x := x2) (r := .set k) (fun Q' q' => rd_ixT (j := 2) rfl hT rfl q') h2 ws.2.2 (by omega) (fun H1 Q' s1 k1 => rd_ixT (j := 1) rfl (s1.sqT hT) rfl ⟨(by show 2 ≤ sizeLine; decide), fun p hp => k1 p _ (Same.new hp) (Tp.mk hp (.cons (.str _) (.cons (.int _) .nil)))⟩) ?_
    rw [show e.code.map Rw.d ++ [(Rw.set k).d] = ((Sm.set k e).code base D (tnOf tn)).map Rw.d by simp [Sm.code]]
    exact q
  | rais kd e m =>
    obtain ⟨a, x0, x1, x2, x3, rfl, hT, h0, h1, h2, h3⟩ := ht.tup4
    cases h0.strE; cases h1.intE; cases h3.intE
    have hl' : e.len + 1 ≤ 100000 := hl
    refine rd_ixT (j := 0) rfl hT rfl (r_ifF (pb_is (pb_eqS rfl) rfl) (r_ifF (pb_is (pb_eqS rfl) rfl) (r_ifF (pb_is (pb_eqS rfl) rfl) (r_ifF (pb_is (pb_eqS rfl) rfl) (r_ifT (pb_is (pb_eqS rfl) rfl) ?_)))))
    refine part_and (e := e) (x := x2) (r := .rais kd m) (fun Q' q' => rd_ixT (j := 2) rfl hT rfl q') h2 ws.2.1.2 (by omega) (fun H1 Q' s1 k1 => rd_ixT (j := 1) rfl (s1.sqT hT) rfl (rd_ixT (j := 3) rfl (s1.sqT hT) rfl ⟨(by show 3 ≤ sizeLine; decide), fun p hp => k1 p _ (Same.new hp) (Tp.mk hp (.cons (.str _) (.cons (.int _) (.cons (.int _) .nil))))⟩)) ?_
    rw [show e.code.map Rw.d ++ [(Rw.rais kd m).d] = ((Sm.rais kd e m).code base D (tnOf tn)).map Rw.d by simp [Sm.code]]
    exact q
  | say e =>
    obtain ⟨a, x0, x1, rfl, hT, h0, h1⟩ := ht.tup2
    cases h0.strE
    have hl' : e.len + 1 ≤ 100000 := hl
    refine rd_ixT (j := 0) rfl hT rfl (r_ifF (pb_is (pb_eqS rfl) rfl) (r_ifF (pb_is (pb_eqS rfl) rfl) (r_ifF (pb_is (pb_eqS rfl) rfl) (r_ifF (pb_is (pb_eqS rfl) rfl) (r_ifF (pb_is (pb_eqS rfl) rfl) (r_ifF (pb_is (pb_eqS rfl) rfl) ?_))))))
    refine part_and (e := e) (x := x1) (r := .say) (fun Q' q' => rd_ixT (j := 1) rfl hT rfl q') h1 ws.2 (by omega) (fun H1 Q' s1 k1 => ⟨_, rfl, (by show 1 ≤ sizeLine; decide), fun p hp => k1 p _ (Same.new hp) (Tp.mk hp (.cons (.str _) .nil))⟩) ?_
    rw [show e.code.map Rw.d ++ [Rw.say.d] = ((Sm.say e).code base D (tnOf tn)).map Rw.d by simp [Sm.code]]
    exact q
  | ret e =>
    obtain ⟨a, x0, x1, rfl, hT, h0, h1⟩ := ht.tup2
    cases h0.strE
    have hl' : e.len + 1 ≤ 100000 := hl
    refine rd_ixT (j := 0) rfl hT rfl (r_ifF (pb_is (pb_eqS rfl) rfl) (r_ifF (pb_is (pb_eqS rfl) rfl) (r_ifF (pb_is (pb_eqS rfl) rfl) (r_ifF (pb_is (pb_eqS rfl) rfl) (r_ifF (pb_is (pb_eqS rfl) rfl) (r_ifF (pb_is (pb_eqS rfl) rfl) ?_))))))
    refine part_and (e := e) (x := x1) (r := .ret) (fun Q' q' => rd_ixT (j := 1) rfl hT rfl q') h1 ws.2 (by omega) (fun H1 Q' s1 k1 => ⟨_, rfl, (by show 1 ≤ sizeLine; decide), fun p hp => k1 p _ (Same.new hp) (Tp.mk hp (.cons (.str _) .nil))⟩) ?_
    rw [show e.code.map Rw.d ++ [Rw.ret.d] = ((Sm.ret e).code base D (tnOf tn)).map Rw.d by simp [Sm.code]]
    exact q
  | call k f ps m =>
    obtain ⟨a, x0, x1, x2, x3, x4, rfl, hT, h0, h1, h2, h3, h4⟩ := ht.tup5
    cases h0.strE; cases h1.intE; cases h2.intE; cases h4.intE
    obtain ⟨pa, pxs, rfl, hTp, htp⟩ := h3.tupE
    have hl' : exsLen ps + 2 ≤ 100000 := hl
    obtain ⟨_, _, _, wps, _⟩ := ws
    refine rd_ixT (j := 0) rfl hT rfl (r_ifF (pb_is (pb_eqS rfl) rfl) (r_ifF (pb_is (pb_eqS rfl) rfl) (r_ifF (pb_is (pb_eqS rfl) rfl) (r_ifF (pb_is (pb_eqS rfl) rfl) (r_ifF (pb_is (pb_eqS rfl) rfl) (r_ifT (pb_is (pb_eqS rfl) rfl) ?_))))))
    refine ⟨(by show 0 ≤ sizeLine; decide), fun p hp => ?_⟩
    have s0 : Same H (L2.upd H p (.lst [])) := Same.new hp
    refine rd_ixT (j := 3) rfl (s0.sqT hT) rfl ⟨pa, rfl, ⟨_, s0.sqT hTp⟩, for_tup (K := K) (a := pa) (xs := pxs) (fun i σ H' => ∃ (r : List Ex) (pre : List Rw) (rr : Addr) (rv : List V) (v4 : Option V),
        σ = [some (.ref a), some tv, some (.str "call"), some (.ref rr), v4] ∧ Same H H' ∧ H' rr = some (.lst rv) ∧ TpAll K H' rv (pre.map Rw.d) ∧ TpAll K H' (pxs.drop i) (r.map Ex.d) ∧ (∀ e ∈ r, e.dep ≤ 5) ∧ pre.length + exsLen r = exsLen ps ∧ pre ++ exsCode r = exsCode ps)
      ⟨ps, [], p, [], none, rfl, s0, upd_same, .nil, by rw [List.drop_zero]; exact htp.mono (Tk.same s0), fun e he => (wps e he).2, by simp, by simp⟩ (fun i σ H' _ ⟨_, _, _, _, _, _, s', _⟩ => s'.sqT hTp) ?_ ?_⟩
    · rintro i x σ H3 hx ⟨r, pre, rr, rv, v4, rfl, s3, hrr, trv, tr, dr, lr, er⟩
      obtain ⟨e, r', rfl, tx, tr'⟩ := exs_at tr hx
      have lr2 : pre.length + (e.len + exsLen r') = exsLen ps := lr
      refine ⟨_, rfl, _, rfl, x, e, rfl, tx, by have := dr e List.mem_cons_self; omega, by omega, fun r1 us H4 hr1 hl1 t1 s4 => ?_⟩
      refine cat_new (K := K) (s4 _ _ hrr) hl1 (trv.mono (Tk.same s4)) t1 (by simp [Ex.code_len]; omega) fun r2 us2 H5 hr2 hl2 t2 s5 => ?_
      have sZ := s4.trans s5
      exact ⟨r', pre ++ e.code, r2, us2, _, rfl, s3.trans sZ, hl2, by rw [List.map_append]; exact t2, tr'.mono (Tk.same sZ), fun z hz => dr z (List.mem_cons_of_mem _ hz), by simp [Ex.code_len]; omega, by rw [← er]; simp [exsCode]⟩
    · rintro σ H3 ⟨r, pre, rr, rv, v4, rfl, s3, hrr, trv, tr, dr, lr, er⟩
      cases exs_end tr
      have er' : pre = exsCode ps := by simpa [exsCode] using er
      have lp : pxs.length = ps.length := by have := htp.length; rw [List.length_map] at this; exact this
      refine ⟨_, rfl, rd_ixT (j := 2) rfl (s3.sqT hT) rfl (rd_ixT (j := 3) rfl (s3.sqT hT) rfl ⟨pa, pxs, rfl, .inr (s3.sqT hTp), rd_ixT (j := 4) rfl (s3.sqT hT) rfl ⟨(by show 4 ≤ sizeLine; decide), fun p1 hp1 => ?_⟩⟩)⟩
      have s4 : Same H3 (L2.upd H3 p1 (.tup [.str "call", .int (f : Int), .int (pxs.length : Int), .int m])) := Same.new hp1
      refine rd_ixT (j := 1) rfl ((s3.trans s4).sqT hT) rfl ⟨(by show 2 ≤ sizeLine; decide), fun p2 hp2 => ⟨(by show 2 ≤ sizeLine; decide), fun p3 hp3 => ?_⟩⟩
      have s5 : Same H3 (L2.upd (L2.upd (L2.upd H3 p1 (.tup [.str "call", .int (f : Int), .int (pxs.length : Int), .int m])) p2 (.tup [.str "set", .int (k : Int)])) p3 (.lst [.ref p1, .ref p2])) := (s4.trans (Same.new hp2)).trans (Same.new hp3)
      refine cat_new (K := K) (ds := (exsCode ps).map Rw.d) (es := [(Rw.call f ps.length m).d, (Rw.set k).d]) (s5 _ _ hrr) upd_same (by rw [← er']; exact trv.mono (Tk.same s5)) (.cons ?_ (.cons ?_ .nil)) (by simp [exsCode_len]; omega) ?_
      · rw [← lp]
        exact ((Tp.mk hp1 (.cons (.str _) (.cons (.int _) (.cons (.int _) (.cons (.int _) .nil))))).mono (Tk.new hp2)).mono (Tk.new hp3)
      · exact (Tp.mk hp2 (.cons (.str _) (.cons (.int _) .nil))).mono (Tk.new hp3)
      · rw [show (exsCode ps).map Rw.d ++ [(Rw.call f ps.length m).d, (Rw.set k).d] = ((Sm.call k f ps m).code base D (tnOf tn)).map Rw.d by simp [Sm.code]]
        exact q.mono (s3.trans s5)
abbrev N_law_code : List Str := ["_law_one", "_law_base", "_law_depth", "_law_turn", "_law_word", "_law_rows", "_law_part_here"]
theorem rd_code {n : Nat} (vs : List V) (H : Hp) (Q : VK) (E : XK) (h : spCode (K := K) (n + 1) vs H Q E) : t_law_code K (spCode (K := K) n) (spIfCode (K := K) n) (spLoopCode (K := K) n) (spTryCode (K := K) n) (spCleanCode (K := K) n) (spPlainCode (K := K)) { nx := fun _ H' => Q .non H', rt := Q } (start N_law_code vs) H := by
  obtain ⟨v, tv, s, base, D, tn, rfl, ht, htn, ok, q⟩ := h
  have word : ∀ (a : Addr) (xs : List V) (w : Str), v = .ref a → SqT K H a xs → xs[0]? = some (.str w) → (V.str w ≠ .str "row" ∧ V.str w ≠ .str "if" ∧ V.str w ≠ .str "while" ∧ V.str w ≠ .str "try" ∧ V.str w ≠ .str "clean") → s.plain = true → t_law_code K (spCode (K := K) n) (spIfCode (K := K) n) (spLoopCode (K := K) n) (spTryCode (K := K) n) (spCleanCode (K := K) n) (spPlainCode (K := K)) { nx := fun _ H' => Q .non H', rt := Q } (start N_law_code [v, .int base, .int D, tv]) H := by
    rintro a xs w rfl hT hw ⟨n1, n2, n3, n4, n5⟩ pl
    refine rd_ixT (j := 0) rfl hT hw (r_ifF (pb_is (pb_eqS rfl) (dF n1)) (r_ifF (pb_is (pb_eqS rfl) (dF n2)) (r_ifF (pb_is (pb_eqS rfl) (dF n3)) (r_ifF (pb_is (pb_eqS rfl) (dF n4)) (r_ifF (pb_is (pb_eqS rfl) (dF n5)) ?_)))))
    exact ⟨_, rfl, _, rfl, _, tv, s, n + 1, base, D, tn, rfl, ht, htn, pl, ok, q⟩
  cases s with
  | say e =>
    obtain ⟨a, x0, x1, rfl, hT, h0, h1⟩ := id ht.tup2
    cases h0.strE
    exact word a _ "say" rfl hT rfl (by decide) rfl
  | set k e =>
    obtain ⟨a, x0, x1, x2, rfl, hT, h0, h1, h2⟩ := id ht.tup3
    cases h0.strE
    exact word a _ "set" rfl hT rfl (by decide) rfl
  | brk =>
    obtain ⟨a, x0, rfl, hT, h0⟩ := id ht.tup1
    cases h0.strE
    exact word a _ "break" rfl hT rfl (by decide) rfl
  | cnt =>
    obtain ⟨a, x0, rfl, hT, h0⟩ := id ht.tup1
    cases h0.strE
    exact word a _ "continue" rfl hT rfl (by decide) rfl
  | again =>
    obtain ⟨a, x0, rfl, hT, h0⟩ := id ht.tup1
    cases h0.strE
    exact word a _ "again" rfl hT rfl (by decide) rfl
  | ret e =>
    obtain ⟨a, x0, x1, rfl, hT, h0, h1⟩ := id ht.tup2
    cases h0.strE
    exact word a _ "return" rfl hT rfl (by decide) rfl
  | call k f ps m =>
    obtain ⟨a, x0, x1, x2, x3, x4, rfl, hT, h0, h1, h2, h3, h4⟩ := id ht.tup5
    cases h0.strE
    exact word a _ "call" rfl hT rfl (by decide) rfl
  | rais kd e m =>
    obtain ⟨a, x0, x1, x2, x3, rfl, hT, h0, h1, h2, h3⟩ := id ht.tup4
    cases h0.strE
    exact word a _ "raise" rfl hT rfl (by decide) rfl
  | ife e s t =>
    obtain ⟨a, x0, x1, x2, x3, rfl, hT, h0, h1, h2, h3⟩ := id ht.tup4
    cases h0.strE
    refine rd_ixT (j := 0) rfl hT rfl (r_ifF (pb_is (pb_eqS rfl) rfl) (r_ifT (pb_is (pb_eqS rfl) rfl) ?_))
    exact ⟨_, rfl, _, rfl, _, rfl, _, rfl, _, tv, e, s, t, base, D, tn, rfl, ht, htn, ok, q⟩
  | whl e s =>
    obtain ⟨a, x0, x1, x2, rfl, hT, h0, h1, h2⟩ := id ht.tup3
    cases h0.strE
    refine rd_ixT (j := 0) rfl hT rfl (r_ifF (pb_is (pb_eqS rfl) rfl) (r_ifF (pb_is (pb_eqS rfl) rfl) (r_ifT (pb_is (pb_eqS rfl) rfl) ?_)))
    exact ⟨_, rfl, _, rfl, _, rfl, _, e, s, base, D, tn, rfl, ht, ok, q⟩
  | tri s hs =>
    obtain ⟨a, x0, x1, x2, rfl, hT, h0, h1, h2⟩ := id ht.tup3
    cases h0.strE
    refine rd_ixT (j := 0) rfl hT rfl (r_ifF (pb_is (pb_eqS rfl) rfl) (r_ifF (pb_is (pb_eqS rfl) rfl) (r_ifF (pb_is (pb_eqS rfl) rfl) (r_ifT (pb_is (pb_eqS rfl) rfl) ?_))))
    exact ⟨_, rfl, _, rfl, _, rfl, _, rfl, _, tv, s, hs, base, D, tn, rfl, ht, htn, ok, q⟩
  | cln s c =>
    obtain ⟨a, x0, x1, x2, rfl, hT, h0, h1, h2⟩ := id ht.tup3
    cases h0.strE
    refine rd_ixT (j := 0) rfl hT rfl (r_ifF (pb_is (pb_eqS rfl) rfl) (r_ifF (pb_is (pb_eqS rfl) rfl) (r_ifF (pb_is (pb_eqS rfl) rfl) (r_ifF (pb_is (pb_eqS rfl) rfl) (r_ifT (pb_is (pb_eqS rfl) rfl) ?_)))))
    exact ⟨_, rfl, _, rfl, _, rfl, _, rfl, _, tv, s, c, base, D, tn, rfl, ht, htn, ok, q⟩
  | row ps =>
    obtain ⟨a, x0, x1, rfl, hT, h0, h1⟩ := id ht.tup2
    cases h0.strE
    obtain ⟨pa, pxs, rfl, hTp, htp⟩ := h1.tupE
    obtain ⟨cs, nk, hand, ws⟩ := ok.wf
    have hd : ps.dep + 1 ≤ n + 1 := ok.dep
    have hl : ps.len ≤ 100000 := ok.len
    have b0 := ok.b0
    refine rd_ixT (j := 0) rfl hT rfl (r_ifT (pb_is (pb_eqS rfl) rfl) ⟨(by show 0 ≤ sizeLine; decide), fun p hp => ?_⟩)
    have s0 : Same H (L2.upd H p (.lst [])) := Same.new hp
    refine rd_ixT (j := 1) rfl (s0.sqT hT) rfl ⟨pa, rfl, ⟨_, s0.sqT hTp⟩, for_tup (K := K) (a := pa) (xs := pxs) (fun i σ H' => ∃ (r : Sms) (pre : List Rw) (rr : Addr) (rv : List V) (v6 : Option V),
        σ = [some (.ref a), some (.int base), some (.int D), some tv, some (.str "row"), some (.ref rr), v6] ∧ H rr = none ∧ Same H H' ∧ H' rr = some (.lst rv) ∧ TpAll K H' rv (pre.map Rw.d) ∧ TpAll K H' (pxs.drop i) r.ds ∧ r.Wf cs nk tn.isSome hand ∧ r.dep ≤ n ∧ pre.length + r.len = ps.len ∧ pre ++ r.code (base + pre.length) D (tnOf tn) = ps.code base D (tnOf tn))
      ⟨ps, [], p, [], none, rfl, hp, s0, upd_same, .nil, by rw [List.drop_zero]; exact htp.mono (Tk.same s0), ws, by omega, by simp, by simp⟩ (fun i σ H' _ ⟨_, _, _, _, _, _, _, s', _⟩ => s'.sqT hTp) ?_ ?_⟩
    · rintro i x σ H3 hx ⟨r, pre, rr, rv, v6, rfl, hnn, s3, hrr, trv, tr, wr, dr, lr, er⟩
      obtain ⟨s, r', rfl, tx, tr'⟩ := sms_at tr hx
      obtain ⟨w1, w2⟩ : s.Wf cs nk tn.isSome hand ∧ r'.Wf cs nk tn.isSome hand := wr
      have dr2 : max s.dep r'.dep ≤ n := dr
      have lr2 : pre.length + (s.len + r'.len) = ps.len := lr
      have lrv : rv.length = pre.length := by rw [trv.length, List.length_map]
      refine ⟨_, rfl, _, rfl, _, rfl, _, rfl, rr, rv, rfl, .inl (SqL.of hrr), _, _, rfl, rfl, _, rfl, _, rfl, ?_⟩
      rw [lrv]
      refine ⟨x, tv, s, base + pre.length, D, tn, rfl, tx, htn.mono (Tk.same s3), ⟨⟨cs, nk, hand, w1⟩, by omega, by omega, by omega, ok.tn0⟩, fun r1 us H4 hr1 hl1 t1 s4 => ?_⟩
      refine cat_new (K := K) (s4 _ _ hrr) hl1 (trv.mono (Tk.same s4)) t1 (by simp [Sm.code_len]; omega) fun r2 us2 H5 hr2 hl2 t2 s5 => ?_
      have sZ := s4.trans s5
      refine ⟨r', pre ++ s.code (base + pre.length) D (tnOf tn), r2, us2, _, rfl, (s3.trans s4).free hr2, s3.trans sZ, hl2, by rw [List.map_append]; exact t2, tr'.mono (Tk.same sZ), w2, by omega, by simp [Sm.code_len]; omega, ?_⟩
      rw [← er]
      have e9 : base + ((pre ++ s.code (base + pre.length) D (tnOf tn)).length : Int) = base + pre.length + s.len := by simp [Sm.code_len]; omega
      rw [e9]
      simp [Sms.code]
    · rintro σ H3 ⟨r, pre, rr, rv, v6, rfl, hnn, s3, hrr, trv, tr, wr, dr, lr, er⟩
      cases sms_end tr
      have er' : pre = ps.code base D (tnOf tn) := by simpa [Sms.code] using er
      refine ⟨_, rfl, q rr rv H3 hnn hrr (by rw [show (Sm.row ps).code base D (tnOf tn) = ps.code base D (tnOf tn) from rfl, ← er']; exact trv) s3⟩
/-! ### _law_table, _law_coded -/
/-- a new tuple of these; all stands -/
def NewT (K : PySem.W.Frag) (H : Hp) (Q : VK) (d : PyData) : Prop := ∀ (v : V) (H' : Hp), Tp K H' v d → Same H H' → Q v H'
def spTable : Sp := fun vs H Q _ => ∃ (v : V) (rows : List Rw), vs = [v] ∧ Tp K H v (.tuple (rows.map Rw.d)) ∧ rows.length ≤ 200000 ∧ NewT K H Q (.tuple ((tabAt 0 rows).map Tb.d))
theorem tab_take {rows : List Rw} {i : Nat} {r : Rw} (h : rows[i]? = some r) : tabAt 0 (rows.take (i + 1)) = tabAt 0 (rows.take i) ++ tbOf (i : Int) r := by
  have hi := (List.getElem?_eq_some_iff.mp h).1
  rw [List.take_succ, h]
  show tabAt 0 (rows.take i ++ [r]) = _
  rw [tabAt_app, List.length_take, Nat.min_eq_left (by omega)]
  simp [tabAt]
/-- what a row adds to a table, by its data -/
theorem row_word (r : Rw) : (∃ b x k D, r = .hand b x k D) ∨ (∃ b x D, r = .cup b x D) ∨ ((∀ p, tbOf p r = []) ∧ ∃ w ds, r.d = .tuple (.str w :: ds) ∧ V.str w ≠ .str "handler" ∧ V.str w ≠ .str "cleanup") := by
  cases r with
  | hand b x k D => exact .inl ⟨b, x, k, D, rfl⟩
  | cup b x D => exact .inr (.inl ⟨b, x, D, rfl⟩)
  | op o => exact .inr (.inr ⟨fun _ => rfl, o.s, _, rfl, by cases o <;> decide, by cases o <;> decide⟩)
  | _ => exact .inr (.inr ⟨fun _ => rfl, _, _, rfl, by decide, by decide⟩)
abbrev N_law_table : List Str := ["_law_rows", "_law_table_here", "_law_k", "_law_row"]
theorem rd_table (vs : List V) (H : Hp) (Q : VK) (E : XK) (h : spTable (K := K) vs H Q E) : t_law_table K { nx := fun _ H' => Q .non H', rt := Q } (start N_law_table vs) H := by
  obtain ⟨v, rows, rfl, ht, hz, q⟩ := h
  obtain ⟨a, xs, rfl, hT, hts⟩ := ht.tupE
  have lx : xs.length = rows.length := by rw [hts.length, List.length_map]
  refine ⟨(by show 0 ≤ sizeLine; decide), fun p hp => ?_⟩
  have s0 : Same H (L2.upd H p (.lst [])) := Same.new hp
  refine ⟨_, rfl, a, xs, rfl, .inr (s0.sqT hT), _, rfl, by omega, by omega, for_range (lo := 0) (n := ((xs.length : Int)).toNat) (fun i σ H' => ∃ (tv : List V) (v2 v3 : Option V), σ = [some (.ref a), some (.ref p), v2, v3] ∧ Same H H' ∧ H' p = some (.lst tv) ∧ TpAll K H' tv ((tabAt 0 (rows.take i)).map Tb.d))
    ⟨[], none, none, rfl, s0, upd_same, by simp [tabAt]; exact .nil⟩ ?_ ?_⟩
  · rintro i σ H1 hi ⟨tv, v2, v3, rfl, s1, hp1, tt⟩
    have hi2 : i < rows.length := by omega
    have er : rows[i]? = some rows[i] := List.getElem?_eq_getElem hi2
    have ed : (rows.map Rw.d)[i]? = some (rows[i]).d := by rw [List.getElem?_map, er]; rfl
    obtain ⟨x, hx, tx⟩ := hts.get' ed
    have tx1 := tx.mono (Tk.same s1)
    have e0 : (0 : Int) + (i : Int) = (i : Int) := by omega
    have etk := tab_take er
    have ltv : tv.length < 1000000 := by
      have h1 := tt.length
      rw [List.length_map] at h1
      have h2 := tabAt_len (rows.take i) 0
      rw [List.length_take] at h2
      omega
    rw [e0]
    have fin : ∀ (t : Tb) (ws : List V) (ds : List PyData), tbOf (i : Int) rows[i] = [t] → t.d = .tuple ds → ∀ (H2 : Hp), Same H1 H2 → TpAll K H2 ws ds → ∀ p2, H2 p2 = none → H2 p = some (.lst tv) → ∃ (tv' : List V) (v2 v3 : Option V), [some (V.ref a), some (.ref p), some (.int (i : Int)), some x] = [some (.ref a), some (.ref p), v2, v3] ∧ Same H (L2.upd (L2.upd H2 p2 (.tup ws)) p (.lst (tv ++ [.ref p2]))) ∧
        (L2.upd (L2.upd H2 p2 (.tup ws)) p (.lst (tv ++ [.ref p2]))) p = some (.lst tv') ∧ TpAll K (L2.upd (L2.upd H2 p2 (.tup ws)) p (.lst (tv ++ [.ref p2]))) tv' ((tabAt 0 (rows.take (i + 1))).map Tb.d) := by
      intro t ws ds et ed2 H2 s2 tw p2 hp2 hpp
      have s3 : Same H1 (L2.upd H2 p2 (.tup ws)) := s2.trans (Same.new hp2)
      refine ⟨tv ++ [.ref p2], _, _, rfl, fun b u e => by rw [upd_ne (ne_of_none e hp)]; exact s3 b u (s1 b u e), upd_same, ?_⟩
      rw [etk, et, List.map_append]
      have : Tp K (L2.upd H2 p2 (.tup ws)) (.ref p2) t.d := by rw [ed2]; exact Tp.mk hp2 tw
      exact ((tt.mono (Tk.same s3)).snoc this).mono (Tk.lst (by rw [upd_ne (ne_of_none hpp hp2)]; exact hpp))
    refine ⟨_, rfl, _, rfl, a, xs, _, x, rfl, rfl, s1.sqT hT, atI_nat hx, ?_⟩
    rcases row_word rows[i] with ⟨b, y, k, D, e⟩ | ⟨b, y, D, e⟩ | ⟨enil, w, ds, e, n1, n2⟩
    · rw [e] at tx1
      obtain ⟨ax, y0, y1, y2, y3, y4, rfl, hTx, k0, k1, k2, k3, k4⟩ := tx1.tup5
      cases k0.strE; cases k1.intE; cases k2.intE; cases k4.intE
      refine rd_ixT (j := 0) rfl hTx rfl ⟨rfl, _, rfl, ifT rfl ?_⟩
      refine ⟨_, rfl, .inl ⟨rfl, _, SqL.of hp1⟩, rd_ixT (j := 1) rfl hTx rfl (rd_ixT (j := 2) rfl hTx rfl (rd_ixT (j := 3) rfl hTx rfl ⟨_, rfl, rd_ixT (j := 4) rfl hTx rfl ⟨(by show 6 ≤ sizeLine; decide), fun p2 hp2 => ?_⟩⟩))⟩
      have pp : L2.upd H1 p2 (.tup [.int b, .int y, .str "handler", y3, .int (i : Int), .int D]) p = some (.lst tv) := by rw [upd_ne (ne_of_none hp1 hp2)]; exact hp1
      refine ⟨p, tv, _, rfl, rfl, pp, sz_lt1 ltv, ?_⟩
      obtain ⟨tv', w2, w3, z1, z2, z3, z4⟩ := fin ⟨b, y, some k, i, D⟩ [.int b, .int y, .str "handler", y3, .int (i : Int), .int D] _ (by rw [e]; rfl) rfl H1 (Same.refl _) (.cons (.int _) (.cons (.int _) (.cons (.str _) (.cons k3 (.cons (.int _) (.cons (.int _) .nil)))))) p2 hp2 hp1
      -- the second look: not a cleanup
      refine rd_ixT (j := 0) rfl (Tk.sqT (Tk.trans (Tk.new hp2) (Tk.lst pp)) hTx) rfl ⟨rfl, _, rfl, ifF rfl ?_⟩
      exact ⟨tv', w2, w3, z1, z2, z3, z4⟩
    · rw [e] at tx1
      obtain ⟨ax, y0, y1, y2, y3, rfl, hTx, k0, k1, k2, k3⟩ := tx1.tup4
      cases k0.strE; cases k1.intE; cases k2.intE; cases k3.intE
      refine rd_ixT (j := 0) rfl hTx rfl ⟨rfl, _, rfl, ifF rfl ?_⟩
      refine rd_ixT (j := 0) rfl hTx rfl ⟨rfl, _, rfl, ifT rfl ?_⟩
      refine ⟨_, rfl, .inl ⟨rfl, _, SqL.of hp1⟩, rd_ixT (j := 1) rfl hTx rfl (rd_ixT (j := 2) rfl hTx rfl ⟨_, rfl, rd_ixT (j := 3) rfl hTx rfl ⟨(by show 6 ≤ sizeLine; decide), fun p2 hp2 => ?_⟩⟩)⟩
      have pp : L2.upd H1 p2 (.tup [.int b, .int y, .str "cleanup", .non, .int (i : Int), .int D]) p = some (.lst tv) := by rw [upd_ne (ne_of_none hp1 hp2)]; exact hp1
      refine ⟨p, tv, _, rfl, rfl, pp, sz_lt1 ltv, ?_⟩
      exact fin ⟨b, y, none, i, D⟩ [.int b, .int y, .str "cleanup", .non, .int (i : Int), .int D] _ (by rw [e]; rfl) rfl H1 (Same.refl _) (.cons (.int _) (.cons (.int _) (.cons (.str _) (.cons .non (.cons (.int _) (.cons (.int _) .nil)))))) p2 hp2 hp1
    · rw [e] at tx1
      obtain ⟨ax, ys, rfl, hTx, tys⟩ := tx1.tupE
      obtain ⟨y0, yr, rfl, k0, _⟩ := tys.consE
      cases k0.strE
      refine rd_ixT (j := 0) rfl hTx rfl ⟨rfl, _, rfl, ifF (dF n1) ?_⟩
      refine rd_ixT (j := 0) rfl hTx rfl ⟨rfl, _, rfl, ifF (dF n2) ?_⟩
      exact ⟨tv, _, _, rfl, s1, hp1, by rw [etk, enil, List.append_nil]; exact tt⟩
  · rintro σ H1 ⟨tv, v2, v3, rfl, s1, hp1, tt⟩
    rw [List.take_of_length_le (by omega)] at tt
    refine ⟨_, rfl, p, tv, rfl, .inl ⟨SqL.of hp1, fun p2 hp2 => ?_⟩⟩
    exact q (.ref p2) _ (Tp.mk hp2 tt) (s1.trans (Same.new hp2))
/-- a program that may be coded -/
structure PgC (p : Pg) (n : Nat) : Prop where
  body : ∀ f ∈ p.funs, CodeOk f.2 n none 0
  few : p.funs.length ≤ 1000
def spCodedL (n : Nat) : Sp := fun vs H Q _ => ∃ (v : V) (p : Pg), vs = [v] ∧ Tp K H v p.d ∧ PgC p n ∧ NewT K H Q (codeD p.code)
abbrev N_law_coded : List Str := ["_law_program_here", "_law_code_here", "_law_function", "_law_rows"]
theorem rd_law_coded {n : Nat} (vs : List V) (H : Hp) (Q : VK) (E : XK) (h : spCodedL (K := K) n vs H Q E) : t_law_coded K (spCode (K := K) n) (spTable (K := K)) { nx := fun _ H' => Q .non H', rt := Q } (start N_law_coded vs) H := by
  obtain ⟨v, p, rfl, ht, ok, q⟩ := h
  obtain ⟨a, x0, x1, rfl, hT, h0, h1⟩ := ht.tup2
  obtain ⟨fa, fxs, rfl, hTf, htf⟩ := h1.tupE
  have lx : fxs.length = p.funs.length := by rw [htf.length, List.length_map]
  refine ⟨(by show 0 ≤ sizeLine; decide), fun c hc => ?_⟩
  have s0 : Same H (L2.upd H c (.lst [])) := Same.new hc
  refine rd_ixT (j := 1) rfl (s0.sqT hT) rfl ⟨fa, rfl, ⟨_, s0.sqT hTf⟩, for_tup (K := K) (a := fa) (xs := fxs) (fun i σ H' => ∃ (cv : List V) (v2 v3 : Option V), σ = [some (.ref a), some (.ref c), v2, v3] ∧ Same H H' ∧ H' c = some (.lst cv) ∧ TpAll K H' cv ((p.code.take i).map Fc.d))
    ⟨[], none, none, rfl, s0, upd_same, .nil⟩ (fun i σ H' _ ⟨_, _, _, _, s', _⟩ => s'.sqT hTf) ?_ ?_⟩
  · rintro i x σ H1 hx ⟨cv, v2, v3, rfl, s1, hc1, tc⟩
    obtain ⟨d, hd, td⟩ := htf.get hx
    rw [List.getElem?_map] at hd
    cases ef : p.funs[i]? with
    | none => rw [ef] at hd; cases hd
    | some f =>
      rw [ef] at hd
      obtain rfl : funD f = d := Option.some.inj hd
      obtain ⟨ax, y0, y1, rfl, hTx, k0, k1⟩ := td.tup2
      cases k0.intE
      have okf := ok.body f (List.mem_of_getElem? ef)
      have hlen : f.2.len ≤ 100000 := okf.len
      have ilt : i < 1000 := by
        have := (List.getElem?_eq_some_iff.mp ef).1
        have := ok.few
        omega
      refine rd_ixT (j := 1) rfl (s1.sqT hTx) rfl ⟨y1, .non, f.2, 0, 0, none, rfl, k1.mono (Tk.same s1), .non, okf, fun r us H2 hr hl2 t2 s2 => ⟨(by show 2 ≤ sizeLine; decide), fun p1 hp1 => ⟨(by show 1 ≤ sizeLine; decide), fun p2 hp2 => ⟨(by show 2 ≤ sizeLine; decide), fun p3 hp3 => ?_⟩⟩⟩⟩
      have s3 : Same H2 (L2.upd (L2.upd (L2.upd H2 p1 (.tup [.str "num", .int 0])) p2 (.tup [.str "return"])) p3 (.lst [.ref p1, .ref p2])) := ((Same.new hp1).trans (Same.new hp2)).trans (Same.new hp3)
      refine cat_new (K := K) (es := [(Rw.num 0).d, Rw.ret.d]) (s3 _ _ hl2) upd_same (t2.mono (Tk.same s3)) (.cons (((Tp.mk hp1 (.cons (.str _) (.cons (.int _) .nil))).mono (Tk.new hp2)).mono (Tk.new hp3)) (.cons ((Tp.mk hp2 (.cons (.str _) .nil)).mono (Tk.new hp3)) .nil)) (by simp [Sm.code_len]; omega) fun r4 ws4 H4 hr4 hl4 t4 s4 => ?_
      have s14 := (s2.trans s3).trans s4
      refine ⟨r4, ws4, rfl, .inl ⟨SqL.of hl4, fun p5 hp5 => ?_⟩⟩
      have s5 : Same H1 (L2.upd H4 p5 (.tup ws4)) := s14.trans (Same.new hp5)
      have tR : Tp K (L2.upd H4 p5 (.tup ws4)) (.ref p5) (.tuple ((bodyRows f.2).map Rw.d)) := by
        rw [show (bodyRows f.2).map Rw.d = (f.2.code 0 0 (tnOf none)).map Rw.d ++ [(Rw.num 0).d, Rw.ret.d] by simp [bodyRows, tnOf]]
        exact Tp.mk hp5 t4
      refine ⟨_, rfl, .inl ⟨rfl, _, SqL.of (s5 _ _ hc1)⟩, rd_ixT (j := 0) rfl ((s1.trans s5).sqT hTx) rfl ⟨_, rfl, _, rfl, .ref p5, bodyRows f.2, rfl, tR, by simp [bodyRows, Sm.code_len]; omega, fun w H6 t6 s6 => ⟨(by show 3 ≤ sizeLine; decide), fun p7 hp7 => ?_⟩⟩⟩
      have hc6 := s6 _ _ (s5 _ _ hc1)
      have hc7 : L2.upd H6 p7 (.tup [.int (f.1 : Int), .ref p5, w]) c = some (.lst cv) := by rw [upd_ne (ne_of_none hc6 hp7)]; exact hc6
      have lcv : cv.length < 1000000 := by
        have := tc.length
        rw [List.length_map, List.length_take] at this
        omega
      have sZ : Same H1 (L2.upd H6 p7 (.tup [.int (f.1 : Int), .ref p5, w])) := (s5.trans s6).trans (Same.new hp7)
      refine ⟨c, cv, _, rfl, rfl, hc7, sz_lt1 lcv, cv ++ [.ref p7], _, _, rfl, fun b u e => by rw [upd_ne (ne_of_none e hc)]; exact sZ b u (s1 b u e), upd_same, ?_⟩
      have ec : p.code[i]? = some ⟨f.1, bodyRows f.2⟩ := by unfold Pg.code; rw [List.getElem?_map, ef]; rfl
      rw [List.take_succ, ec, List.map_append]
      exact ((tc.mono (Tk.same sZ)).snoc (Tp.mk hp7 (.cons (.int _) (.cons (tR.mono (Tk.same s6)) (.cons t6 .nil))))).mono (Tk.lst hc7)
  · rintro σ H1 ⟨cv, v2, v3, rfl, s1, hc1, tc⟩
    rw [List.take_of_length_le (by unfold Pg.code; rw [List.length_map]; omega)] at tc
    refine ⟨_, rfl, c, cv, rfl, .inl ⟨SqL.of hc1, fun p2 hp2 => ?_⟩⟩
    exact q (.ref p2) _ (Tp.mk hp2 tc) (s1.trans (Same.new hp2))
end
end Lp

/-! L4b: the program's coding: Coder, table_of, coded. -/
namespace Lp
open PySem PySem.Spec PyProof.Rows L2
def t_Coder_init (K : PySem.W.Frag) : TS :=
  tSeq (sFld K (tVar 0) (tLst (tNil)) "made") (sFld K (tVar 0) (tLst (tNil)) "turns")

def t_Coder_put (K : PySem.W.Frag) : TS :=
  tSeq (tDrop (tBM K "list" rAppend (tFld K (tVar 0) "made") (tCons (tVar 1) (tNil)))) (tRet (tOp rSbI (tCB (rLenQ K) (tCons (tFld K (tVar 0) "made") (tNil))) (tC (.int 1))))

def t_Coder_part (K : PySem.W.Frag) (C_Coder : Addr) (sp_Coder_put : Sp) (sp_Coder_part : Sp) : TS :=
  tIfS (tTest (tOp (rIn K false) (tOp (rIxT K) (tVar 1) (tC (.int 0))) (tTup (tCons (tC (.str "num")) (tCons (tC (.str "var")) (tNil)))))) (tDrop (tMeth C_Coder "put" sp_Coder_put [] E0 (tVar 0) (tCons (tVar 1) (tNil)))) (tSeq (tDrop (tMeth C_Coder "part" sp_Coder_part [] E0 (tVar 0) (tCons (tOp (rIxT K) (tVar 1) (tC (.int 1))) (tNil)))) (tSeq (tDrop (tMeth C_Coder "part" sp_Coder_part [] E0 (tVar 0) (tCons (tOp (rIxT K) (tVar 1) (tC (.int 2))) (tNil)))) (tDrop (tMeth C_Coder "put" sp_Coder_put [] E0 (tVar 0) (tCons (tTup (tCons (tOp (rIxT K) (tVar 1) (tC (.int 0))) (tNil))) (tNil))))))

/-- what the top has of the class -/
structure CoTxt (K : PySem.W.Frag) (C : Addr) : Prop where
  cl : Cls K C
  made : NoAttr K C "made"
  turns : NoAttr K C "turns"
def cfs (m t : Addr) : List (Str × V) := [("made", .ref m), ("turns", .ref t)]
theorem cfs_made {m t : Addr} : (cfs m t).lookup ("made" : Str) = some (.ref m) := rfl
theorem cfs_turns {m t : Addr} : (cfs m t).lookup ("turns" : Str) = some (.ref t) := rfl
/-- the innermost while under way: its list, its breaks' list, top, depth, the breaks so far -/
structure Wh where
  u : Addr
  pl : Addr
  top : Int
  D : Int
  ps : List Int
def addW (l : List Int) (w : Option Wh) : Option Wh := w.map fun w => { w with ps := w.ps ++ l }
def tnW : Option Wh → Tn
  | none => (0, 0, 0)
  | some w => (w.top, 0, w.D)
theorem tnW_add {l : List Int} {w : Option Wh} : tnW (addW l w) = tnW w := by cases w <;> rfl
theorem addW_nil {w : Option Wh} : addW [] w = w := by cases w <;> simp [addW]
theorem addW_app {l l' : List Int} {w : Option Wh} : addW l' (addW l w) = addW (l ++ l') w := by cases w <;> simp [addW]
theorem addW_some {l : List Int} {w : Option Wh} : (addW l w).isSome = w.isSome := by cases w <;> rfl
/-- what may be changed -/
def BW (m t : Addr) (w : Option Wh) : Addr → Prop := fun a => a = m ∨ a = t ∨ ∃ x, w = some x ∧ a = x.pl
theorem BW_add {m t : Addr} {l : List Int} {w : Option Wh} : BW m t (addW l w) = BW m t w := by
  cases w with
  | none => rfl
  | some w =>
    funext a
    simp [BW, addW]
structure TurnAt (H : Hp) (m t : Addr) (ts : List V) (w : Option Wh) : Prop where
  turns : H t = some (.lst ts)
  tm : t ≠ m
  wh : ∀ x, w = some x → (∃ r, ts = r ++ [.ref x.u]) ∧ H x.u = some (.lst [.int x.top, .int x.D, .ref x.pl]) ∧ H x.pl = some (.lst (x.ps.map V.int)) ∧ x.u ≠ m ∧ x.u ≠ t ∧ x.pl ≠ m ∧ x.pl ≠ t ∧ x.pl ≠ x.u
structure CoSt (K : PySem.W.Frag) (C dx : Addr) (H : Hp) (c m t : Addr) (ts : List V) (w : Option Wh) (R : List Rw) : Prop where
  ins : H c = some (.ins C dx (cfs m t))
  made : ∃ us, H m = some (.lst us) ∧ TpAll K H us (R.map Rw.d)
  trn : TurnAt H m t ts w
  psl : ∀ x, w = some x → x.ps.length ≤ R.length
section
variable {K : PySem.W.Frag} {C dx : Addr} {H H' H1 H2 : Hp} {c m t : Addr} {ts : List V} {w : Option Wh} {R : List Rw}
theorem CoSt.noTup (s : CoSt K C dx H c m t ts w R) : NoTup (BW m t w) H := by
  rintro a (rfl | rfl | ⟨x, rfl, rfl⟩)
  · obtain ⟨us, h, _⟩ := s.made
    exact ⟨_, h, (fun _ z => by cases z), (fun _ _ z => by cases z)⟩
  · exact ⟨_, s.trn.turns, (fun _ z => by cases z), (fun _ _ z => by cases z)⟩
  · exact ⟨_, (s.trn.wh x rfl).2.2.1, (fun _ z => by cases z), (fun _ _ z => by cases z)⟩
theorem CoSt.tk (s : CoSt K C dx H c m t ts w R) (k : Kp (BW m t w) H H') : Tk H H' := k.tk s.noTup
theorem CoSt.tk1 (s : CoSt K C dx H c m t ts w R) (k : Kp (fun x => x = m) H H') : Tk H H' := by
  obtain ⟨us, h, _⟩ := s.made
  exact k.tk1 h
theorem CoSt.cm (s : CoSt K C dx H c m t ts w R) : c ≠ m := by
  obtain ⟨us, h2, _⟩ := s.made
  exact ne_of s.ins h2 (by intro z; cases z)
theorem CoSt.ct (s : CoSt K C dx H c m t ts w R) : c ≠ t := ne_of s.ins s.trn.turns (by intro z; cases z)
theorem CoSt.lst {R' : List Rw} (s : CoSt K C dx H c m t ts w R) (e : R = R') : CoSt K C dx H c m t ts w R' := e ▸ s
theorem CoSt.move {B : Addr → Prop} {R' : List Rw} {us' : List V} (s : CoSt K C dx H c m t ts w R) (k : Kp B H H') (nc : ¬ B c) (nw : ∀ x, w = some x → ¬ B x.u ∧ ¬ B x.pl) (hm : H' m = some (.lst us')) (ht : H' t = some (.lst ts)) (tp : TpAll K H' us' (R'.map Rw.d)) (hl : R.length ≤ R'.length) : CoSt K C dx H' c m t ts w R' := by
  refine ⟨k _ _ s.ins nc, ⟨us', hm, tp⟩, ⟨ht, s.trn.tm, fun x hx => ?_⟩, fun x hx => Nat.le_trans (s.psl x hx) hl⟩
  obtain ⟨h1, h2, h3, h4⟩ := s.trn.wh x hx
  exact ⟨h1, k _ _ h2 (nw x hx).1, k _ _ h3 (nw x hx).2, h4⟩
/-- m and t alone have changed, and t is as it was -/
theorem CoSt.back {R' : List Rw} {us' : List V} (s : CoSt K C dx H c m t ts w R) (k : Kp (fun a => a = m ∨ a = t) H H') (hm : H' m = some (.lst us')) (ht : H' t = some (.lst ts)) (tp : TpAll K H' us' (R'.map Rw.d)) (hl : R.length ≤ R'.length) : CoSt K C dx H' c m t ts w R' :=
  s.move k (fun z => z.elim s.cm s.ct) (fun x hx => by
    obtain ⟨_, _, _, h4, h5, h6, h7, _⟩ := s.trn.wh x hx
    exact ⟨fun z => z.elim h4 h5, fun z => z.elim h6 h7⟩) hm ht tp hl
/-- m alone has changed -/
theorem CoSt.setM {R' : List Rw} {us' : List V} (s : CoSt K C dx H c m t ts w R) (k : Kp (fun x => x = m) H H') (hm : H' m = some (.lst us')) (tp : TpAll K H' us' (R'.map Rw.d)) (hl : R.length ≤ R'.length) : CoSt K C dx H' c m t ts w R' :=
  s.back (k.mono fun _ => .inl) hm (k _ _ s.trn.turns s.trn.tm) tp hl
/-- nothing of it has changed -/
theorem CoSt.same (s : CoSt K C dx H c m t ts w R) (k : Same H H') : CoSt K C dx H' c m t ts w R := by
  obtain ⟨us, h, ht⟩ := s.made
  exact s.setM (Kp.same k) (k _ _ h) (ht.mono (Tk.same k)) (Nat.le_refl _)
/-- p is none of its objects -/
structure Apart (p c m t : Addr) (w : Option Wh) : Prop where
  nc : c ≠ p
  nm : m ≠ p
  nt : t ≠ p
  nw : ∀ x, w = some x → x.u ≠ p ∧ x.pl ≠ p
theorem CoSt.apart (s : CoSt K C dx H c m t ts w R) {p : Addr} (hp : H p = none) : Apart p c m t w := by
  obtain ⟨us, h, _⟩ := s.made
  refine ⟨ne_of_none s.ins hp, ne_of_none h hp, ne_of_none s.trn.turns hp, fun x hx => ?_⟩
  obtain ⟨_, h2, h3, _⟩ := s.trn.wh x hx
  exact ⟨ne_of_none h2 hp, ne_of_none h3 hp⟩
theorem Apart.add {p : Addr} {l : List Int} (a : Apart p c m t w) : Apart p c m t (addW l w) := by
  refine ⟨a.nc, a.nm, a.nt, fun x hx => ?_⟩
  cases w with
  | none => cases hx
  | some y => cases hx; exact a.nw y rfl
theorem CoSt.other {p : Addr} {l : List V} {o : HO} (s : CoSt K C dx H c m t ts w R) (hp : H p = some (.lst l)) (a : Apart p c m t w) : CoSt K C dx (L2.upd H p o) c m t ts w R := by
  obtain ⟨us, h, ht⟩ := s.made
  refine s.move (B := fun x => x = p) (Kp.upd rfl) a.nc a.nw (by rw [upd_ne a.nm]; exact h) (by rw [upd_ne a.nt]; exact s.trn.turns) (ht.mono (Tk.lst hp)) (Nat.le_refl _)
theorem BWm {a : Addr} (h : a = m) : BW m t w a := .inl h
theorem KpW (k : Kp (fun x => x = m) H H') : Kp (BW m t w) H H' := k.mono fun _ => BWm
theorem Kp.narrow {B : Addr → Prop} {p : Addr} (k1 : Kp B H H1) (hp : H1 p = none) (k2 : Kp (fun a => B a ∨ a = p) H1 H2) : Kp B H H2 := fun a o e n => k2 a o (k1 a o e n) fun z => z.elim n (ne_of_none (k1 a o e n) hp)
end
theorem TpAll.set {K : PySem.W.Frag} {H : Hp} : ∀ {vs : List V} {ds : List PyData} {j : Nat} {v : V} {d : PyData}, TpAll K H vs ds → Tp K H v d → TpAll K H (vs.set j v) (ds.set j d)
  | _, _, _, _, _, .nil, _ => .nil
  | _, _, 0, _, _, .cons _ h, h' => .cons h' h
  | _, _, j + 1, _, _, .cons h0 h, h' => .cons h0 (TpAll.set h h')
/-! ### the breaks' places; the handlers' goes -/
mutual
theorem Sm.bks_in : ∀ (s : Sm) (b : Int), ∀ p ∈ s.bks b, b ≤ p ∧ p < b + s.len
  | .row ps, b, p, h => Sms.bks_in ps b p h
  | .ife e s t, b, p, h => by
    show b ≤ p ∧ p < b + ((e.len + 1 + s.len + 1 + t.len : Nat) : Int)
    rcases List.mem_append.mp h with h | h
    · have := Sm.bks_in s _ p h; omega
    · have := Sm.bks_in t _ p h; omega
  | .brk, b, p, h => by
    have : p = b := by simpa [Sm.bks] using h
    show b ≤ p ∧ p < b + ((1 : Nat) : Int)
    omega
  | .tri s hs, b, p, h => by
    show b ≤ p ∧ p < b + ((s.len + 1 + hs.len : Nat) : Int)
    rcases List.mem_append.mp h with h | h
    · have := Sm.bks_in s _ p h; omega
    · have := Hds.bks_in hs _ p h; omega
  | .cln s c, b, p, h => by
    show b ≤ p ∧ p < b + ((s.len + 2 + c.len + 1 : Nat) : Int)
    rcases List.mem_append.mp h with h | h
    · have := Sm.bks_in s _ p h; omega
    · have := Sm.bks_in c _ p h; omega
  | .say _, _, _, h => nomatch h
  | .set _ _, _, _, h => nomatch h
  | .whl _ _, _, _, h => nomatch h
  | .cnt, _, _, h => nomatch h
  | .ret _, _, _, h => nomatch h
  | .call _ _ _ _, _, _, h => nomatch h
  | .rais _ _ _, _, _, h => nomatch h
  | .again, _, _, h => nomatch h
theorem Sms.bks_in : ∀ (s : Sms) (b : Int), ∀ p ∈ s.bks b, b ≤ p ∧ p < b + s.len
  | .nil, _, _, h => nomatch h
  | .cons s r, b, p, h => by
    show b ≤ p ∧ p < b + ((s.len + r.len : Nat) : Int)
    rcases List.mem_append.mp h with h | h
    · have := Sm.bks_in s _ p h; omega
    · have := Sms.bks_in r _ p h; omega
theorem Hds.bks_in : ∀ (s : Hds) (b : Int), ∀ p ∈ s.bks b, b ≤ p ∧ p < b + s.len
  | .nil, _, _, h => nomatch h
  | .cons k x t r, b, p, h => by
    show b ≤ p ∧ p < b + ((2 + t.len + 2 + r.len : Nat) : Int)
    rcases List.mem_append.mp h with h | h
    · have := Sm.bks_in t _ p h; omega
    · have := Hds.bks_in r _ p h; omega
end
mutual
theorem Sm.bks_len : ∀ (s : Sm) (b : Int), (s.bks b).length ≤ s.len
  | .row ps, b => Sms.bks_len ps b
  | .ife e s t, b => by
    have := Sm.bks_len s (b + e.len + 1); have := Sm.bks_len t (b + e.len + 1 + s.len + 1)
    simp only [Sm.bks, Sm.len, List.length_append]; omega
  | .brk, b => Nat.le_refl _
  | .tri s hs, b => by
    have := Sm.bks_len s b; have := Hds.bks_len hs (b + s.len + 1)
    simp only [Sm.bks, Sm.len, List.length_append]; omega
  | .cln s c, b => by
    have := Sm.bks_len s b; have := Sm.bks_len c (b + s.len + 2)
    simp only [Sm.bks, Sm.len, List.length_append]; omega
  | .say _, _ => Nat.zero_le _
  | .set _ _, _ => Nat.zero_le _
  | .whl _ _, _ => Nat.zero_le _
  | .cnt, _ => Nat.zero_le _
  | .ret _, _ => Nat.zero_le _
  | .call _ _ _ _, _ => Nat.zero_le _
  | .rais _ _ _, _ => Nat.zero_le _
  | .again, _ => Nat.zero_le _
theorem Sms.bks_len : ∀ (s : Sms) (b : Int), (s.bks b).length ≤ s.len
  | .nil, _ => Nat.zero_le _
  | .cons s r, b => by
    have := Sm.bks_len s b; have := Sms.bks_len r (b + s.len)
    simp only [Sms.bks, Sms.len, List.length_append]; omega
theorem Hds.bks_len : ∀ (s : Hds) (b : Int), (s.bks b).length ≤ s.len
  | .nil, _ => Nat.zero_le _
  | .cons k x t r, b => by
    have := Sm.bks_len t (b + 2); have := Hds.bks_len r (b + 2 + t.len + 2)
    simp only [Hds.bks, Hds.len, List.length_append]; omega
end
def Hds.gos (at_ : Int) : Hds → List Int
  | .nil => []
  | .cons _ _ t r => (at_ + 2 + t.len + 1) :: r.gos (at_ + 2 + t.len + 2)
theorem Hds.gos_in : ∀ (s : Hds) (b : Int), ∀ p ∈ s.gos b, b ≤ p ∧ p < b + s.len
  | .nil, _, _, h => nomatch h
  | .cons k x t r, b, p, h => by
    show b ≤ p ∧ p < b + ((2 + t.len + 2 + r.len : Nat) : Int)
    rcases List.mem_cons.mp h with h | h
    · omega
    · have := Hds.gos_in r _ p h; omega
theorem Hds.gos_len : ∀ (s : Hds) (b : Int), (s.gos b).length ≤ s.len
  | .nil, _ => Nat.zero_le _
  | .cons k x t r, b => by
    have := Hds.gos_len r (b + 2 + t.len + 2)
    simp only [Hds.gos, Hds.len, List.length_cons]; omega
theorem set_mid {α : Type} {A B : List α} {x y : α} {n : Nat} (h : A.length = n) : (A ++ x :: B).set n y = A ++ y :: B := by
  subst h; simp
theorem Hds.fillG {b x z D : Int} {tn : Tn} : ∀ (hs : Hds) (at_ : Int) (pre post : List Rw), (pre.length : Int) = at_ →
    fillAt (.go z) (hs.gos at_) (pre ++ hs.code b x 0 at_ D tn ++ post) = pre ++ hs.code b x z at_ D tn ++ post
  | .nil, _, _, _, _ => rfl
  | .cons k sl t r, at_, pre, post, h => by
    have h1 : (pre ++ (Hds.cons k sl t r).code b x 0 at_ D tn ++ post).set (at_ + 2 + t.len + 1).toNat (.go z) = (pre ++ ([.hand b x k D, .set sl] ++ t.code (at_ + 2) (D + 1) tn ++ [.settled, .go z])) ++ r.code b x 0 (at_ + 2 + t.len + 2) D tn ++ post := by
      have e : pre ++ (Hds.cons k sl t r).code b x 0 at_ D tn ++ post = (pre ++ ([.hand b x k D, .set sl] ++ t.code (at_ + 2) (D + 1) tn ++ [.settled])) ++ .go 0 :: (r.code b x 0 (at_ + 2 + t.len + 2) D tn ++ post) := by simp [Hds.code]
      rw [e, set_mid (by simp [Sm.code_len]; omega)]
      simp
    have h2 := Hds.fillG r (b := b) (x := x) (z := z) (D := D) (tn := tn) (at_ + 2 + t.len + 2) (pre ++ ([.hand b x k D, .set sl] ++ t.code (at_ + 2) (D + 1) tn ++ [.settled, .go z])) post (by simp [Sm.code_len]; omega)
    show fillAt (.go z) (r.gos _) ((pre ++ (Hds.cons k sl t r).code b x 0 at_ D tn ++ post).set (at_ + 2 + t.len + 1).toNat (.go z)) = _
    rw [h1, h2]
    simp [Hds.code]
theorem fillAt_length (row : Rw) : ∀ (ps : List Int) (l : List Rw), (fillAt row ps l).length = l.length
  | [], _ => rfl
  | p :: ps, l => by
    show (fillAt row ps (l.set p.toNat row)).length = _
    rw [fillAt_length row ps, List.length_set]
theorem fillAt_take (row : Rw) {ps : List Int} {i : Nat} {p : Int} (h : ps[i]? = some p) (l : List Rw) : fillAt row (ps.take (i + 1)) l = (fillAt row (ps.take i) l).set p.toNat row := by
  rw [List.take_succ, h, fillAt_app]; rfl
/-! ### put, part -/
def spCoInit (C : Addr) : Sp := fun vs H Q _ => ∃ (c dx : Addr), vs = [.ref c] ∧ H c = some (.ins C dx []) ∧ ∀ (m t : Addr) (H' : Hp), H m = none → H t = none → t ≠ m → H' c = some (.ins C dx (cfs m t)) → H' m = some (.lst []) → H' t = some (.lst []) → Kp (fun x => x = c) H H' → Q .non H'
structure PutP (C : Addr) (vs : List V) (H : Hp) (Q : VK) : Prop where
  ex : ∃ (c m t dx : Addr) (x : V) (us : List V), vs = [.ref c, x] ∧ H c = some (.ins C dx (cfs m t)) ∧ H m = some (.lst us) ∧ us.length ≤ 500000 ∧ Q (.int (us.length : Int)) (upd H m (.lst (us ++ [x])))
def spPut (C : Addr) : Sp := fun vs H Q _ => PutP C vs H Q
structure PartP (K : PySem.W.Frag) (C : Addr) (n : Nat) (vs : List V) (H : Hp) (Q : VK) : Prop where
  ex : ∃ (c m t dx : Addr) (v : V) (e : Ex) (us : List V) (R : List Rw), vs = [.ref c, v] ∧ H c = some (.ins C dx (cfs m t)) ∧ Tp K H v e.d ∧ e.dep ≤ n ∧ H m = some (.lst us) ∧ TpAll K H us (R.map Rw.d) ∧ R.length + e.len ≤ 500000 ∧
  ∀ (us' : List V) (H' : Hp), H' m = some (.lst us') → TpAll K H' us' ((R ++ e.code).map Rw.d) → Kp (fun x => x = m) H H' → Q .non H'
def spPartC (K : PySem.W.Frag) (C : Addr) (n : Nat) : Sp := fun vs H Q _ => PartP K C n vs H Q
theorem spPartC_zero {K : PySem.W.Frag} {C : Addr} (vs : List V) (H : Hp) (Q : VK) (E : XK) : ¬ spPartC K C 0 vs H Q E := by
  rintro ⟨⟨c, m, t, dx, v, e, us, R, _, _, _, h, _⟩⟩
  cases e <;> simp [Ex.dep] at h
section
variable {K : PySem.W.Frag} {C : Addr}
/-- self.f of a Coder in a slot -/
theorem rFld {σ : L2.St} {H : Hp} {i : Nat} {c m t dx : Addr} {Q : VK} {f : Str} {v : V} (hs : σ[i]? = some (some (.ref c))) (hc : H c = some (.ins C dx (cfs m t))) (cl : Cls K C) (n : NoAttr K C f) (l : (cfs m t).lookup f = some v) (q : Q v H) : tFld K (tVar i) f σ H Q :=
  ⟨_, hs, c, C, dx, _, v, rfl, hc, cl, n, l, q⟩
/-- self.m(..) of a Coder in a slot -/
theorem rMeth {σ : L2.St} {H : Hp} {i : Nat} {c m t dx : Addr} {Q : VK} {f : Str} {sp : Sp} {ta : TA} (hs : σ[i]? = some (some (.ref c))) (hc : H c = some (.ins C dx (cfs m t))) (l : (cfs m t).lookup f = none) (q : ta σ H fun vs H2 => sp (.ref c :: (vs ++ [])) H2 Q E0) : tMeth C f sp [] E0 (tVar i) ta σ H Q :=
  ⟨_, hs, c, dx, _, rfl, hc, l, q⟩
theorem rd_co_init (T : CoTxt K C) (vs : List V) (H : Hp) (Q : VK) (E : XK) (h : spCoInit C vs H Q E) : t_Coder_init K { nx := fun _ H' => Q .non H', rt := Q } (start ["self"] vs) H := by
  obtain ⟨c, dx, rfl, hc, q⟩ := h
  refine ⟨(by show 0 ≤ sizeLine; decide), fun m hm => ⟨_, rfl, c, C, dx, [], rfl, by rw [upd_ne (ne_of_none hc hm)]; exact hc, T.cl, T.made, (by show 0 < 1000; decide), (by show 0 ≤ sizeLine; decide), fun t ht => ?_⟩⟩
  have cm : c ≠ m := ne_of_none hc hm
  have c1 : (L2.upd (L2.upd H m (.lst [])) c (.ins C dx (putF "made" (.ref m) []))) c = some (.ins C dx (putF "made" (.ref m) [])) := upd_same
  have ct : c ≠ t := ne_of_none c1 ht
  have m1 : (L2.upd (L2.upd H m (.lst [])) c (.ins C dx (putF "made" (.ref m) []))) m = some (.lst []) := by rw [upd_ne cm.symm, upd_same]
  have mt : m ≠ t := ne_of_none m1 ht
  have htH : H t = none := by
    have z := ht
    rw [upd_ne ct.symm, upd_ne mt.symm] at z
    exact z
  refine ⟨_, rfl, c, C, dx, _, rfl, by rw [upd_ne ct]; exact c1, T.cl, T.turns, (by show 1 < 1000; decide), ?_⟩
  refine q m t _ hm htH mt.symm (by rw [upd_same]; rfl) (by rw [upd_ne cm.symm, upd_ne mt]; exact m1) (by rw [upd_ne ct.symm, upd_same]) ?_
  intro a o e n
  have am : a ≠ m := ne_of_none e hm
  have at_ : a ≠ t := ne_of_none e htH
  rw [upd_ne n, upd_ne at_, upd_ne n, upd_ne am]
  exact e
theorem rd_put (T : CoTxt K C) (vs : List V) (H : Hp) (Q : VK) (E : XK) (h : spPut C vs H Q E) : t_Coder_put K { nx := fun _ H' => Q .non H', rt := Q } (start ["self", "row"] vs) H := by
  obtain ⟨c, m, t, dx, x, us, rfl, hc, hm, hz, q⟩ := h.ex
  refine ⟨_, rfl, c, C, dx, _, _, rfl, hc, T.cl, T.made, cfs_made, .inl ⟨rfl, _, SqL.of hm⟩, _, rfl, m, us, x, rfl, rfl, hm, sz_lt1 (by omega), ?_⟩
  have cm : c ≠ m := ne_of hc hm (by intro z; cases z)
  have hc1 : L2.upd H m (.lst (us ++ [x])) c = some (.ins C dx (cfs m t)) := by rw [upd_ne cm]; exact hc
  refine ⟨_, rfl, c, C, dx, _, _, rfl, hc1, T.cl, T.made, cfs_made, m, us ++ [x], rfl, .inl (SqL.of upd_same), _, _, rfl, rfl, ?_⟩
  have e : (((us ++ [x]).length : Nat) : Int) - 1 = (us.length : Int) := by simp
  show Q (.int ((((us ++ [x]).length : Nat) : Int) - 1)) _
  rw [e]
  exact q
theorem rd_part (T : CoTxt K C) {n : Nat} (vs : List V) (H : Hp) (Q : VK) (E : XK) (h : spPartC K C (n + 1) vs H Q E) : t_Coder_part K C (spPut C) (spPartC K C n) { nx := fun _ H' => Q .non H', rt := Q } (start ["self", "part"] vs) H := by
  obtain ⟨c, m, t, dx, v, e, us, R, rfl, hc, ht, hd, hm, hts, hz, q⟩ := h.ex
  have lu : us.length = R.length := by rw [hts.length, List.length_map]
  have leaf : ∀ (a : Addr) (x0 x1 : V), v = .ref a → SqT K H a [x0, x1] → (x0 = .str "num" ∨ x0 = .str "var") → e.code.map Rw.d = [e.d] → e.len = 1 → t_Coder_part K C (spPut C) (spPartC K C n) { nx := fun _ H' => Q .non H', rt := Q } (start ["self", "part"] [.ref c, v]) H := by
    rintro a x0 x1 rfl hT hx he hl
    refine rd_ixT (j := 0) rfl hT rfl ⟨(by show 2 ≤ sizeLine; decide), fun p hp => ⟨p, _, rfl, .inr (SqT.of upd_same), ?_⟩⟩
    have f1 : flatV x0 = true := by rcases hx with rfl | rfl <;> rfl
    have f2 : inV x0 ([.str "num", .str "var"] : List V) = true := by rcases hx with rfl | rfl <;> rfl
    refine ⟨f1, rfl, true, by rw [if_neg Bool.false_ne_true, f2], ifT rfl ?_⟩
    have s1 : Same H (L2.upd H p (.tup [.str "num", .str "var"])) := Same.new hp
    refine rMeth rfl (s1 _ _ hc) rfl ⟨_, rfl, c, m, t, dx, .ref a, us, rfl, s1 _ _ hc, s1 _ _ hm, by omega, ?_⟩
    have hm1 := s1 _ _ hm
    refine q (us ++ [.ref a]) _ upd_same ?_ ((Kp.same s1).trans (Kp.upd rfl))
    rw [List.map_append, he]
    exact ((hts.mono (Tk.same s1)).snoc (ht.mono (Tk.same s1))).mono (Tk.lst hm1)
  cases e with
  | num k =>
    obtain ⟨a, x0, x1, rfl, hT, h0, h1⟩ := ht.tup2
    exact leaf a x0 x1 rfl hT (.inl h0.strE) rfl rfl
  | var k =>
    obtain ⟨a, x0, x1, rfl, hT, h0, h1⟩ := ht.tup2
    exact leaf a x0 x1 rfl hT (.inr h0.strE) rfl rfl
  | bin o e1 e2 =>
    obtain ⟨a, x0, x1, x2, rfl, hT, h0, h1, h2⟩ := ht.tup3
    cases h0.strE
    have hd' : max e1.dep e2.dep + 1 ≤ n + 1 := hd
    have hz' : R.length + (e1.len + e2.len + 1) ≤ 500000 := hz
    refine rd_ixT (j := 0) rfl hT rfl ⟨(by show 2 ≤ sizeLine; decide), fun p hp => ⟨p, _, rfl, .inr (SqT.of upd_same), rfl, rfl, false, ?_, ifF rfl ?_⟩⟩
    · rw [if_neg Bool.false_ne_true]; cases o <;> rfl
    have s1 : Same H (L2.upd H p (.tup [.str "num", .str "var"])) := Same.new hp
    have cm : c ≠ m := ne_of hc hm (by intro z; cases z)
    refine rMeth rfl (s1 _ _ hc) rfl (rd_ixT (j := 1) rfl (s1.sqT hT) rfl ⟨c, m, t, dx, x1, e1, us, R, rfl, s1 _ _ hc, h1.mono (Tk.same s1), by omega, s1 _ _ hm, hts.mono (Tk.same s1), by omega, fun us1 H1 hm1 ht1 kp1 => ?_⟩)
    have tk1 : Tk H H1 := (Tk.same s1).trans (kp1.tk1 (s1 _ _ hm))
    have hc1 := kp1 _ _ (s1 _ _ hc) cm
    refine rMeth rfl hc1 rfl (rd_ixT (j := 2) rfl (tk1.sqT hT) rfl ⟨c, m, t, dx, x2, e2, us1, R ++ e1.code, rfl, hc1, h2.mono tk1, by omega, hm1, ht1, by simp [Ex.code_len]; omega, fun us2 H2 hm2 ht2 kp2 => ?_⟩)
    have tk2 := tk1.trans (kp2.tk1 hm1)
    have hc2 := kp2 _ _ hc1 cm
    refine rMeth rfl hc2 rfl (rd_ixT (j := 0) rfl (tk2.sqT hT) rfl ⟨(by show 1 ≤ sizeLine; decide), fun p2 hp2 => ?_⟩)
    have hm3 : L2.upd H2 p2 (.tup [.str o.s]) m = some (.lst us2) := by rw [upd_ne (ne_of_none hm2 hp2)]; exact hm2
    have hc3 : L2.upd H2 p2 (.tup [.str o.s]) c = some (.ins C dx (cfs m t)) := by rw [upd_ne (ne_of_none hc2 hp2)]; exact hc2
    have l2 : us2.length = R.length + e1.len + e2.len := by rw [ht2.length]; simp [Ex.code_len]; omega
    refine ⟨c, m, t, dx, .ref p2, us2, rfl, hc3, hm3, by omega, ?_⟩
    refine q (us2 ++ [.ref p2]) _ upd_same ?_ ((((Kp.same s1).trans kp1).trans kp2).trans ((Kp.new hp2).trans (Kp.upd rfl)))
    rw [show (R ++ (Ex.bin o e1 e2).code).map Rw.d = (R ++ e1.code ++ e2.code).map Rw.d ++ [(Rw.op o).d] by simp [Ex.code]]
    exact ((ht2.mono (Tk.new hp2)).snoc (Tp.mk hp2 (.cons (.str _) .nil))).mono (Tk.lst hm3)
end
end Lp

/-! L4c: the program's coding: lay and what it asks. -/
namespace Lp
open PySem PySem.Spec PyProof.Rows L2
def t_Coder_plain (K : PySem.W.Frag) (C_Coder : Addr) (sp_Coder_part : Sp) (sp_Coder_put : Sp) : TS :=
  tSeq (tAsg (tOp (rIxT K) (tVar 1) (tC (.int 0))) (gName 2)) (tIfS (tTest (tOp rEq (tVar 2) (tC (.str "call")))) (tSeq (tFor (iTup K (tOp (rIxT K) (tVar 1) (tC (.int 3)))) (gName 3) (tDrop (tMeth C_Coder "part" sp_Coder_part [] E0 (tVar 0) (tCons (tVar 3) (tNil))))) (tSeq (tDrop (tMeth C_Coder "put" sp_Coder_put [] E0 (tVar 0) (tCons (tTup (tCons (tC (.str "call")) (tCons (tOp (rIxT K) (tVar 1) (tC (.int 2))) (tCons (tCB (rLenQ K) (tCons (tOp (rIxT K) (tVar 1) (tC (.int 3))) (tNil))) (tCons (tOp (rIxT K) (tVar 1) (tC (.int 4))) (tNil)))))) (tNil)))) (tDrop (tMeth C_Coder "put" sp_Coder_put [] E0 (tVar 0) (tCons (tTup (tCons (tC (.str "set")) (tCons (tOp (rIxT K) (tVar 1) (tC (.int 1))) (tNil)))) (tNil)))))) (tIfS (tTest (tOp rEq (tVar 2) (tC (.str "again")))) (tDrop (tMeth C_Coder "put" sp_Coder_put [] E0 (tVar 0) (tCons (tVar 1) (tNil)))) (tIfS (tTest (tOp rEq (tVar 2) (tC (.str "raise")))) (tSeq (tDrop (tMeth C_Coder "part" sp_Coder_part [] E0 (tVar 0) (tCons (tOp (rIxT K) (tVar 1) (tC (.int 2))) (tNil)))) (tDrop (tMeth C_Coder "put" sp_Coder_put [] E0 (tVar 0) (tCons (tTup (tCons (tC (.str "raise")) (tCons (tOp (rIxT K) (tVar 1) (tC (.int 1))) (tCons (tOp (rIxT K) (tVar 1) (tC (.int 3))) (tNil))))) (tNil))))) (tIfS (tTest (tOp rEq (tVar 2) (tC (.str "set")))) (tSeq (tDrop (tMeth C_Coder "part" sp_Coder_part [] E0 (tVar 0) (tCons (tOp (rIxT K) (tVar 1) (tC (.int 2))) (tNil)))) (tDrop (tMeth C_Coder "put" sp_Coder_put [] E0 (tVar 0) (tCons (tTup (tCons (tC (.str "set")) (tCons (tOp (rIxT K) (tVar 1) (tC (.int 1))) (tNil)))) (tNil))))) (tSeq (tDrop (tMeth C_Coder "part" sp_Coder_part [] E0 (tVar 0) (tCons (tOp (rIxT K) (tVar 1) (tC (.int 1))) (tNil)))) (tDrop (tMeth C_Coder "put" sp_Coder_put [] E0 (tVar 0) (tCons (tTup (tCons (tVar 2) (tNil))) (tNil)))))))))

section
variable {K : PySem.W.Frag} {C dx : Addr} {H H' H1 H2 : Hp} {c m t : Addr} {ts : List V} {w : Option Wh} {R : List Rw} {Q : VK} {E : XK} {σ : L2.St}
theorem pPut {x : V} {r : Rw} (s : CoSt K C dx H c m t ts w R) (hx : Tp K H x r.d) (hz : R.length ≤ 500000)
    (q : ∀ H3, CoSt K C dx H3 c m t ts w (R ++ [r]) → Kp (fun x => x = m) H H3 → Q (.int (R.length : Int)) H3) : spPut C [.ref c, x] H Q E0 := by
  obtain ⟨us, hm, tus⟩ := s.made
  have lu : us.length = R.length := by rw [tus.length, List.length_map]
  refine ⟨c, m, t, dx, x, us, rfl, s.ins, hm, by omega, ?_⟩
  rw [lu]
  refine q _ (s.setM (Kp.upd rfl) upd_same ?_ (by simp)) (Kp.upd rfl)
  rw [List.map_append]
  exact (tus.snoc hx).mono (Tk.lst hm)
theorem pPart {v : V} {e : Ex} {n : Nat} (s : CoSt K C dx H c m t ts w R) (hv : Tp K H v e.d) (hd : e.dep ≤ n) (hz : R.length + e.len ≤ 500000)
    (q : ∀ H3, CoSt K C dx H3 c m t ts w (R ++ e.code) → Kp (fun x => x = m) H H3 → Q .non H3) : spPartC K C n [.ref c, v] H Q E0 := by
  obtain ⟨us, hm, tus⟩ := s.made
  exact ⟨c, m, t, dx, v, e, us, R, rfl, s.ins, hv, hd, hm, tus, hz, fun us' H3 hm3 t3 k3 => q H3 (s.setM k3 hm3 t3 (by simp)) k3⟩
theorem CoSt.ln (s : CoSt K C dx H c m t ts w R) : ∃ us, H m = some (.lst us) ∧ us.length = R.length := by
  obtain ⟨us, hm, tus⟩ := s.made
  exact ⟨us, hm, by rw [tus.length, List.length_map]⟩
theorem CoSt.pset {k : Int} (s : CoSt K C dx H c m t ts w R) (h0 : 0 ≤ k) (hk : k < R.length) : ∃ us, H m = some (.lst us) ∧ ixN us.length k = some k.toNat ∧
    ∀ (x : V) (r : Rw), Tp K H x r.d → CoSt K C dx (L2.upd H m (.lst (us.set k.toNat x))) c m t ts w (R.set k.toNat r) := by
  obtain ⟨us, hm, tus⟩ := s.made
  have lu : us.length = R.length := by rw [tus.length, List.length_map]
  refine ⟨us, hm, ?_, fun x r hx => s.setM (Kp.upd rfl) upd_same ?_ (by simp)⟩
  · have := ixN_n (n := us.length) (j := k.toNat) (by omega)
    rwa [Int.toNat_of_nonneg h0] at this
  · rw [List.map_set]
    exact (tus.set hx).mono (Tk.lst hm)
theorem pTurn {x : Wh} {j : Nat} {v : V} (T : CoTxt K C) (s : CoSt K C dx H c m t ts (some x) R) (hs : σ[0]? = some (some (.ref c))) (e : [V.int x.top, .int x.D, .ref x.pl][j]? = some v) (q : Q v H) :
    tOp (rIxL K) (tOp (rIxL K) (tFld K (tVar 0) "turns") (tUn rNeg (tC (.int 1)))) (tC (.int (j : Int))) σ H Q := by
  obtain ⟨⟨r, hr⟩, hu, _⟩ := s.trn.wh x rfl
  refine ⟨_, hs, c, C, dx, _, _, rfl, s.ins, T.cl, T.turns, cfs_turns, _, rfl, t, ts, -1, .ref x.u, rfl, rfl, SqL.of s.trn.turns, ?_, x.u, _, _, v, rfl, rfl, SqL.of hu, atI_nat e, q⟩
  rw [hr]; exact atI_last _ _
/-- what a statement's coding is asked and told -/
structure LayP (K : PySem.W.Frag) (C : Addr) (P : Sm → Prop) (n : Nat) (vs : List V) (H : Hp) (Q : VK) : Prop where
  ex : ∃ (c dx m t : Addr) (ts : List V) (w : Option Wh) (R : List Rw) (v : V) (s : Sm) (D : Int) (cs : List Nat) (nk : Nat) (hand : Bool), vs = [.ref c, v, .int D] ∧ CoSt K C dx H c m t ts w R ∧ Tp K H v s.d ∧ s.Wf cs nk w.isSome hand ∧ s.dep ≤ n ∧ ts.length + n ≤ 900 ∧ R.length + s.len ≤ 100000 ∧ P s ∧
  ∀ H', CoSt K C dx H' c m t ts (addW (s.bks R.length) w) (R ++ s.code R.length D (tnW w)) → Kp (BW m t w) H H' → Q .non H'
def spLay (K : PySem.W.Frag) (C : Addr) (P : Sm → Prop) (n : Nat) : Sp := fun vs H Q _ => LayP K C P n vs H Q
theorem spLay_zero {P : Sm → Prop} (vs : List V) (H : Hp) (Q : VK) (E : XK) : ¬ spLay K C P 0 vs H Q E := by
  rintro ⟨⟨c, dx, m, t, ts, w, R, v, s, D, cs, nk, hand, _, _, _, _, h, _⟩⟩
  have := s.dep_pos
  omega
theorem pLay {P : Sm → Prop} {n : Nat} {v : V} {s : Sm} {D B : Int} {cs : List Nat} {nk : Nat} {hand : Bool} (st : CoSt K C dx H c m t ts w R) (hv : Tp K H v s.d) (wf : s.Wf cs nk w.isSome hand) (hd : s.dep ≤ n) (ht : ts.length + n ≤ 900) (hz : R.length + s.len ≤ 100000) (hP : P s) (hB : (R.length : Int) = B)
    (q : ∀ H', CoSt K C dx H' c m t ts (addW (s.bks B) w) (R ++ s.code B D (tnW w)) → Kp (BW m t w) H H' → Q .non H') : spLay K C P n [.ref c, v, .int D] H Q E0 := by
  subst hB
  exact ⟨c, dx, m, t, ts, w, R, v, s, D, cs, nk, hand, rfl, st, hv, wf, hd, ht, hz, hP, q⟩
structure PlainP (K : PySem.W.Frag) (C : Addr) (vs : List V) (H : Hp) (Q : VK) : Prop where
  ex : ∃ (c dx m t : Addr) (ts : List V) (w : Option Wh) (R : List Rw) (v : V) (s : Sm) (cs : List Nat) (nk : Nat) (turn hand : Bool), vs = [.ref c, v] ∧ CoSt K C dx H c m t ts w R ∧ Tp K H v s.d ∧ s.Wf cs nk turn hand ∧ s.plain = true ∧ s ≠ .brk ∧ s ≠ .cnt ∧ R.length + s.len ≤ 100000 ∧
  ∀ H', CoSt K C dx H' c m t ts w (R ++ s.code 0 0 (0, 0, 0)) → Kp (fun x => x = m) H H' → Q .non H'
def spPlain (K : PySem.W.Frag) (C : Addr) : Sp := fun vs H Q _ => PlainP K C vs H Q
end
section
variable {K : PySem.W.Frag} {C : Addr}
abbrev N_plain : List Str := ["self", "one", "word", "part"]
theorem rd_plain (T : CoTxt K C) (vs : List V) (H : Hp) (Q : VK) (E : XK) (h : spPlain K C vs H Q E) : t_Coder_plain K C (spPartC K C 6) (spPut C) { nx := fun _ H' => Q .non H', rt := Q } (start N_plain vs) H := by
  obtain ⟨c, dx, m, t, ts, w, R, v, s, cs, nk, turn, hand, rfl, st, ht, wf, hp, nb, nc, hz, q⟩ := h.ex
  cases s with
  | say e =>
    obtain ⟨a, x0, x1, rfl, hT, h0, h1⟩ := ht.tup2
    cases h0.strE
    obtain ⟨_, de⟩ : e.Wf ∧ e.dep ≤ 5 := wf
    have hl : R.length + (e.len + 1) ≤ 100000 := hz
    refine rd_ixT (j := 0) rfl hT rfl (r_ifF (pb_is (pb_eqS rfl) rfl) (r_ifF (pb_is (pb_eqS rfl) rfl) (r_ifF (pb_is (pb_eqS rfl) rfl) (r_ifF (pb_is (pb_eqS rfl) rfl) ?_))))
    refine rMeth rfl st.ins rfl (rd_ixT (j := 1) rfl hT rfl (pPart st h1 (by omega) (by omega) fun H1 s1 k1 => ?_))
    refine rMeth rfl s1.ins rfl ⟨_, rfl, (by show 1 ≤ sizeLine; decide), fun p hp => pPut (r := .say) (s1.same (Same.new hp)) (Tp.mk hp (.cons (.str _) .nil)) (by simp [Ex.code_len]; omega) fun H2 s2 k2 => ?_⟩
    exact q H2 (s2.lst (by simp [Sm.code])) (k1.trans ((Kp.new hp).trans k2))
  | ret e =>
    obtain ⟨a, x0, x1, rfl, hT, h0, h1⟩ := ht.tup2
    cases h0.strE
    obtain ⟨_, de⟩ : e.Wf ∧ e.dep ≤ 5 := wf
    have hl : R.length + (e.len + 1) ≤ 100000 := hz
    refine rd_ixT (j := 0) rfl hT rfl (r_ifF (pb_is (pb_eqS rfl) rfl) (r_ifF (pb_is (pb_eqS rfl) rfl) (r_ifF (pb_is (pb_eqS rfl) rfl) (r_ifF (pb_is (pb_eqS rfl) rfl) ?_))))
    refine rMeth rfl st.ins rfl (rd_ixT (j := 1) rfl hT rfl (pPart st h1 (by omega) (by omega) fun H1 s1 k1 => ?_))
    refine rMeth rfl s1.ins rfl ⟨_, rfl, (by show 1 ≤ sizeLine; decide), fun p hp => pPut (r := .ret) (s1.same (Same.new hp)) (Tp.mk hp (.cons (.str _) .nil)) (by simp [Ex.code_len]; omega) fun H2 s2 k2 => ?_⟩
    exact q H2 (s2.lst (by simp [Sm.code])) (k1.trans ((Kp.new hp).trans k2))
  | set k e =>
    obtain ⟨a, x0, x1, x2, rfl, hT, h0, h1, h2⟩ := ht.tup3
    cases h0.strE; cases h1.intE
    obtain ⟨_, _, de⟩ : k < 8 ∧ e.Wf ∧ e.dep ≤ 5 := wf
    have hl : R.length + (e.len + 1) ≤ 100000 := hz
    refine rd_ixT (j := 0) rfl hT rfl (r_ifF (pb_is (pb_eqS rfl) rfl) (r_ifF (pb_is (pb_eqS rfl) rfl) (r_ifF (pb_is (pb_eqS rfl) rfl) (r_ifT (pb_is (pb_eqS rfl) rfl) ?_))))
    refine rMeth rfl st.ins rfl (rd_ixT (j := 2) rfl hT rfl (pPart st h2 (by omega) (by omega) fun H1 s1 k1 => ?_))
    refine rMeth rfl s1.ins rfl (rd_ixT (j := 1) rfl ((st.tk1 k1).sqT hT) rfl ⟨(by show 2 ≤ sizeLine; decide), fun p hp => pPut (r := .set k) (s1.same (Same.new hp)) (Tp.mk hp (.cons (.str _) (.cons (.int _) .nil))) (by simp [Ex.code_len]; omega) fun H2 s2 k2 => ?_⟩)
    exact q H2 (s2.lst (by simp [Sm.code])) (k1.trans ((Kp.new hp).trans k2))
  | rais kd e mm =>
    obtain ⟨a, x0, x1, x2, x3, rfl, hT, h0, h1, h2, h3⟩ := ht.tup4
    cases h0.strE; cases h1.intE; cases h3.intE
    obtain ⟨_, ⟨_, de⟩, _⟩ : kd < nk ∧ (e.Wf ∧ e.dep ≤ 5) ∧ 0 ≤ mm ∧ mm < 1000 := wf
    have hl : R.length + (e.len + 1) ≤ 100000 := hz
    refine rd_ixT (j := 0) rfl hT rfl (r_ifF (pb_is (pb_eqS rfl) rfl) (r_ifF (pb_is (pb_eqS rfl) rfl) (r_ifT (pb_is (pb_eqS rfl) rfl) ?_)))
    refine rMeth rfl st.ins rfl (rd_ixT (j := 2) rfl hT rfl (pPart st h2 (by omega) (by omega) fun H1 s1 k1 => ?_))
    refine rMeth rfl s1.ins rfl (rd_ixT (j := 1) rfl ((st.tk1 k1).sqT hT) rfl (rd_ixT (j := 3) rfl ((st.tk1 k1).sqT hT) rfl ⟨(by show 3 ≤ sizeLine; decide), fun p hp => pPut (r := .rais kd mm) (s1.same (Same.new hp)) (Tp.mk hp (.cons (.str _) (.cons (.int _) (.cons (.int _) .nil)))) (by simp [Ex.code_len]; omega) fun H2 s2 k2 => ?_⟩))
    exact q H2 (s2.lst (by simp [Sm.code])) (k1.trans ((Kp.new hp).trans k2))
  | again =>
    obtain ⟨a, x0, rfl, hT, h0⟩ := id ht.tup1
    cases h0.strE
    have hl : R.length + 1 ≤ 100000 := hz
    refine rd_ixT (j := 0) rfl hT rfl (r_ifF (pb_is (pb_eqS rfl) rfl) (r_ifT (pb_is (pb_eqS rfl) rfl) ?_))
    refine rMeth rfl st.ins rfl ⟨_, rfl, pPut (r := .again) st ht (by omega) fun H2 s2 k2 => ?_⟩
    exact q H2 s2 k2
  | call k f ps mm =>
    obtain ⟨a, x0, x1, x2, x3, x4, rfl, hT, h0, h1, h2, h3, h4⟩ := ht.tup5
    cases h0.strE; cases h1.intE; cases h2.intE; cases h4.intE
    obtain ⟨pa, pxs, rfl, hTp, htp⟩ := h3.tupE
    obtain ⟨_, _, lp, wps, _⟩ : k < 8 ∧ cs[f]? = some ps.length ∧ ps.length ≤ 3 ∧ (∀ e ∈ ps, e.Wf ∧ e.dep ≤ 5) ∧ 0 ≤ mm ∧ mm < 1000 := wf
    have lpx : pxs.length = ps.length := by rw [htp.length, List.length_map]
    have hl : R.length + (exsLen ps + 2) ≤ 100000 := hz
    refine rd_ixT (j := 0) rfl hT rfl (r_ifT (pb_is (pb_eqS rfl) rfl) (rd_ixT (j := 3) rfl hT rfl ⟨pa, rfl, ⟨_, hTp⟩, for_tup (K := K) (a := pa) (xs := pxs) (fun i σ H' => ∃ (r : List Ex) (pre : List Rw) (v3 : Option V), σ = [some (.ref c), some (.ref a), some (.str "call"), v3] ∧ CoSt K C dx H' c m t ts w (R ++ pre) ∧ Kp (fun x => x = m) H H' ∧ TpAll K H (pxs.drop i) (r.map Ex.d) ∧ (∀ e ∈ r, e.dep ≤ 5) ∧ pre.length + exsLen r = exsLen ps ∧ pre ++ exsCode r = exsCode ps)
      ⟨ps, [], none, rfl, st.lst (by simp), Kp.refl _ _, by rw [List.drop_zero]; exact htp, fun e he => (wps e he).2, by simp, by simp⟩ (fun i σ H' _ ⟨_, _, _, _, _, k', _⟩ => (st.tk1 k').sqT hTp) ?_ ?_⟩))
    · rintro i x σ H1 hx ⟨r, pre, v3, rfl, s1, k1, tr, dr, lr, er⟩
      obtain ⟨e, r', rfl, tx, tr'⟩ := exs_at tr hx
      have lr2 : pre.length + (e.len + exsLen r') = exsLen ps := lr
      refine rMeth rfl s1.ins rfl ⟨_, rfl, pPart s1 (tx.mono (st.tk1 k1)) (by have := dr e List.mem_cons_self; omega) (by simp; omega) fun H2 s2 k2 => ?_⟩
      exact ⟨r', pre ++ e.code, _, rfl, s2.lst (by simp), k1.trans k2, tr', fun y hy => dr y (List.mem_cons_of_mem _ hy), by simp [Ex.code_len]; omega, by rw [← er]; simp [exsCode]⟩
    · rintro σ H1 ⟨r, pre, v3, rfl, s1, k1, tr, dr, lr, er⟩
      cases exs_end tr
      obtain rfl : pre = exsCode ps := by simpa [exsCode] using er
      have tk1 := st.tk1 k1
      refine rMeth rfl s1.ins rfl (rd_ixT (j := 2) rfl (tk1.sqT hT) rfl (rd_ixT (j := 3) rfl (tk1.sqT hT) rfl ⟨pa, pxs, rfl, .inr (tk1.sqT hTp), rd_ixT (j := 4) rfl (tk1.sqT hT) rfl ⟨(by show 4 ≤ sizeLine; decide), fun p hp => ?_⟩⟩))
      rw [lpx]
      refine pPut (r := .call f ps.length mm) (s1.same (Same.new hp)) (Tp.mk hp (.cons (.str _) (.cons (.int _) (.cons (.int _) (.cons (.int _) .nil))))) (by simp [exsCode_len]; omega) fun H2 s2 k2 => ?_
      have k12 := k1.trans ((Kp.new hp).trans k2)
      refine rMeth rfl s2.ins rfl (rd_ixT (j := 1) rfl ((st.tk1 k12).sqT hT) rfl ⟨(by show 2 ≤ sizeLine; decide), fun p2 hp2 => pPut (r := .set k) (s2.same (Same.new hp2)) (Tp.mk hp2 (.cons (.str _) (.cons (.int _) .nil))) (by simp [exsCode_len]; omega) fun H3 s3 k3 => ?_⟩)
      exact q H3 (s3.lst (by simp [Sm.code])) (k12.trans ((Kp.new hp2).trans k3))
  | brk => exact absurd rfl nb
  | cnt => exact absurd rfl nc
  | _ => cases hp
end
end Lp

/-! L4d: the program's coding: statements with others in them. -/
namespace Lp
open PySem PySem.Spec PyProof.Rows L2
def t_Coder_choice (K : PySem.W.Frag) (C_Coder : Addr) (sp_Coder_part : Sp) (sp_Coder_put : Sp) (sp_Coder_lay : Sp) : TS :=
  tSeq (tDrop (tMeth C_Coder "part" sp_Coder_part [] E0 (tVar 0) (tCons (tOp (rIxT K) (tVar 1) (tC (.int 1))) (tNil)))) (tSeq (tAsg (tMeth C_Coder "put" sp_Coder_put [] E0 (tVar 0) (tCons (tTup (tCons (tC (.str "unless")) (tCons (tC (.int 0)) (tNil)))) (tNil))) (gName 3)) (tSeq (tDrop (tMeth C_Coder "lay" sp_Coder_lay [] E0 (tVar 0) (tCons (tOp (rIxT K) (tVar 1) (tC (.int 2))) (tCons (tVar 2) (tNil))))) (tSeq (tAsg (tMeth C_Coder "put" sp_Coder_put [] E0 (tVar 0) (tCons (tTup (tCons (tC (.str "go")) (tCons (tC (.int 0)) (tNil)))) (tNil))) (gName 4)) (tSeq (tAsg (tTup (tCons (tC (.str "unless")) (tCons (tCB (rLenQ K) (tCons (tFld K (tVar 0) "made") (tNil))) (tNil)))) (gSub (tFld K (tVar 0) "made") (tVar 3) rSetL)) (tSeq (tDrop (tMeth C_Coder "lay" sp_Coder_lay [] E0 (tVar 0) (tCons (tOp (rIxT K) (tVar 1) (tC (.int 3))) (tCons (tVar 2) (tNil))))) (tAsg (tTup (tCons (tC (.str "go")) (tCons (tCB (rLenQ K) (tCons (tFld K (tVar 0) "made") (tNil))) (tNil)))) (gSub (tFld K (tVar 0) "made") (tVar 4) rSetL)))))))

def t_Coder_cleaned (K : PySem.W.Frag) (C_Coder : Addr) (sp_Coder_lay : Sp) (sp_Coder_put : Sp) : TS :=
  tSeq (tAsg (tCB (rLenQ K) (tCons (tFld K (tVar 0) "made") (tNil))) (gName 3)) (tSeq (tDrop (tMeth C_Coder "lay" sp_Coder_lay [] E0 (tVar 0) (tCons (tOp (rIxT K) (tVar 1) (tC (.int 1))) (tCons (tVar 2) (tNil))))) (tSeq (tDrop (tMeth C_Coder "put" sp_Coder_put [] E0 (tVar 0) (tCons (tTup (tCons (tC (.str "mend")) (tNil))) (tNil)))) (tSeq (tAsg (tCB (rLenQ K) (tCons (tFld K (tVar 0) "made") (tNil))) (gName 4)) (tSeq (tDrop (tMeth C_Coder "put" sp_Coder_put [] E0 (tVar 0) (tCons (tTup (tCons (tC (.str "cleanup")) (tCons (tVar 3) (tCons (tVar 4) (tCons (tVar 2) (tNil)))))) (tNil)))) (tSeq (tDrop (tMeth C_Coder "lay" sp_Coder_lay [] E0 (tVar 0) (tCons (tOp (rIxT K) (tVar 1) (tC (.int 2))) (tCons (tOp rAdI (tVar 2) (tC (.int 1))) (tNil))))) (tDrop (tMeth C_Coder "put" sp_Coder_put [] E0 (tVar 0) (tCons (tTup (tCons (tC (.str "resume")) (tNil))) (tNil)))))))))

def PIf (s : Sm) : Prop := ∃ e a b, s = .ife e a b
def PWhl (s : Sm) : Prop := ∃ e a, s = .whl e a
def PTri (s : Sm) : Prop := ∃ a h, s = .tri a h
def PCln (s : Sm) : Prop := ∃ a b, s = .cln a b
def PAny (_ : Sm) : Prop := True
section
variable {K : PySem.W.Frag} {C : Addr}
abbrev N_choice : List Str := ["self", "one", "depth", "here", "leave"]
theorem rd_choice (T : CoTxt K C) {n : Nat} (vs : List V) (H : Hp) (Q : VK) (E : XK) (h : spLay K C PIf (n + 1) vs H Q E) : t_Coder_choice K C (spPartC K C 6) (spPut C) (spLay K C PAny n) { nx := fun _ H' => Q .non H', rt := Q } (start N_choice vs) H := by
  obtain ⟨c, dx, m, t, ts, w, R, v, s, D, cs, nk, hand, rfl, st, ht, wf, hd, hts, hz, ⟨e, s1, s2, rfl⟩, q⟩ := h.ex
  obtain ⟨a, x0, x1, x2, x3, rfl, hT, h0, h1, h2, h3⟩ := ht.tup4
  obtain ⟨⟨_, de⟩, wa, wb⟩ : (e.Wf ∧ e.dep ≤ 5) ∧ s1.Wf cs nk w.isSome hand ∧ s2.Wf cs nk w.isSome hand := wf
  have hl : R.length + (e.len + 1 + s1.len + 1 + s2.len) ≤ 100000 := hz
  have hd' : max s1.dep s2.dep + 1 ≤ n + 1 := hd
  refine rMeth rfl st.ins rfl (rd_ixT (j := 1) rfl hT rfl (pPart st h1 (by omega) (by omega) fun H1 st1 k1 => ?_))
  have l1 : (R ++ e.code).length = R.length + e.len := by simp [Ex.code_len]
  refine rMeth rfl st1.ins rfl ⟨(by show 2 ≤ sizeLine; decide), fun p1 hp1 => pPut (r := .unless 0) (st1.same (Same.new hp1)) (Tp.mk hp1 (.cons (.str _) (.cons (.int _) .nil))) (by omega) fun H2 st2 k2 => ?_⟩
  have k12 := k1.trans ((Kp.new hp1).trans k2)
  have tk2 := st.tk1 k12
  refine rMeth rfl st2.ins rfl (rd_ixT (j := 2) rfl (tk2.sqT hT) rfl ⟨_, rfl, pLay (B := (R.length : Int) + e.len + 1) st2 (h2.mono tk2) wa (by omega) (by omega) (by simp [Ex.code_len]; omega) trivial (by simp [Ex.code_len]; omega) fun H3 st3 k3 => ?_⟩)
  have k13 : Kp (BW m t w) H H3 := (KpW k12).trans k3
  have l3 : (R ++ e.code ++ [Rw.unless 0] ++ s1.code ((R.length : Int) + e.len + 1) D (tnW w)).length = R.length + e.len + 1 + s1.len := by simp [Ex.code_len, Sm.code_len]; omega
  refine rMeth rfl st3.ins rfl ⟨(by show 2 ≤ sizeLine; decide), fun p2 hp2 => pPut (r := .go 0) (st3.same (Same.new hp2)) (Tp.mk hp2 (.cons (.str _) (.cons (.int _) .nil))) (by omega) fun H4 st4 k4 => ?_⟩
  have k14 : Kp (BW m t w) H H4 := k13.trans (KpW ((Kp.new hp2).trans k4))
  -- the first place
  obtain ⟨us, hm4, lu4⟩ := st4.ln
  refine ⟨_, rfl, c, C, dx, _, _, rfl, st4.ins, T.cl, T.made, cfs_made, m, us, rfl, .inl (SqL.of hm4), (by show 2 ≤ sizeLine; decide), fun p3 hp3 => ?_⟩
  rw [lu4]
  have st4' := st4.same (Same.new (o := .tup [.str "unless", .int (((R ++ e.code ++ [Rw.unless 0] ++ s1.code ((R.length : Int) + e.len + 1) D (tnW w) ++ [Rw.go 0]).length : Nat) : Int)]) hp3)
  obtain ⟨us2, hm5, ix5, z5⟩ := st4'.pset (k := (((R ++ e.code).length : Nat) : Int)) (by omega) (by simp; omega)
  refine ⟨_, rfl, c, C, dx, _, _, rfl, st4'.ins, T.cl, T.made, cfs_made, _, rfl, m, us2, _, _, rfl, rfl, hm5, ix5, ?_⟩
  have st5 := z5 (.ref p3) (.unless ((R.length : Int) + e.len + 1 + s1.len + 1)) (by
    rw [List.length_append, l3]
    rw [show ((R.length : Int) + e.len + 1 + s1.len + 1) = ((R.length + e.len + 1 + s1.len + [Rw.go 0].length : Nat) : Int) by simp]
    exact Tp.mk hp3 (.cons (.str _) (.cons (.int _) .nil)))
  have st5 := st5.lst (R' := R ++ e.code ++ [Rw.unless ((R.length : Int) + e.len + 1 + s1.len + 1)] ++ s1.code ((R.length : Int) + e.len + 1) D (tnW w) ++ [.go 0]) (by
    rw [show R ++ e.code ++ [Rw.unless 0] ++ s1.code ((R.length : Int) + e.len + 1) D (tnW w) ++ [.go 0] = (R ++ e.code) ++ Rw.unless 0 :: (s1.code ((R.length : Int) + e.len + 1) D (tnW w) ++ [.go 0]) by simp]
    rw [set_mid (Int.toNat_natCast _).symm]
    simp)
  generalize hH5 : L2.upd (L2.upd H4 p3 _) m (.lst (us2.set _ (.ref p3))) = H5 at st5 ⊢
  have k15 : Kp (BW m t w) H H5 := by
    rw [← hH5]
    exact k14.trans ((Kp.new hp3).trans (Kp.upd (.inl rfl)))
  have tk5 := st.tk k15
  refine rMeth rfl st5.ins rfl (rd_ixT (j := 3) rfl (tk5.sqT hT) rfl ⟨_, rfl, pLay (B := (R.length : Int) + e.len + 1 + s1.len + 1) st5 (h3.mono tk5) (by rw [addW_some]; exact wb) (by omega) (by omega) (by simp [Ex.code_len, Sm.code_len]; omega) trivial (by simp [Ex.code_len, Sm.code_len]; omega) fun H6 st6 k6 => ?_⟩)
  rw [BW_add] at k6
  rw [tnW_add, addW_app] at st6
  have k16 := k15.trans k6
  obtain ⟨us6, hm6, lu6⟩ := st6.ln
  refine ⟨_, rfl, c, C, dx, _, _, rfl, st6.ins, T.cl, T.made, cfs_made, m, us6, rfl, .inl (SqL.of hm6), (by show 2 ≤ sizeLine; decide), fun p7 hp7 => ?_⟩
  rw [lu6]
  have l6 : ((R ++ e.code ++ [Rw.unless ((R.length : Int) + e.len + 1 + s1.len + 1)] ++ s1.code ((R.length : Int) + e.len + 1) D (tnW w) ++ [Rw.go 0] ++ s2.code ((R.length : Int) + e.len + 1 + s1.len + 1) D (tnW w)).length : Nat) = R.length + e.len + 1 + s1.len + 1 + s2.len := by simp [Ex.code_len, Sm.code_len]; omega
  rw [l6]
  have st6' := st6.same (Same.new (o := .tup [.str "go", .int ((R.length + e.len + 1 + s1.len + 1 + s2.len : Nat) : Int)]) hp7)
  obtain ⟨us7, hm7, ix7, z7⟩ := st6'.pset (k := (((R ++ e.code ++ [Rw.unless 0] ++ s1.code ((R.length : Int) + e.len + 1) D (tnW w)).length : Nat) : Int)) (by omega) (by rw [l6, l3]; omega)
  refine ⟨_, rfl, c, C, dx, _, _, rfl, st6'.ins, T.cl, T.made, cfs_made, _, rfl, m, us7, _, _, rfl, rfl, hm7, ix7, ?_⟩
  have st7 := z7 (.ref p7) (.go ((R.length : Int) + e.len + 1 + s1.len + 1 + s2.len)) (by
    rw [show ((R.length : Int) + e.len + 1 + s1.len + 1 + s2.len) = ((R.length + e.len + 1 + s1.len + 1 + s2.len : Nat) : Int) by simp]
    exact Tp.mk hp7 (.cons (.str _) (.cons (.int _) .nil)))
  refine q _ (st7.lst ?_) (k16.trans ((Kp.new hp7).trans (Kp.upd (.inl rfl))))
  rw [show R ++ e.code ++ [Rw.unless ((R.length : Int) + e.len + 1 + s1.len + 1)] ++ s1.code ((R.length : Int) + e.len + 1) D (tnW w) ++ [.go 0] ++ s2.code ((R.length : Int) + e.len + 1 + s1.len + 1) D (tnW w) = (R ++ e.code ++ [Rw.unless ((R.length : Int) + e.len + 1 + s1.len + 1)] ++ s1.code ((R.length : Int) + e.len + 1) D (tnW w)) ++ Rw.go 0 :: s2.code ((R.length : Int) + e.len + 1 + s1.len + 1) D (tnW w) by simp]
  rw [set_mid (by rw [Int.toNat_natCast]; simp)]
  simp [Sm.code]
abbrev N_cleaned : List Str := ["self", "one", "depth", "begin", "end"]
theorem rd_cleaned (T : CoTxt K C) {n : Nat} (vs : List V) (H : Hp) (Q : VK) (E : XK) (h : spLay K C PCln (n + 1) vs H Q E) : t_Coder_cleaned K C (spLay K C PAny n) (spPut C) { nx := fun _ H' => Q .non H', rt := Q } (start N_cleaned vs) H := by
  obtain ⟨c, dx, m, t, ts, w, R, v, s, D, cs, nk, hand, rfl, st, ht, wf, hd, hts, hz, ⟨s1, s2, rfl⟩, q⟩ := h.ex
  obtain ⟨a, x0, x1, x2, rfl, hT, h0, h1, h2⟩ := ht.tup3
  obtain ⟨wa, wb⟩ : s1.Wf cs nk w.isSome hand ∧ s2.Wf cs nk w.isSome hand := wf
  have hl : R.length + (s1.len + 2 + s2.len + 1) ≤ 100000 := hz
  have hd' : max s1.dep s2.dep + 1 ≤ n + 1 := hd
  obtain ⟨us, hm0, lu0⟩ := st.ln
  refine ⟨_, rfl, c, C, dx, _, _, rfl, st.ins, T.cl, T.made, cfs_made, m, us, rfl, .inl (SqL.of hm0), ?_⟩
  rw [lu0]
  refine rMeth rfl st.ins rfl (rd_ixT (j := 1) rfl hT rfl ⟨_, rfl, pLay (B := (R.length : Int)) st h1 wa (by omega) (by omega) (by omega) trivial rfl fun H1 st1 k1 => ?_⟩)
  have l1 : (R ++ s1.code (R.length : Int) D (tnW w)).length = R.length + s1.len := by simp [Sm.code_len]
  refine rMeth rfl st1.ins rfl ⟨(by show 1 ≤ sizeLine; decide), fun p1 hp1 => pPut (r := .mend) (st1.same (Same.new hp1)) (Tp.mk hp1 (.cons (.str _) .nil)) (by omega) fun H2 st2 k2 => ?_⟩
  have k12 : Kp (BW m t w) H H2 := k1.trans (KpW ((Kp.new hp1).trans k2))
  obtain ⟨us2, hm2, lu2⟩ := st2.ln
  refine ⟨_, rfl, c, C, dx, _, _, rfl, st2.ins, T.cl, T.made, cfs_made, m, us2, rfl, .inl (SqL.of hm2), ?_⟩
  have e2 : (us2.length : Int) = (R.length : Int) + s1.len + 1 := by rw [lu2]; simp [Sm.code_len]; omega
  rw [e2]
  refine rMeth rfl st2.ins rfl ⟨_, rfl, _, rfl, _, rfl, (by show 4 ≤ sizeLine; decide), fun p2 hp2 => pPut (r := .cup R.length ((R.length : Int) + s1.len + 1) D) (st2.same (Same.new hp2)) (Tp.mk hp2 (.cons (.str _) (.cons (.int _) (.cons (.int _) (.cons (.int _) .nil))))) (by simp [Sm.code_len]; omega) fun H3 st3 k3 => ?_⟩
  have k13 : Kp (BW m t w) H H3 := k12.trans (KpW ((Kp.new hp2).trans k3))
  have tk3 := st.tk k13
  refine rMeth rfl st3.ins rfl (rd_ixT (j := 2) rfl (tk3.sqT hT) rfl ⟨_, rfl, _, _, rfl, rfl, pLay (B := (R.length : Int) + s1.len + 2) st3 (h2.mono tk3) (by rw [addW_some]; exact wb) (by omega) (by omega) (by simp [Sm.code_len]; omega) trivial (by simp [Sm.code_len]; omega) fun H4 st4 k4 => ?_⟩)
  rw [BW_add] at k4
  rw [tnW_add, addW_app] at st4
  have k14 := k13.trans k4
  refine rMeth rfl st4.ins rfl ⟨(by show 1 ≤ sizeLine; decide), fun p5 hp5 => pPut (r := .resume) (st4.same (Same.new hp5)) (Tp.mk hp5 (.cons (.str _) .nil)) (by simp [Sm.code_len]; omega) fun H5 st5 k5 => ?_⟩
  exact q H5 (st5.lst (by simp [Sm.code])) (k14.trans (KpW ((Kp.new hp5).trans k5)))
end
end Lp

/-! L4e: the program's coding: loop, tried, lay. -/
namespace Lp
open PySem PySem.Spec PyProof.Rows L2
def t_Coder_loop (K : PySem.W.Frag) (C_Coder : Addr) (sp_Coder_part : Sp) (sp_Coder_put : Sp) (sp_Coder_lay : Sp) : TS :=
  tSeq (tAsg (tCB (rLenQ K) (tCons (tFld K (tVar 0) "made") (tNil))) (gName 3)) (tSeq (tDrop (tMeth C_Coder "part" sp_Coder_part [] E0 (tVar 0) (tCons (tOp (rIxT K) (tVar 1) (tC (.int 1))) (tNil)))) (tSeq (tAsg (tMeth C_Coder "put" sp_Coder_put [] E0 (tVar 0) (tCons (tTup (tCons (tC (.str "unless")) (tCons (tC (.int 0)) (tNil)))) (tNil))) (gName 4)) (tSeq (tDrop (tMeth C_Coder "put" sp_Coder_put [] E0 (tVar 0) (tCons (tTup (tCons (tC (.str "turn")) (tNil))) (tNil)))) (tSeq (tDrop (tBM K "list" rAppend (tFld K (tVar 0) "turns") (tCons (tLst (tCons (tVar 3) (tCons (tVar 2) (tCons (tLst (tNil)) (tNil))))) (tNil)))) (tSeq (tDrop (tMeth C_Coder "lay" sp_Coder_lay [] E0 (tVar 0) (tCons (tOp (rIxT K) (tVar 1) (tC (.int 2))) (tCons (tVar 2) (tNil))))) (tSeq (tDrop (tMeth C_Coder "put" sp_Coder_put [] E0 (tVar 0) (tCons (tTup (tCons (tC (.str "go")) (tCons (tVar 3) (tNil)))) (tNil)))) (tSeq (tAsg (tTup (tCons (tC (.str "unless")) (tCons (tCB (rLenQ K) (tCons (tFld K (tVar 0) "made") (tNil))) (tNil)))) (gSub (tFld K (tVar 0) "made") (tVar 4) rSetL)) (tFor (iList K (tOp (rIxL K) (tBM0 K "list" rPop (tFld K (tVar 0) "turns")) (tC (.int 2)))) (gName 5) (tAsg (tTup (tCons (tC (.str "leap")) (tCons (tCB (rLenQ K) (tCons (tFld K (tVar 0) "made") (tNil))) (tCons (tVar 2) (tNil))))) (gSub (tFld K (tVar 0) "made") (tVar 5) rSetL))))))))))

def t_Coder_tried (K : PySem.W.Frag) (C_Coder : Addr) (sp_Coder_lay : Sp) (sp_Coder_put : Sp) : TS :=
  tSeq (tAsg (tCB (rLenQ K) (tCons (tFld K (tVar 0) "made") (tNil))) (gName 3)) (tSeq (tDrop (tMeth C_Coder "lay" sp_Coder_lay [] E0 (tVar 0) (tCons (tOp (rIxT K) (tVar 1) (tC (.int 1))) (tCons (tVar 2) (tNil))))) (tSeq (tAsg (tCB (rLenQ K) (tCons (tFld K (tVar 0) "made") (tNil))) (gName 4)) (tSeq (tAsg (tLst (tCons (tMeth C_Coder "put" sp_Coder_put [] E0 (tVar 0) (tCons (tTup (tCons (tC (.str "go")) (tCons (tC (.int 0)) (tNil)))) (tNil))) (tNil))) (gName 5)) (tSeq (tFor (iTup K (tOp (rIxT K) (tVar 1) (tC (.int 2)))) (gName 6) (tSeq (tDrop (tMeth C_Coder "put" sp_Coder_put [] E0 (tVar 0) (tCons (tTup (tCons (tC (.str "handler")) (tCons (tVar 3) (tCons (tVar 4) (tCons (tOp (rIxT K) (tVar 6) (tC (.int 0))) (tCons (tVar 2) (tNil))))))) (tNil)))) (tSeq (tDrop (tMeth C_Coder "put" sp_Coder_put [] E0 (tVar 0) (tCons (tTup (tCons (tC (.str "set")) (tCons (tOp (rIxT K) (tVar 6) (tC (.int 1))) (tNil)))) (tNil)))) (tSeq (tDrop (tMeth C_Coder "lay" sp_Coder_lay [] E0 (tVar 0) (tCons (tOp (rIxT K) (tVar 6) (tC (.int 2))) (tCons (tOp rAdI (tVar 2) (tC (.int 1))) (tNil))))) (tSeq (tDrop (tMeth C_Coder "put" sp_Coder_put [] E0 (tVar 0) (tCons (tTup (tCons (tC (.str "settled")) (tNil))) (tNil)))) (tDrop (tBM K "list" rAppend (tVar 5) (tCons (tMeth C_Coder "put" sp_Coder_put [] E0 (tVar 0) (tCons (tTup (tCons (tC (.str "go")) (tCons (tC (.int 0)) (tNil)))) (tNil))) (tNil))))))))) (tFor (iList K (tVar 5)) (gName 7) (tAsg (tTup (tCons (tC (.str "go")) (tCons (tCB (rLenQ K) (tCons (tFld K (tVar 0) "made") (tNil))) (tNil)))) (gSub (tFld K (tVar 0) "made") (tVar 7) rSetL)))))))

section
variable {K : PySem.W.Frag} {C : Addr}
abbrev N_loop : List Str := ["self", "one", "depth", "top", "here", "place"]
theorem rd_loop (T : CoTxt K C) {n : Nat} (vs : List V) (H : Hp) (Q : VK) (E : XK) (h : spLay K C PWhl (n + 1) vs H Q E) : t_Coder_loop K C (spPartC K C 6) (spPut C) (spLay K C PAny n) { nx := fun _ H' => Q .non H', rt := Q } (start N_loop vs) H := by
  obtain ⟨c, dx, m, t, ts, w, R, v, s, D, cs, nk, hand, rfl, st, ht, wf, hd, hts, hz, ⟨e, s1, rfl⟩, q⟩ := h.ex
  obtain ⟨a, x0, x1, x2, rfl, hT, h0, h1, h2⟩ := ht.tup3
  obtain ⟨⟨_, de⟩, wa⟩ : (e.Wf ∧ e.dep ≤ 5) ∧ s1.Wf cs nk true hand := wf
  have hl : R.length + (e.len + 2 + s1.len + 1) ≤ 100000 := hz
  have hd' : s1.dep + 1 ≤ n + 1 := hd
  obtain ⟨us, hm0, lu0⟩ := st.ln
  refine ⟨_, rfl, c, C, dx, _, _, rfl, st.ins, T.cl, T.made, cfs_made, m, us, rfl, .inl (SqL.of hm0), ?_⟩
  rw [lu0]
  refine rMeth rfl st.ins rfl (rd_ixT (j := 1) rfl hT rfl (pPart st h1 (by omega) (by omega) fun H1 st1 k1 => ?_))
  refine rMeth rfl st1.ins rfl ⟨(by show 2 ≤ sizeLine; decide), fun p1 hp1 => pPut (r := .unless 0) (st1.same (Same.new hp1)) (Tp.mk hp1 (.cons (.str _) (.cons (.int _) .nil))) (by simp [Ex.code_len]; omega) fun H2 st2 k2 => ?_⟩
  refine rMeth rfl st2.ins rfl ⟨(by show 1 ≤ sizeLine; decide), fun p2 hp2 => pPut (r := .turn) (st2.same (Same.new hp2)) (Tp.mk hp2 (.cons (.str _) .nil)) (by simp [Ex.code_len]; omega) fun H3 st3 k3 => ?_⟩
  have k13 : Kp (fun x => x = m) H H3 := (k1.trans ((Kp.new hp1).trans k2)).trans ((Kp.new hp2).trans k3)
  refine ⟨_, rfl, c, C, dx, _, _, rfl, st3.ins, T.cl, T.turns, cfs_turns, .inl ⟨rfl, _, SqL.of st3.trn.turns⟩, _, rfl, _, rfl, (by show 0 ≤ sizeLine; decide), fun pl hpl => ⟨(by show 3 ≤ sizeLine; decide), fun u hu => ⟨t, ts, _, rfl, rfl, ((st3.same (Same.new hpl)).same (Same.new hu)).trn.turns, sz_lt1 (by omega), ?_⟩⟩⟩
  have A := st3.apart hpl
  have B := (st3.same (Same.new (o := .lst []) hpl)).apart hu
  have plu : pl ≠ u := ne_of_none (upd_same (H := H3) (o := .lst [])) hu
  have turns3 := ((st3.same (Same.new (o := .lst []) hpl)).same (Same.new (o := .lst [.int (R.length : Int), .int D, .ref pl]) hu)).trn.turns
  generalize hH4 : L2.upd (L2.upd (L2.upd H3 pl (.lst [])) u (.lst [.int (R.length : Int), .int D, .ref pl])) t (.lst (ts ++ [.ref u])) = H4
  have k34 : Kp (fun x => x = t) H3 H4 := by rw [← hH4]; exact ((Kp.new hpl).trans (Kp.new hu)).trans (Kp.upd rfl)
  have tk34 : Tk H3 H4 := by rw [← hH4]; exact ((Tk.new hpl).trans (Tk.new hu)).trans (Tk.lst turns3)
  have st4 : CoSt K C dx H4 c m t (ts ++ [.ref u]) (some ⟨u, pl, R.length, D, []⟩) (R ++ e.code ++ [Rw.unless 0] ++ [Rw.turn]) := by
    obtain ⟨us3, hm3, tus3⟩ := st3.made
    refine ⟨k34 _ _ st3.ins st3.ct, ⟨us3, k34 _ _ hm3 st3.trn.tm.symm, tus3.mono tk34⟩, ⟨by rw [← hH4]; exact upd_same, st3.trn.tm, fun x hx => ?_⟩, fun x hx => by cases hx; exact Nat.zero_le _⟩
    cases hx
    refine ⟨⟨ts, rfl⟩, ?_, ?_, B.nm.symm, B.nt.symm, A.nm.symm, A.nt.symm, plu⟩
    · rw [← hH4, upd_ne B.nt.symm, upd_same]
    · rw [← hH4, upd_ne A.nt.symm, upd_ne plu, upd_same]; rfl
  have tk4 : Tk H H4 := (st.tk1 k13).trans tk34
  refine rMeth rfl st4.ins rfl (rd_ixT (j := 2) rfl (tk4.sqT hT) rfl ⟨_, rfl, pLay (B := (R.length : Int) + e.len + 2) st4 (h2.mono tk4) wa (by omega) (by simp; omega) (by simp [Ex.code_len]; omega) trivial (by simp [Ex.code_len]; omega) fun H5 st5 k5 => ?_⟩)
  generalize hB : (R.length : Int) + e.len + 2 = bs at st5
  replace st5 : CoSt K C dx H5 c m t (ts ++ [.ref u]) (some ⟨u, pl, R.length, D, s1.bks bs⟩) (R ++ e.code ++ [Rw.unless 0] ++ [Rw.turn] ++ s1.code bs D ((R.length : Int), 0, D)) := st5
  have l5 : (R ++ e.code ++ [Rw.unless 0] ++ [Rw.turn] ++ s1.code bs D ((R.length : Int), 0, D)).length = R.length + e.len + 2 + s1.len := by simp [Ex.code_len, Sm.code_len]; omega
  refine rMeth rfl st5.ins rfl ⟨_, rfl, (by show 2 ≤ sizeLine; decide), fun p6 hp6 => pPut (r := .go R.length) (st5.same (Same.new hp6)) (Tp.mk hp6 (.cons (.str _) (.cons (.int _) .nil))) (by omega) fun H6 st6 k6 => ?_⟩
  have k56 : Kp (fun x => x = m) H5 H6 := (Kp.new hp6).trans k6
  obtain ⟨us6, hm6, lu6⟩ := st6.ln
  refine ⟨_, rfl, c, C, dx, _, _, rfl, st6.ins, T.cl, T.made, cfs_made, m, us6, rfl, .inl (SqL.of hm6), (by show 2 ≤ sizeLine; decide), fun p7 hp7 => ?_⟩
  have z6 : us6.length = R.length + e.len + 2 + s1.len + 1 := by rw [lu6, List.length_append, l5]; rfl
  rw [z6]
  have st6' := st6.same (Same.new (o := .tup [.str "unless", .int ((R.length + e.len + 2 + s1.len + 1 : Nat) : Int)]) hp7)
  obtain ⟨us7, hm7, ix7, y7⟩ := st6'.pset (k := (((R ++ e.code).length : Nat) : Int)) (by omega) (by simp; omega)
  refine ⟨_, rfl, c, C, dx, _, _, rfl, st6'.ins, T.cl, T.made, cfs_made, _, rfl, m, us7, _, _, rfl, rfl, hm7, ix7, ?_⟩
  have st7 := y7 (.ref p7) (.unless ((R.length + e.len + 2 + s1.len + 1 : Nat) : Int)) (Tp.mk hp7 (.cons (.str _) (.cons (.int _) .nil)))
  replace st7 := st7.lst (R' := (R ++ e.code ++ [Rw.unless ((R.length + e.len + 2 + s1.len + 1 : Nat) : Int), .turn]) ++ s1.code bs D ((R.length : Int), 0, D) ++ [.go R.length]) (by
    rw [show R ++ e.code ++ [Rw.unless 0] ++ [Rw.turn] ++ s1.code bs D ((R.length : Int), 0, D) ++ [Rw.go R.length] = (R ++ e.code) ++ Rw.unless 0 :: ([Rw.turn] ++ s1.code bs D ((R.length : Int), 0, D) ++ [.go R.length]) by simp]
    rw [set_mid (Int.toNat_natCast _).symm]
    simp)
  generalize hH7 : L2.upd (L2.upd H6 p7 _) m (.lst (us7.set _ (.ref p7))) = H7 at st7 ⊢
  have k57 : Kp (fun x => x = m) H5 H7 := by rw [← hH7]; exact k56.trans ((Kp.new hp7).trans (Kp.upd rfl))
  generalize hL7 : (R ++ e.code ++ [Rw.unless ((R.length + e.len + 2 + s1.len + 1 : Nat) : Int), .turn]) ++ s1.code bs D ((R.length : Int), 0, D) ++ [.go R.length] = L7 at st7
  have l7 : L7.length = R.length + e.len + 2 + s1.len + 1 := by rw [← hL7]; simp [Ex.code_len, Sm.code_len]; omega
  obtain ⟨_, hu7, hpl7, um, ut, plm, plt, _⟩ := st7.trn.wh _ rfl
  have hu8 : L2.upd H7 t (.lst (ts ++ [V.ref u]).dropLast) u = some (.lst [.int (R.length : Int), .int D, .ref pl]) := by rw [upd_ne ut]; exact hu7
  have hpl8 : L2.upd H7 t (.lst (ts ++ [V.ref u]).dropLast) pl = some (.lst ((s1.bks bs).map V.int)) := by rw [upd_ne plt]; exact hpl7
  have k38 : Kp (fun x => (x = m ∨ x = t) ∨ x = pl) H3 (L2.upd H7 t (.lst (ts ++ [V.ref u]).dropLast)) :=
    (((k34.mono fun _ z => .inl (.inr z)).trans (k5.mono fun _ z => by
      rcases z with z | z | ⟨x, z, z2⟩
      · exact .inl (.inl z)
      · exact .inl (.inr z)
      · cases z; exact .inr z2)).trans (k57.mono fun _ z => .inl (.inl z))).trans (Kp.upd (.inl (.inr rfl)))
  refine ⟨_, rfl, c, C, dx, _, _, rfl, st7.ins, T.cl, T.turns, cfs_turns, .inl ⟨rfl, _, SqL.of st7.trn.turns⟩, t, ts ++ [.ref u], .ref u, rfl, rfl, st7.trn.turns, by simp, u, _, _, _, rfl, rfl, SqL.of hu8, atI_nat (j := 2) rfl, pl, rfl, ⟨_, SqL.of hpl8⟩,
    for_list (K := K) (a := pl) (xs := (s1.bks bs).map V.int) (fun i σ H' => ∃ (us : List V) (v5 : Option V), σ = [some (.ref c), some (.ref a), some (.int D), some (.int (R.length : Int)), some (.int (((R ++ e.code).length : Nat) : Int)), v5] ∧ H' m = some (.lst us) ∧ us.length = L7.length ∧ TpAll K H' us ((fillAt (.leap L7.length D) ((s1.bks bs).take i) L7).map Rw.d) ∧ Kp (fun a => a = m) (L2.upd H7 t (.lst (ts ++ [V.ref u]).dropLast)) H') ?_ (fun i σ H' _ ⟨_, _, _, _, _, _, k'⟩ => SqL.of (k' _ _ hpl8 plm)) ?_ ?_⟩
  · obtain ⟨us9, hm9, tus9⟩ := st7.made
    refine ⟨us9, none, rfl, by rw [upd_ne st7.trn.tm.symm]; exact hm9, by rw [tus9.length, List.length_map], tus9.mono (Tk.lst st7.trn.turns), Kp.refl _ _⟩
  · rintro i x σ H9 hx ⟨us9, v5, rfl, hm9, lu9, tus9, k9⟩
    rw [List.getElem?_map] at hx
    cases hpi : (s1.bks bs)[i]? with
    | none => rw [hpi] at hx; cases hx
    | some p =>
      rw [hpi] at hx
      obtain rfl : V.int p = x := Option.some.inj hx
      obtain ⟨pb1, pb2⟩ := s1.bks_in bs p (List.mem_of_getElem? hpi)
      have cins : H9 c = some (.ins C dx (cfs m t)) := k9 _ _ (by rw [upd_ne st7.ct]; exact st7.ins) st7.cm
      refine ⟨_, rfl, c, C, dx, _, _, rfl, cins, T.cl, T.made, cfs_made, m, us9, rfl, .inl (SqL.of hm9), _, rfl, (by show 3 ≤ sizeLine; decide), fun p9 hp9 => ?_⟩
      have hm10 : L2.upd H9 p9 (.tup [.str "leap", .int (us9.length : Int), .int D]) m = some (.lst us9) := by rw [upd_ne (ne_of_none hm9 hp9)]; exact hm9
      have ix : ixN us9.length p = some p.toNat := by
        have := ixN_n (n := us9.length) (j := p.toNat) (by omega)
        rwa [Int.toNat_of_nonneg (by omega)] at this
      refine ⟨_, rfl, c, C, dx, _, _, rfl, by rw [upd_ne (ne_of_none cins hp9)]; exact cins, T.cl, T.made, cfs_made, _, rfl, m, us9, _, _, rfl, rfl, hm10, ix, us9.set p.toNat (.ref p9), _, rfl, upd_same, by simp [lu9], ?_, k9.trans ((Kp.new hp9).trans (Kp.upd rfl))⟩
      rw [fillAt_take _ hpi, List.map_set]
      refine (TpAll.set (tus9.mono (Tk.new hp9)) ?_).mono (Tk.lst hm10)
      rw [lu9]
      exact Tp.mk hp9 (.cons (.str _) (.cons (.int _) (.cons (.int _) .nil)))
  · rintro σ H9 ⟨us9, v5, rfl, hm9, lu9, tus9, k9⟩
    rw [List.length_map, List.take_length] at tus9
    have kZ : Kp (fun x => x = m ∨ x = t) H H9 := Kp.narrow (k13.mono fun _ => .inl) hpl (k38.trans (k9.mono fun _ z => .inl (.inl z)))
    have ht9 : H9 t = some (.lst ts) := by
      have z : H9 t = some (.lst (ts ++ [V.ref u]).dropLast) := k9 _ _ upd_same st7.trn.tm
      rw [z]; simp
    have efill : fillAt (.leap L7.length D) (s1.bks bs) L7 = R ++ (Sm.whl e s1).code R.length D (tnW w) := by
      have := Sm.fill (p := (R.length : Int)) (z := (L7.length : Int)) (D0 := D) s1 bs D (R ++ e.code ++ [Rw.unless ((R.length + e.len + 2 + s1.len + 1 : Nat) : Int), .turn]) [.go R.length] (by simp [Ex.code_len]; omega)
      rw [hL7] at this
      rw [this, l7]
      simp [Sm.code, hB]
    rw [efill] at tus9
    refine q H9 ?_ (kZ.mono fun _ z => z.elim .inl fun z => .inr (.inl z))
    rw [show (Sm.whl e s1).bks (R.length : Int) = [] from rfl, addW_nil]
    exact st.back kZ hm9 ht9 tus9 (by simp)
abbrev N_tried : List Str := ["self", "one", "depth", "begin", "end", "leaves", "handler", "place"]
theorem Apart.of {c m t p : Addr} {l : List Int} {w : Option Wh} (a : Apart p c m t (addW l w)) : Apart p c m t w := by
  refine ⟨a.nc, a.nm, a.nt, fun x hx => ?_⟩
  subst hx
  exact a.nw { x with ps := x.ps ++ l } rfl
theorem Apart.nb {c m t p : Addr} {w : Option Wh} (a : Apart p c m t w) : ¬ BW m t w p := by
  rintro (z | z | ⟨x, hx, z⟩)
  · exact a.nm z.symm
  · exact a.nt z.symm
  · exact (a.nw x hx).2 z.symm
theorem rd_tried (T : CoTxt K C) {n : Nat} (vs : List V) (H : Hp) (Q : VK) (E : XK) (h : spLay K C PTri (n + 1) vs H Q E) : t_Coder_tried K C (spLay K C PAny n) (spPut C) { nx := fun _ H' => Q .non H', rt := Q } (start N_tried vs) H := by
  obtain ⟨c, dx, m, t, ts, w, R, v, s, D, cs, nk, hand, rfl, st, ht, wf, hd, hts, hz, ⟨s1, hs, rfl⟩, q⟩ := h.ex
  obtain ⟨a, x0, x1, x2, rfl, hT, h0, h1, h2⟩ := ht.tup3
  obtain ⟨pa, pxs, rfl, hTp, htp⟩ := h2.tupE
  obtain ⟨wa, wh⟩ : s1.Wf cs nk w.isSome hand ∧ hs.Wf cs nk w.isSome := wf
  have hl : R.length + (s1.len + 1 + hs.len) ≤ 100000 := hz
  have hd' : max s1.dep hs.dep + 1 ≤ n + 1 := hd
  obtain ⟨us, hm0, lu0⟩ := st.ln
  refine ⟨_, rfl, c, C, dx, _, _, rfl, st.ins, T.cl, T.made, cfs_made, m, us, rfl, .inl (SqL.of hm0), ?_⟩
  rw [lu0]
  refine rMeth rfl st.ins rfl (rd_ixT (j := 1) rfl hT rfl ⟨_, rfl, pLay (B := (R.length : Int)) st h1 wa (by omega) (by omega) (by omega) trivial rfl fun H1 st1 k1 => ?_⟩)
  have l1 : (R ++ s1.code (R.length : Int) D (tnW w)).length = R.length + s1.len := by simp [Sm.code_len]
  obtain ⟨us1, hm1, lu1⟩ := st1.ln
  refine ⟨_, rfl, c, C, dx, _, _, rfl, st1.ins, T.cl, T.made, cfs_made, m, us1, rfl, .inl (SqL.of hm1), ?_⟩
  have z1 : us1.length = R.length + s1.len := by rw [lu1, l1]
  rw [z1]
  refine rMeth rfl st1.ins rfl ⟨(by show 2 ≤ sizeLine; decide), fun p1 hp1 => pPut (r := .go 0) (st1.same (Same.new hp1)) (Tp.mk hp1 (.cons (.str _) (.cons (.int _) .nil))) (by omega) fun H2 st2 k2 => ⟨(by show 1 ≤ sizeLine; decide), fun p hp => ?_⟩⟩
  have k12 : Kp (BW m t w) H H2 := k1.trans (KpW ((Kp.new hp1).trans k2))
  have ap : Apart p c m t w := (st2.apart hp).of
  have hpH : H p = none := k12.free hp ap.nb
  have st2' := st2.same (Same.new (o := .lst [.int (((R ++ s1.code (R.length : Int) D (tnW w)).length : Nat) : Int)]) hp)
  generalize hH3 : L2.upd H2 p (.lst [.int (((R ++ s1.code (R.length : Int) D (tnW w)).length : Nat) : Int)]) = H3 at st2' ⊢
  have hp3 : H3 p = some (.lst [.int (((R ++ s1.code (R.length : Int) D (tnW w)).length : Nat) : Int)]) := by rw [← hH3]; exact upd_same
  have k13 : Kp (BW m t w) H H3 := by rw [← hH3]; exact k12.trans (Kp.new hp)
  rw [l1] at hp3
  clear hH3
  generalize hL0 : R ++ s1.code (R.length : Int) D (tnW w) ++ [Rw.go 0] = L0 at st2'
  have l0 : L0.length = R.length + s1.len + 1 := by rw [← hL0, List.length_append, l1]; rfl
  -- the invariant
  generalize hG : ((R.length + s1.len : Nat) : Int) = g0 at hp3 ⊢
  have tkH : ∀ {H'}, Kp (BW m t w) H H' → Tk H H' := fun k => st.tk k
  refine rd_ixT (j := 2) rfl ((tkH k13).sqT hT) rfl ⟨pa, rfl, ⟨_, (tkH k13).sqT hTp⟩, for_tup (K := K) (a := pa) (xs := pxs) (fun i σ H' => ∃ (r : Hds) (pre : List Rw) (bk lv : List Int) (v6 : Option V),
      σ = [some (.ref c), some (.ref a), some (.int D), some (.int (R.length : Int)), some (.int g0), some (.ref p), v6, none] ∧ CoSt K C dx H' c m t ts (addW bk w) (L0 ++ pre) ∧ Kp (BW m t w) H H' ∧ H' p = some (.lst (lv.map V.int)) ∧ lv.length ≤ L0.length + pre.length ∧
      TpAll K H (pxs.drop i) r.ds ∧ r.Wf cs nk w.isSome ∧ r.dep ≤ n ∧ pre.length + r.len = hs.len ∧ pre ++ r.code R.length g0 0 (g0 + 1 + pre.length) D (tnW w) = hs.code R.length g0 0 (g0 + 1) D (tnW w) ∧ bk ++ r.bks (g0 + 1 + pre.length) = s1.bks R.length ++ hs.bks (g0 + 1) ∧ lv ++ r.gos (g0 + 1 + pre.length) = g0 :: hs.gos (g0 + 1))
    ⟨hs, [], s1.bks R.length, [g0], none, rfl, st2'.lst (by simp), k13, hp3, by rw [l0]; simp, by rw [List.drop_zero]; exact htp, wh, by omega, by simp, by simp, by simp, by simp⟩ (fun i σ H' _ ⟨_, _, _, _, _, _, _, k', _⟩ => (tkH k').sqT hTp) ?_ ?_⟩
  · rintro i x σ H4 hx ⟨r, pre, bk, lv, v6, rfl, st4, k4, hp4, ll, tr, wr, dr, lr, er, eb, eg⟩
    obtain ⟨k, sl, tt, r', rfl, tx, tr'⟩ := hds_at tr hx
    obtain ⟨y, y0, y1, y2, rfl, hTx, u0, u1, u2⟩ := tx.tup3
    cases u1.intE
    obtain ⟨_, _, wt, wr'⟩ : (∀ j, k = some j → j < nk) ∧ sl < 8 ∧ tt.Wf cs nk w.isSome true ∧ r'.Wf cs nk w.isSome := wr
    have dr2 : max tt.dep r'.dep ≤ n := dr
    have lr2 : pre.length + (2 + tt.len + 2 + r'.len) = hs.len := lr
    refine rMeth rfl st4.ins rfl ⟨_, rfl, _, rfl, rd_ixT (j := 0) rfl ((tkH k4).sqT hTx) rfl ⟨_, rfl, (by show 5 ≤ sizeLine; decide), fun p5 hp5 => pPut (r := .hand R.length g0 k D) (st4.same (Same.new hp5)) (Tp.mk hp5 (.cons (.str _) (.cons (.int _) (.cons (.int _) (.cons (u0.mono (tkH k4)) (.cons (.int _) .nil)))))) (by simp; omega) fun H5 st5 k5 => ?_⟩⟩
    have k05 : Kp (BW m t w) H H5 := k4.trans (KpW ((Kp.new hp5).trans k5))
    refine rMeth rfl st5.ins rfl (rd_ixT (j := 1) rfl ((tkH k05).sqT hTx) rfl ⟨(by show 2 ≤ sizeLine; decide), fun p6 hp6 => pPut (r := .set sl) (st5.same (Same.new hp6)) (Tp.mk hp6 (.cons (.str _) (.cons (.int _) .nil))) (by simp; omega) fun H6 st6 k6 => ?_⟩)
    have k06 : Kp (BW m t w) H H6 := k05.trans (KpW ((Kp.new hp6).trans k6))
    refine rMeth rfl st6.ins rfl (rd_ixT (j := 2) rfl ((tkH k06).sqT hTx) rfl ⟨_, rfl, _, _, rfl, rfl, pLay (B := g0 + 1 + pre.length + 2) st6 (u2.mono (tkH k06)) (by rw [addW_some]; exact wt) (by omega) (by omega) (by simp; omega) trivial (by simp; omega) fun H7 st7 k7 => ?_⟩)
    rw [BW_add] at k7
    rw [tnW_add, addW_app] at st7
    have k07 := k06.trans k7
    refine rMeth rfl st7.ins rfl ⟨(by show 1 ≤ sizeLine; decide), fun p8 hp8 => pPut (r := .settled) (st7.same (Same.new hp8)) (Tp.mk hp8 (.cons (.str _) .nil)) (by simp [Sm.code_len]; omega) fun H8 st8 k8 => ?_⟩
    have k48 : Kp (BW m t w) H4 H8 := (((KpW ((Kp.new hp5).trans k5)).trans (KpW ((Kp.new hp6).trans k6))).trans k7).trans (KpW ((Kp.new hp8).trans k8))
    have hp8' := k48 _ _ hp4 ap.nb
    refine ⟨_, rfl, .inl ⟨rfl, _, SqL.of hp8'⟩, rMeth rfl st8.ins rfl ⟨(by show 2 ≤ sizeLine; decide), fun p9 hp9 => pPut (r := .go 0) (st8.same (Same.new hp9)) (Tp.mk hp9 (.cons (.str _) (.cons (.int _) .nil))) (by simp [Sm.code_len]; omega) fun H9 st9 k9 => ?_⟩⟩
    have k89 : Kp (BW m t w) H8 H9 := KpW ((Kp.new hp9).trans k9)
    have hp9' := k89 _ _ hp8' ap.nb
    refine ⟨p, _, _, rfl, rfl, hp9', sz_lt1 (by simp; omega), r', pre ++ ([.hand R.length g0 k D, .set sl] ++ tt.code (g0 + 1 + pre.length + 2) (D + 1) (tnW w) ++ [.settled, .go 0]), bk ++ tt.bks (g0 + 1 + pre.length + 2), lv ++ [g0 + 1 + pre.length + 2 + tt.len + 1], _, rfl, ?_, ?_, ?_, ?_, tr', wr', by omega, ?_, ?_, ?_, ?_⟩
    · exact (st9.other hp9' ap.add).lst (by simp)
    · exact ((k4.trans k48).trans k89).late hpH
    · rw [upd_same, List.map_append]
      have : ((((L0 ++ pre ++ [Rw.hand R.length g0 k D] ++ [Rw.set sl] ++ tt.code (g0 + 1 + pre.length + 2) (D + 1) (tnW w) ++ [Rw.settled]).length : Nat)) : Int) = g0 + 1 + pre.length + 2 + tt.len + 1 := by simp [Sm.code_len]; omega
      rw [this]; rfl
    · simp [Sm.code_len]; omega
    · simp [Sm.code_len]; omega
    · have e9 : g0 + 1 + ((pre ++ ([Rw.hand R.length g0 k D, .set sl] ++ tt.code (g0 + 1 + pre.length + 2) (D + 1) (tnW w) ++ [Rw.settled, Rw.go 0])).length : Int) = g0 + 1 + pre.length + 2 + tt.len + 2 := by simp [Sm.code_len]; omega
      rw [e9, ← er]
      simp [Hds.code]
    · have e9 : g0 + 1 + ((pre ++ ([Rw.hand R.length g0 k D, .set sl] ++ tt.code (g0 + 1 + pre.length + 2) (D + 1) (tnW w) ++ [Rw.settled, Rw.go 0])).length : Int) = g0 + 1 + pre.length + 2 + tt.len + 2 := by simp [Sm.code_len]; omega
      rw [e9, ← eb]
      simp [Hds.bks]
    · have e9 : g0 + 1 + ((pre ++ ([Rw.hand R.length g0 k D, .set sl] ++ tt.code (g0 + 1 + pre.length + 2) (D + 1) (tnW w) ++ [Rw.settled, Rw.go 0])).length : Int) = g0 + 1 + pre.length + 2 + tt.len + 2 := by simp [Sm.code_len]; omega
      rw [e9, ← eg]
      simp [Hds.gos]
  · rintro σ H4 ⟨r, pre, bk, lv, v6, rfl, st4, k4, hp4, ll, tr, wr, dr, lr, er, eb, eg⟩
    cases hds_end tr
    obtain rfl : pre = hs.code R.length g0 0 (g0 + 1) D (tnW w) := by simpa [Hds.code] using er
    obtain rfl : bk = s1.bks R.length ++ hs.bks (g0 + 1) := by simpa [Hds.bks] using eb
    obtain rfl : lv = g0 :: hs.gos (g0 + 1) := by simpa [Hds.gos] using eg
    generalize hL7 : L0 ++ hs.code R.length g0 0 (g0 + 1) D (tnW w) = L7 at st4
    have l7 : L7.length = R.length + s1.len + 1 + hs.len := by rw [← hL7, List.length_append, l0, Hds.code_len]
    refine ⟨_, rfl, p, rfl, ⟨_, SqL.of hp4⟩, for_list (K := K) (a := p) (xs := (g0 :: hs.gos (g0 + 1)).map V.int) (fun i σ H' => ∃ (v7 : Option V), σ = [some (.ref c), some (.ref a), some (.int D), some (.int (R.length : Int)), some (.int g0), some (.ref p), v6, v7] ∧ CoSt K C dx H' c m t ts (addW (s1.bks R.length ++ hs.bks (g0 + 1)) w) (fillAt (.go L7.length) ((g0 :: hs.gos (g0 + 1)).take i) L7) ∧ Kp (BW m t w) H H' ∧ H' p = some (.lst ((g0 :: hs.gos (g0 + 1)).map V.int)))
      ⟨none, rfl, st4, k4, hp4⟩ (fun i σ H' _ ⟨_, _, _, _, h'⟩ => SqL.of h') ?_ ?_⟩
    · rintro i x σ H9 hx ⟨v7, rfl, st9, k9, hp9⟩
      rw [List.getElem?_map] at hx
      cases hpi : (g0 :: hs.gos (g0 + 1))[i]? with
      | none => rw [hpi] at hx; cases hx
      | some q0 =>
        rw [hpi] at hx
        obtain rfl : V.int q0 = x := Option.some.inj hx
        have pb : 0 ≤ q0 ∧ q0 < L7.length := by
          rcases List.mem_cons.mp (List.mem_of_getElem? hpi) with z | z
          · omega
          · have := hs.gos_in (g0 + 1) q0 z
            omega
        obtain ⟨us9, hm9, lu9⟩ := st9.ln
        refine ⟨_, rfl, c, C, dx, _, _, rfl, st9.ins, T.cl, T.made, cfs_made, m, us9, rfl, .inl (SqL.of hm9), (by show 2 ≤ sizeLine; decide), fun p10 hp10 => ?_⟩
        rw [lu9, fillAt_length]
        have st10 := st9.same (Same.new (o := .tup [.str "go", .int (L7.length : Int)]) hp10)
        obtain ⟨us10, hm10, ix10, y10⟩ := st10.pset (k := q0) pb.1 (by rw [fillAt_length]; exact pb.2)
        refine ⟨_, rfl, c, C, dx, _, _, rfl, st10.ins, T.cl, T.made, cfs_made, _, rfl, m, us10, _, _, rfl, rfl, hm10, ix10, _, rfl, ?_, k9.trans ((Kp.new hp10).trans (Kp.upd (.inl rfl))), ?_⟩
        · rw [fillAt_take _ hpi]
          exact y10 _ _ (Tp.mk hp10 (.cons (.str _) (.cons (.int _) .nil)))
        · rw [upd_ne ap.nm.symm, upd_ne (ne_of_none hp9 hp10)]; exact hp9
    · rintro σ H9 ⟨v7, rfl, st9, k9, hp9⟩
      rw [List.length_map, List.take_length] at st9
      have efill : fillAt (.go L7.length) (g0 :: hs.gos (g0 + 1)) L7 = R ++ (Sm.tri s1 hs).code R.length D (tnW w) := by
        have e1 : L7 = (R ++ s1.code (R.length : Int) D (tnW w)) ++ Rw.go 0 :: hs.code R.length g0 0 (g0 + 1) D (tnW w) := by rw [← hL7, ← hL0]; simp
        have e2 : L7.set g0.toNat (.go L7.length) = (R ++ s1.code (R.length : Int) D (tnW w) ++ [Rw.go L7.length]) ++ hs.code R.length g0 0 (g0 + 1) D (tnW w) ++ [] := by
          generalize (L7.length : Int) = z
          rw [e1, set_mid (by rw [l1]; omega)]; simp
        show fillAt (.go L7.length) (hs.gos (g0 + 1)) (L7.set g0.toNat (.go L7.length)) = _
        rw [e2, Hds.fillG hs (g0 + 1) _ [] (by simp [Sm.code_len]; omega)]
        rw [l7, ← hG]
        simp [Sm.code]
      rw [efill] at st9
      refine q H9 ?_ k9
      rw [← hG] at st9
      exact st9
end
end Lp

/-! L4f: the program's coding: lay, table_of, coded. -/
namespace Lp
open PySem PySem.Spec PyProof.Rows L2
def t_Coder_lay (K : PySem.W.Frag) (C_Coder : Addr) (sp_Coder_lay : Sp) (sp_Coder_choice : Sp) (sp_Coder_loop : Sp) (sp_Coder_tried : Sp) (sp_Coder_cleaned : Sp) (sp_Coder_put : Sp) (sp_Coder_plain : Sp) : TS :=
  tSeq (tAsg (tOp (rIxT K) (tVar 1) (tC (.int 0))) (gName 3)) (tIfS (tTest (tOp rEq (tVar 3) (tC (.str "row")))) (tFor (iTup K (tOp (rIxT K) (tVar 1) (tC (.int 1)))) (gName 4) (tDrop (tMeth C_Coder "lay" sp_Coder_lay [] E0 (tVar 0) (tCons (tVar 4) (tCons (tVar 2) (tNil)))))) (tIfS (tTest (tOp rEq (tVar 3) (tC (.str "if")))) (tDrop (tMeth C_Coder "choice" sp_Coder_choice [] E0 (tVar 0) (tCons (tVar 1) (tCons (tVar 2) (tNil))))) (tIfS (tTest (tOp rEq (tVar 3) (tC (.str "while")))) (tDrop (tMeth C_Coder "loop" sp_Coder_loop [] E0 (tVar 0) (tCons (tVar 1) (tCons (tVar 2) (tNil))))) (tIfS (tTest (tOp rEq (tVar 3) (tC (.str "try")))) (tDrop (tMeth C_Coder "tried" sp_Coder_tried [] E0 (tVar 0) (tCons (tVar 1) (tCons (tVar 2) (tNil))))) (tIfS (tTest (tOp rEq (tVar 3) (tC (.str "clean")))) (tDrop (tMeth C_Coder "cleaned" sp_Coder_cleaned [] E0 (tVar 0) (tCons (tVar 1) (tCons (tVar 2) (tNil))))) (tIfS (tTest (tOp rEq (tVar 3) (tC (.str "break")))) (tDrop (tBM K "list" rAppend (tOp (rIxL K) (tOp (rIxL K) (tFld K (tVar 0) "turns") (tUn rNeg (tC (.int 1)))) (tC (.int 2))) (tCons (tMeth C_Coder "put" sp_Coder_put [] E0 (tVar 0) (tCons (tTup (tCons (tC (.str "leap")) (tCons (tC (.int 0)) (tCons (tOp (rIxL K) (tOp (rIxL K) (tFld K (tVar 0) "turns") (tUn rNeg (tC (.int 1)))) (tC (.int 1))) (tNil))))) (tNil))) (tNil)))) (tIfS (tTest (tOp rEq (tVar 3) (tC (.str "continue")))) (tDrop (tMeth C_Coder "put" sp_Coder_put [] E0 (tVar 0) (tCons (tTup (tCons (tC (.str "leap")) (tCons (tOp (rIxL K) (tOp (rIxL K) (tFld K (tVar 0) "turns") (tUn rNeg (tC (.int 1)))) (tC (.int 0))) (tCons (tOp (rIxL K) (tOp (rIxL K) (tFld K (tVar 0) "turns") (tUn rNeg (tC (.int 1)))) (tC (.int 1))) (tNil))))) (tNil)))) (tDrop (tMeth C_Coder "plain" sp_Coder_plain [] E0 (tVar 0) (tCons (tVar 1) (tNil)))))))))))

def t_table_of (K : PySem.W.Frag) : TS :=
  tSeq (tAsg (tLst (tNil)) (gName 1)) (tSeq (tFor (iEnT K (tCons (tVar 0) (tNil))) (gTup K 2 (gCons (gName 2) (gCons (gName 3) gNil))) (tSeq (tIfS (tTest (tOp rEq (tOp (rIxT K) (tVar 3) (tC (.int 0))) (tC (.str "handler")))) (tDrop (tBM K "list" rAppend (tVar 1) (tCons (tTup (tCons (tOp (rIxT K) (tVar 3) (tC (.int 1))) (tCons (tOp (rIxT K) (tVar 3) (tC (.int 2))) (tCons (tC (.str "handler")) (tCons (tOp (rIxT K) (tVar 3) (tC (.int 3))) (tCons (tVar 2) (tCons (tOp (rIxT K) (tVar 3) (tC (.int 4))) (tNil)))))))) (tNil)))) (tNext)) (tIfS (tTest (tOp rEq (tOp (rIxT K) (tVar 3) (tC (.int 0))) (tC (.str "cleanup")))) (tDrop (tBM K "list" rAppend (tVar 1) (tCons (tTup (tCons (tOp (rIxT K) (tVar 3) (tC (.int 1))) (tCons (tOp (rIxT K) (tVar 3) (tC (.int 2))) (tCons (tC (.str "cleanup")) (tCons (tC .non) (tCons (tVar 2) (tCons (tOp (rIxT K) (tVar 3) (tC (.int 3))) (tNil)))))))) (tNil)))) (tNext)))) (tRet (tCB (rTupOf K) (tCons (tVar 1) (tNil)))))

def t_coded (K : PySem.W.Frag) (C_Coder : Addr) (sp_Coder_init : Sp) (sp_Coder_lay : Sp) (sp_Coder_put : Sp) (sp_table_of : Sp) : TS :=
  tSeq (tAsg (tLst (tNil)) (gName 1)) (tSeq (tFor (iTup K (tOp (rIxT K) (tVar 0) (tC (.int 1)))) (gName 2) (tSeq (tAsg (tMake C_Coder sp_Coder_init [] E0 tNil) (gName 3)) (tSeq (tDrop (tMeth C_Coder "lay" sp_Coder_lay [] E0 (tVar 3) (tCons (tOp (rIxT K) (tVar 2) (tC (.int 1))) (tCons (tC (.int 0)) (tNil))))) (tSeq (tDrop (tMeth C_Coder "put" sp_Coder_put [] E0 (tVar 3) (tCons (tTup (tCons (tC (.str "num")) (tCons (tC (.int 0)) (tNil)))) (tNil)))) (tSeq (tDrop (tMeth C_Coder "put" sp_Coder_put [] E0 (tVar 3) (tCons (tTup (tCons (tC (.str "return")) (tNil))) (tNil)))) (tSeq (tAsg (tCB (rTupOf K) (tCons (tFld K (tVar 3) "made") (tNil))) (gName 4)) (tDrop (tBM K "list" rAppend (tVar 1) (tCons (tTup (tCons (tOp (rIxT K) (tVar 2) (tC (.int 0))) (tCons (tVar 4) (tCons (tCall sp_table_of [] E0 (tCons (tVar 4) (tNil))) (tNil))))) (tNil)))))))))) (tRet (tCB (rTupOf K) (tCons (tVar 1) (tNil)))))

section
variable {K : PySem.W.Frag} {C : Addr}
abbrev N_lay : List Str := ["self", "one", "depth", "word", "part"]
theorem rd_lay (T : CoTxt K C) {n : Nat} (vs : List V) (H : Hp) (Q : VK) (E : XK) (h : spLay K C PAny (n + 1) vs H Q E) : t_Coder_lay K C (spLay K C PAny n) (spLay K C PIf (n + 1)) (spLay K C PWhl (n + 1)) (spLay K C PTri (n + 1)) (spLay K C PCln (n + 1)) (spPut C) (spPlain K C) { nx := fun _ H' => Q .non H', rt := Q } (start N_lay vs) H := by
  obtain ⟨c, dx, m, t, ts, w, R, v, s, D, cs, nk, hand, rfl, st, ht, wf, hd, hts, hz, _, q⟩ := h.ex
  have word : ∀ (a : Addr) (xs : List V) (z : Str), v = .ref a → SqT K H a xs → xs[0]? = some (.str z) → (V.str z ≠ .str "row" ∧ V.str z ≠ .str "if" ∧ V.str z ≠ .str "while" ∧ V.str z ≠ .str "try" ∧ V.str z ≠ .str "clean" ∧ V.str z ≠ .str "break" ∧ V.str z ≠ .str "continue") → s.plain = true → s ≠ .brk → s ≠ .cnt → s.bks R.length = [] → s.code R.length D (tnW w) = s.code 0 0 (0, 0, 0) →
      t_Coder_lay K C (spLay K C PAny n) (spLay K C PIf (n + 1)) (spLay K C PWhl (n + 1)) (spLay K C PTri (n + 1)) (spLay K C PCln (n + 1)) (spPut C) (spPlain K C) { nx := fun _ H' => Q .non H', rt := Q } (start N_lay [.ref c, v, .int D]) H := by
    rintro a xs z rfl hT hw ⟨n1, n2, n3, n4, n5, n6, n7⟩ pl nb nc eb ec
    refine rd_ixT (j := 0) rfl hT hw (r_ifF (pb_is (pb_eqS rfl) (dF n1)) (r_ifF (pb_is (pb_eqS rfl) (dF n2)) (r_ifF (pb_is (pb_eqS rfl) (dF n3)) (r_ifF (pb_is (pb_eqS rfl) (dF n4)) (r_ifF (pb_is (pb_eqS rfl) (dF n5)) (r_ifF (pb_is (pb_eqS rfl) (dF n6)) (r_ifF (pb_is (pb_eqS rfl) (dF n7)) ?_)))))))
    refine rMeth rfl st.ins rfl ⟨_, rfl, ⟨⟨c, dx, m, t, ts, w, R, _, s, cs, nk, w.isSome, hand, rfl, st, ht, wf, pl, nb, nc, hz, fun H' st' k' => ?_⟩⟩⟩
    refine q H' ?_ (KpW k')
    rw [eb, addW_nil, ec]
    exact st'
  cases s with
  | say e =>
    obtain ⟨a, x0, x1, rfl, hT, h0, h1⟩ := id ht.tup2
    cases h0.strE
    exact word a _ "say" rfl hT rfl (by decide) rfl (by simp) (by simp) rfl rfl
  | set k e =>
    obtain ⟨a, x0, x1, x2, rfl, hT, h0, h1, h2⟩ := id ht.tup3
    cases h0.strE
    exact word a _ "set" rfl hT rfl (by decide) rfl (by simp) (by simp) rfl rfl
  | again =>
    obtain ⟨a, x0, rfl, hT, h0⟩ := id ht.tup1
    cases h0.strE
    exact word a _ "again" rfl hT rfl (by decide) rfl (by simp) (by simp) rfl rfl
  | ret e =>
    obtain ⟨a, x0, x1, rfl, hT, h0, h1⟩ := id ht.tup2
    cases h0.strE
    exact word a _ "return" rfl hT rfl (by decide) rfl (by simp) (by simp) rfl rfl
  | call k f ps m =>
    obtain ⟨a, x0, x1, x2, x3, x4, rfl, hT, h0, h1, h2, h3, h4⟩ := id ht.tup5
    cases h0.strE
    exact word a _ "call" rfl hT rfl (by decide) rfl (by simp) (by simp) rfl rfl
  | rais kd e m =>
    obtain ⟨a, x0, x1, x2, x3, rfl, hT, h0, h1, h2, h3⟩ := id ht.tup4
    cases h0.strE
    exact word a _ "raise" rfl hT rfl (by decide) rfl (by simp) (by simp) rfl rfl
  | brk =>
    obtain ⟨a, x0, rfl, hT, h0⟩ := id ht.tup1
    cases h0.strE
    have wt : w.isSome = true := wf
    have hl : R.length + 1 ≤ 100000 := hz
    cases w with
    | none => cases wt
    | some x =>
      obtain ⟨_, _, hpl, _, _, plm, plt, _⟩ := st.trn.wh x rfl
      refine rd_ixT (j := 0) rfl hT rfl (r_ifF (pb_is (pb_eqS rfl) rfl) (r_ifF (pb_is (pb_eqS rfl) rfl) (r_ifF (pb_is (pb_eqS rfl) rfl) (r_ifF (pb_is (pb_eqS rfl) rfl) (r_ifF (pb_is (pb_eqS rfl) rfl) (r_ifT (pb_is (pb_eqS rfl) rfl) ?_))))))
      refine pTurn (j := 2) T st rfl rfl ⟨.inl ⟨rfl, _, SqL.of hpl⟩, rMeth rfl st.ins rfl (pTurn (j := 1) T st rfl rfl ⟨(by show 3 ≤ sizeLine; decide), fun p1 hp1 => pPut (r := .leap 0 x.D) (st.same (Same.new hp1)) (Tp.mk hp1 (.cons (.str _) (.cons (.int _) (.cons (.int _) .nil)))) (by omega) fun H2 st2 k2 => ?_⟩)⟩
      have lps := st.psl x rfl
      obtain ⟨hr, hu2, hpl2, um, ut, _, _, plu⟩ := st2.trn.wh x rfl
      refine ⟨x.pl, _, _, rfl, rfl, hpl2, sz_lt1 (by simp; omega), ?_⟩
      obtain ⟨us2, hm2, tus2⟩ := st2.made
      refine q _ ⟨by rw [upd_ne (ne_of st2.ins hpl2 (by intro z; cases z))]; exact st2.ins, ⟨us2, by rw [upd_ne plm.symm]; exact hm2, tus2.mono (Tk.lst hpl2)⟩, ⟨by rw [upd_ne plt.symm]; exact st2.trn.turns, st2.trn.tm, fun y hy => ?_⟩, fun y hy => ?_⟩ ((KpW ((Kp.new hp1).trans k2)).trans (Kp.upd (.inr (.inr ⟨x, rfl, rfl⟩))))
      · cases hy
        refine ⟨hr, by rw [upd_ne plu.symm]; exact hu2, ?_, um, ut, plm, plt, plu⟩
        rw [upd_same, List.map_append]; rfl
      · cases hy
        simp [Sm.bks, Sm.code]; omega
  | cnt =>
    obtain ⟨a, x0, rfl, hT, h0⟩ := id ht.tup1
    cases h0.strE
    have wt : w.isSome = true := wf
    have hl : R.length + 1 ≤ 100000 := hz
    cases w with
    | none => cases wt
    | some x =>
      refine rd_ixT (j := 0) rfl hT rfl (r_ifF (pb_is (pb_eqS rfl) rfl) (r_ifF (pb_is (pb_eqS rfl) rfl) (r_ifF (pb_is (pb_eqS rfl) rfl) (r_ifF (pb_is (pb_eqS rfl) rfl) (r_ifF (pb_is (pb_eqS rfl) rfl) (r_ifF (pb_is (pb_eqS rfl) rfl) (r_ifT (pb_is (pb_eqS rfl) rfl) ?_)))))))
      refine rMeth rfl st.ins rfl (pTurn (j := 0) T st rfl rfl (pTurn (j := 1) T st rfl rfl ⟨(by show 3 ≤ sizeLine; decide), fun p1 hp1 => pPut (r := .leap x.top x.D) (st.same (Same.new hp1)) (Tp.mk hp1 (.cons (.str _) (.cons (.int _) (.cons (.int _) .nil)))) (by omega) fun H2 st2 k2 => ?_⟩))
      refine q H2 ?_ (KpW ((Kp.new hp1).trans k2))
      rw [show (Sm.cnt).bks (R.length : Int) = [] from rfl, addW_nil]
      exact st2
  | ife e s1 s2 =>
    obtain ⟨a, x0, x1, x2, x3, rfl, hT, h0, h1, h2, h3⟩ := id ht.tup4
    cases h0.strE
    refine rd_ixT (j := 0) rfl hT rfl (r_ifF (pb_is (pb_eqS rfl) rfl) (r_ifT (pb_is (pb_eqS rfl) rfl) ?_))
    exact rMeth rfl st.ins rfl ⟨_, rfl, _, rfl, pLay st ht wf hd hts hz ⟨_, _, _, rfl⟩ rfl q⟩
  | whl e s1 =>
    obtain ⟨a, x0, x1, x2, rfl, hT, h0, h1, h2⟩ := id ht.tup3
    cases h0.strE
    refine rd_ixT (j := 0) rfl hT rfl (r_ifF (pb_is (pb_eqS rfl) rfl) (r_ifF (pb_is (pb_eqS rfl) rfl) (r_ifT (pb_is (pb_eqS rfl) rfl) ?_)))
    exact rMeth rfl st.ins rfl ⟨_, rfl, _, rfl, pLay st ht wf hd hts hz ⟨_, _, rfl⟩ rfl q⟩
  | tri s1 hs =>
    obtain ⟨a, x0, x1, x2, rfl, hT, h0, h1, h2⟩ := id ht.tup3
    cases h0.strE
    refine rd_ixT (j := 0) rfl hT rfl (r_ifF (pb_is (pb_eqS rfl) rfl) (r_ifF (pb_is (pb_eqS rfl) rfl) (r_ifF (pb_is (pb_eqS rfl) rfl) (r_ifT (pb_is (pb_eqS rfl) rfl) ?_))))
    exact rMeth rfl st.ins rfl ⟨_, rfl, _, rfl, pLay st ht wf hd hts hz ⟨_, _, rfl⟩ rfl q⟩
  | cln s1 s2 =>
    obtain ⟨a, x0, x1, x2, rfl, hT, h0, h1, h2⟩ := id ht.tup3
    cases h0.strE
    refine rd_ixT (j := 0) rfl hT rfl (r_ifF (pb_is (pb_eqS rfl) rfl) (r_ifF (pb_is (pb_eqS rfl) rfl) (r_ifF (pb_is (pb_eqS rfl) rfl) (r_ifF (pb_is (pb_eqS rfl) rfl) (r_ifT (pb_is (pb_eqS rfl) rfl) ?_)))))
    exact rMeth rfl st.ins rfl ⟨_, rfl, _, rfl, pLay st ht wf hd hts hz ⟨_, _, rfl⟩ rfl q⟩
  | row ps =>
    obtain ⟨a, x0, x1, rfl, hT, h0, h1⟩ := id ht.tup2
    cases h0.strE
    obtain ⟨pa, pxs, rfl, hTp, htp⟩ := h1.tupE
    have ws : ps.Wf cs nk w.isSome hand := wf
    have hd' : ps.dep + 1 ≤ n + 1 := hd
    have hl : R.length + ps.len ≤ 100000 := hz
    refine rd_ixT (j := 0) rfl hT rfl (r_ifT (pb_is (pb_eqS rfl) rfl) ?_)
    refine rd_ixT (j := 1) rfl hT rfl ⟨pa, rfl, ⟨_, hTp⟩, for_tup (K := K) (a := pa) (xs := pxs) (fun i σ H' => ∃ (r : Sms) (pre : List Rw) (bk : List Int) (v4 : Option V),
        σ = [some (.ref c), some (.ref a), some (.int D), some (.str "row"), v4] ∧ CoSt K C dx H' c m t ts (addW bk w) (R ++ pre) ∧ Kp (BW m t w) H H' ∧ TpAll K H (pxs.drop i) r.ds ∧ r.Wf cs nk w.isSome hand ∧ r.dep ≤ n ∧ pre.length + r.len = ps.len ∧ pre ++ r.code ((R.length : Int) + pre.length) D (tnW w) = ps.code R.length D (tnW w) ∧ bk ++ r.bks ((R.length : Int) + pre.length) = ps.bks R.length)
      ⟨ps, [], [], none, rfl, by rw [addW_nil]; exact st.lst (by simp), Kp.refl _ _, by rw [List.drop_zero]; exact htp, ws, by omega, by simp, by simp, by simp⟩ (fun i σ H' _ ⟨_, _, _, _, _, _, k', _⟩ => (st.tk k').sqT hTp) ?_ ?_⟩
    · rintro i x σ H4 hx ⟨r, pre, bk, v4, rfl, st4, k4, tr, wr, dr, lr, er, eb⟩
      obtain ⟨s1, r', rfl, tx, tr'⟩ := sms_at tr hx
      obtain ⟨w1, w2⟩ : s1.Wf cs nk w.isSome hand ∧ r'.Wf cs nk w.isSome hand := wr
      have dr2 : max s1.dep r'.dep ≤ n := dr
      have lr2 : pre.length + (s1.len + r'.len) = ps.len := lr
      refine rMeth rfl st4.ins rfl ⟨_, rfl, _, rfl, pLay (B := (R.length : Int) + pre.length) st4 (tx.mono (st.tk k4)) (by rw [addW_some]; exact w1) (by omega) (by omega) (by simp; omega) trivial (by simp) fun H5 st5 k5 => ?_⟩
      rw [BW_add] at k5
      rw [tnW_add, addW_app] at st5
      have e9 : (R.length : Int) + ((pre ++ s1.code ((R.length : Int) + pre.length) D (tnW w)).length : Int) = (R.length : Int) + pre.length + s1.len := by simp [Sm.code_len]; omega
      refine ⟨r', pre ++ s1.code ((R.length : Int) + pre.length) D (tnW w), bk ++ s1.bks ((R.length : Int) + pre.length), _, rfl, st5.lst (by simp), k4.trans k5, tr', w2, by omega, by simp [Sm.code_len]; omega, ?_, ?_⟩
      · rw [e9, ← er]; simp [Sms.code]
      · rw [e9, ← eb]; simp [Sms.bks]
    · rintro σ H4 ⟨r, pre, bk, v4, rfl, st4, k4, tr, wr, dr, lr, er, eb⟩
      cases sms_end tr
      obtain rfl : pre = ps.code R.length D (tnW w) := by simpa [Sms.code] using er
      obtain rfl : bk = ps.bks R.length := by simpa [Sms.bks] using eb
      exact q H4 st4 k4
abbrev N_table_of : List Str := ["rows", "found", "place", "row"]
theorem rd_table_of (vs : List V) (H : Hp) (Q : VK) (E : XK) (h : spTable (K := K) vs H Q E) : t_table_of K { nx := fun _ H' => Q .non H', rt := Q } (start N_table_of vs) H := by
  obtain ⟨v, rows, rfl, ht, hz, q⟩ := h
  obtain ⟨a, xs, rfl, hT, hts⟩ := ht.tupE
  have lx : xs.length = rows.length := by rw [hts.length, List.length_map]
  refine ⟨(by show 0 ≤ sizeLine; decide), fun p hp => ?_⟩
  have s0 : Same H (L2.upd H p (.lst [])) := Same.new hp
  refine ⟨_, rfl, a, xs, rfl, s0.sqT hT, for_enT (K := K) (a := a) (xs := xs) (fun i σ H' => ∃ (tv : List V) (v2 v3 : Option V), σ = [some (.ref a), some (.ref p), v2, v3] ∧ Same H H' ∧ H' p = some (.lst tv) ∧ TpAll K H' tv ((tabAt 0 (rows.take i)).map Tb.d))
    ⟨[], none, none, rfl, s0, upd_same, by simp [tabAt]; exact .nil⟩ (fun i σ H' _ ⟨_, _, _, _, s', _⟩ => s'.sqT hT) ?_ ?_⟩
  · rintro i x σ H0 T hx ⟨tv, v2, v3, rfl, s00, hp0, tt0⟩ hTn
    have hi1 : i < xs.length := (List.getElem?_eq_some_iff.mp hx).1
    have hi2 : i < rows.length := by omega
    have er : rows[i]? = some rows[i] := List.getElem?_eq_getElem hi2
    have ed : (rows.map Rw.d)[i]? = some (rows[i]).d := by rw [List.getElem?_map, er]; rfl
    obtain ⟨x', hx', tx⟩ := hts.get' ed
    obtain rfl : x' = x := by rw [hx] at hx'; exact (Option.some.inj hx').symm
    refine ⟨T, _, rfl, SqT.of upd_same, rfl, _, _, rfl, _, _, rfl, rfl, ?_⟩
    have sT : Same H0 (L2.upd H0 T (.tup [.int (i : Int), x'])) := Same.new hTn
    generalize L2.upd H0 T (.tup [.int (i : Int), x']) = H1 at sT ⊢
    have s1 := s00.trans sT
    have hp1 := sT _ _ hp0
    have tt := tt0.mono (Tk.same sT)
    have tx1 := tx.mono (Tk.same s1)
    have etk := tab_take er
    have ltv : tv.length < 1000000 := by
      have h1 := tt.length
      rw [List.length_map] at h1
      have h2 := tabAt_len (rows.take i) 0
      rw [List.length_take] at h2
      omega
    have fin : ∀ (t : Tb) (ws : List V) (ds : List PyData), tbOf (i : Int) rows[i] = [t] → t.d = .tuple ds → ∀ (H2 : Hp), Same H1 H2 → TpAll K H2 ws ds → ∀ p2, H2 p2 = none → H2 p = some (.lst tv) → ∃ (tv' : List V) (v2 v3 : Option V), [some (V.ref a), some (.ref p), some (.int (i : Int)), some x'] = [some (.ref a), some (.ref p), v2, v3] ∧ Same H (L2.upd (L2.upd H2 p2 (.tup ws)) p (.lst (tv ++ [.ref p2]))) ∧
        (L2.upd (L2.upd H2 p2 (.tup ws)) p (.lst (tv ++ [.ref p2]))) p = some (.lst tv') ∧ TpAll K (L2.upd (L2.upd H2 p2 (.tup ws)) p (.lst (tv ++ [.ref p2]))) tv' ((tabAt 0 (rows.take (i + 1))).map Tb.d) := by
      intro t ws ds et ed2 H2 s2 tw p2 hp2 hpp
      have s3 : Same H1 (L2.upd H2 p2 (.tup ws)) := s2.trans (Same.new hp2)
      refine ⟨tv ++ [.ref p2], _, _, rfl, fun b u e => by rw [upd_ne (ne_of_none e hp)]; exact s3 b u (s1 b u e), upd_same, ?_⟩
      rw [etk, et, List.map_append]
      have : Tp K (L2.upd H2 p2 (.tup ws)) (.ref p2) t.d := by rw [ed2]; exact Tp.mk hp2 tw
      exact ((tt.mono (Tk.same s3)).snoc this).mono (Tk.lst (by rw [upd_ne (ne_of_none hpp hp2)]; exact hpp))
    rcases row_word rows[i] with ⟨b, y, k, D, e⟩ | ⟨b, y, D, e⟩ | ⟨enil, w, ds, e, n1, n2⟩
    · rw [e] at tx1
      obtain ⟨ax, y0, y1, y2, y3, y4, rfl, hTx, k0, k1, k2, k3, k4⟩ := tx1.tup5
      cases k0.strE; cases k1.intE; cases k2.intE; cases k4.intE
      refine rd_ixT (j := 0) rfl hTx rfl ⟨rfl, _, rfl, ifT rfl ?_⟩
      refine ⟨_, rfl, .inl ⟨rfl, _, SqL.of hp1⟩, rd_ixT (j := 1) rfl hTx rfl (rd_ixT (j := 2) rfl hTx rfl (rd_ixT (j := 3) rfl hTx rfl ⟨_, rfl, rd_ixT (j := 4) rfl hTx rfl ⟨(by show 6 ≤ sizeLine; decide), fun p2 hp2 => ?_⟩⟩))⟩
      have pp : L2.upd H1 p2 (.tup [.int b, .int y, .str "handler", y3, .int (i : Int), .int D]) p = some (.lst tv) := by rw [upd_ne (ne_of_none hp1 hp2)]; exact hp1
      refine ⟨p, tv, _, rfl, rfl, pp, sz_lt1 ltv, ?_⟩
      obtain ⟨tv', w2, w3, z1, z2, z3, z4⟩ := fin ⟨b, y, some k, i, D⟩ [.int b, .int y, .str "handler", y3, .int (i : Int), .int D] _ (by rw [e]; rfl) rfl H1 (Same.refl _) (.cons (.int _) (.cons (.int _) (.cons (.str _) (.cons k3 (.cons (.int _) (.cons (.int _) .nil)))))) p2 hp2 hp1
      -- the second look: not a cleanup
      refine rd_ixT (j := 0) rfl (Tk.sqT (Tk.trans (Tk.new hp2) (Tk.lst pp)) hTx) rfl ⟨rfl, _, rfl, ifF rfl ?_⟩
      exact ⟨tv', w2, w3, z1, z2, z3, z4⟩
    · rw [e] at tx1
      obtain ⟨ax, y0, y1, y2, y3, rfl, hTx, k0, k1, k2, k3⟩ := tx1.tup4
      cases k0.strE; cases k1.intE; cases k2.intE; cases k3.intE
      refine rd_ixT (j := 0) rfl hTx rfl ⟨rfl, _, rfl, ifF rfl ?_⟩
      refine rd_ixT (j := 0) rfl hTx rfl ⟨rfl, _, rfl, ifT rfl ?_⟩
      refine ⟨_, rfl, .inl ⟨rfl, _, SqL.of hp1⟩, rd_ixT (j := 1) rfl hTx rfl (rd_ixT (j := 2) rfl hTx rfl ⟨_, rfl, rd_ixT (j := 3) rfl hTx rfl ⟨(by show 6 ≤ sizeLine; decide), fun p2 hp2 => ?_⟩⟩)⟩
      have pp : L2.upd H1 p2 (.tup [.int b, .int y, .str "cleanup", .non, .int (i : Int), .int D]) p = some (.lst tv) := by rw [upd_ne (ne_of_none hp1 hp2)]; exact hp1
      refine ⟨p, tv, _, rfl, rfl, pp, sz_lt1 ltv, ?_⟩
      exact fin ⟨b, y, none, i, D⟩ [.int b, .int y, .str "cleanup", .non, .int (i : Int), .int D] _ (by rw [e]; rfl) rfl H1 (Same.refl _) (.cons (.int _) (.cons (.int _) (.cons (.str _) (.cons .non (.cons (.int _) (.cons (.int _) .nil)))))) p2 hp2 hp1
    · rw [e] at tx1
      obtain ⟨ax, ys, rfl, hTx, tys⟩ := tx1.tupE
      obtain ⟨y0, yr, rfl, k0, _⟩ := tys.consE
      cases k0.strE
      refine rd_ixT (j := 0) rfl hTx rfl ⟨rfl, _, rfl, ifF (dF n1) ?_⟩
      refine rd_ixT (j := 0) rfl hTx rfl ⟨rfl, _, rfl, ifF (dF n2) ?_⟩
      exact ⟨tv, _, _, rfl, s1, hp1, by rw [etk, enil, List.append_nil]; exact tt⟩
  · rintro σ H1 ⟨tv, v2, v3, rfl, s1, hp1, tt⟩
    rw [List.take_of_length_le (by omega)] at tt
    refine ⟨_, rfl, p, tv, rfl, .inl ⟨SqL.of hp1, fun p2 hp2 => ?_⟩⟩
    exact q (.ref p2) _ (Tp.mk hp2 tt) (s1.trans (Same.new hp2))
/-- what a program's coding needs -/
structure PgK (p : Pg) (n : Nat) : Prop where
  body : ∀ f ∈ p.funs, (∃ cs nk, f.2.Wf cs nk false false) ∧ f.2.dep ≤ n ∧ f.2.len ≤ 90000
  few : p.funs.length ≤ 1000
  n900 : n ≤ 900
def spCoded (n : Nat) : Sp := fun vs H Q _ => ∃ (v : V) (p : Pg), vs = [v] ∧ Tp K H v p.d ∧ PgK p n ∧ NewT K H Q (codeD p.code)
abbrev N_coded : List Str := ["program", "found", "function", "coder", "rows"]
theorem rd_coded (T : CoTxt K C) {n : Nat} (vs : List V) (H : Hp) (Q : VK) (E : XK) (h : spCoded (K := K) n vs H Q E) : t_coded K C (spCoInit C) (spLay K C PAny n) (spPut C) (spTable (K := K)) { nx := fun _ H' => Q .non H', rt := Q } (start N_coded vs) H := by
  obtain ⟨v, p, rfl, ht, ok, q⟩ := h
  obtain ⟨a, x0, x1, rfl, hT, h0, h1⟩ := ht.tup2
  obtain ⟨fa, fxs, rfl, hTf, htf⟩ := h1.tupE
  have lx : fxs.length = p.funs.length := by rw [htf.length, List.length_map]
  refine ⟨(by show 0 ≤ sizeLine; decide), fun l hl => ?_⟩
  have s0 : Same H (L2.upd H l (.lst [])) := Same.new hl
  refine rd_ixT (j := 1) rfl (s0.sqT hT) rfl ⟨fa, rfl, ⟨_, s0.sqT hTf⟩, for_tup (K := K) (a := fa) (xs := fxs) (fun i σ H' => ∃ (cv : List V) (v2 v3 v4 : Option V), σ = [some (.ref a), some (.ref l), v2, v3, v4] ∧ Same H H' ∧ H' l = some (.lst cv) ∧ TpAll K H' cv ((p.code.take i).map Fc.d))
    ⟨[], none, none, none, rfl, s0, upd_same, .nil⟩ (fun i σ H' _ ⟨_, _, _, _, _, s', _⟩ => s'.sqT hTf) ?_ ?_⟩
  · rintro i x σ H1 hx ⟨cv, v2, v3, v4, rfl, s1, hc1, tc⟩
    obtain ⟨d, hd, td⟩ := htf.get hx
    rw [List.getElem?_map] at hd
    cases ef : p.funs[i]? with
    | none => rw [ef] at hd; cases hd
    | some f =>
      rw [ef] at hd
      obtain rfl : funD f = d := Option.some.inj hd
      obtain ⟨ax, y0, y1, rfl, hTx, k0, k1⟩ := td.tup2
      cases k0.intE
      obtain ⟨⟨cs, nk, okw⟩, okd, okl⟩ := ok.body f (List.mem_of_getElem? ef)
      have ilt : i < 1000 := by
        have := (List.getElem?_eq_some_iff.mp ef).1
        have := ok.few
        omega
      refine fun c dx hc hdx dxc => ⟨c, dx, rfl, upd_same, fun m t H2 hm ht tm hc2 hm2 ht2 k2 => ⟨rfl, ?_⟩⟩
      -- nothing of what stood has changed
      have s12 : Same H1 H2 := fun b o e => by
        have bc := ne_of_none e hc
        refine k2 _ _ ?_ bc
        rw [upd_ne bc, upd_ne (ne_of_none e hdx)]; exact e
      have free1 : ∀ z, L2.upd (L2.upd H1 dx (.own c)) c (.ins C dx []) z = none → H1 z = none := fun z e => by
        cases q : H1 z with
        | none => rfl
        | some o =>
          rw [upd_ne (ne_of_none q hc), upd_ne (ne_of_none q hdx), q] at e
          cases e
      have hm1 := free1 m hm
      have ht1 := free1 t ht
      have st2 : CoSt K C dx H2 c m t [] none [] := ⟨hc2, ⟨[], hm2, .nil⟩, ⟨ht2, tm, fun x hx => by cases hx⟩, fun x hx => by cases hx⟩
      have k1' := (k1.mono (Tk.same s1)).mono (Tk.same s12)
      refine rMeth rfl st2.ins rfl (rd_ixT (j := 1) rfl (s12.sqT (s1.sqT hTx)) rfl (pLay (B := 0) st2 k1' okw okd (by have := ok.n900; simp; omega) (by simp; omega) trivial rfl fun H3 st3 k3 => ?_))
      have st3 : CoSt K C dx H3 c m t [] none (f.2.code 0 0 (0, 0, 0)) := st3.lst (by simp [tnW])
      refine rMeth rfl st3.ins rfl ⟨(by show 2 ≤ sizeLine; decide), fun p1 hp1 => pPut (r := .num 0) (st3.same (Same.new hp1)) (Tp.mk hp1 (.cons (.str _) (.cons (.int _) .nil))) (by simp [Sm.code_len]; omega) fun H4 st4 k4 => ?_⟩
      refine rMeth rfl st4.ins rfl ⟨(by show 1 ≤ sizeLine; decide), fun p2 hp2 => pPut (r := .ret) (st4.same (Same.new hp2)) (Tp.mk hp2 (.cons (.str _) .nil)) (by simp [Sm.code_len]; omega) fun H5 st5 k5 => ?_⟩
      have st5 : CoSt K C dx H5 c m t [] none (bodyRows f.2) := st5.lst (by simp [bodyRows])
      have k25 : Kp (BW m t none) H2 H5 := (k3.trans (KpW ((Kp.new hp1).trans k4))).trans (KpW ((Kp.new hp2).trans k5))
      have s15 : Same H1 H5 := fun b o e => k25 _ _ (s12 _ _ e) (by
        rintro (z | z | ⟨x, z, _⟩)
        · exact ne_of_none e hm1 z
        · exact ne_of_none e ht1 z
        · cases z)
      obtain ⟨us5, hm5, tus5⟩ := st5.made
      refine ⟨_, rfl, c, C, dx, _, _, rfl, st5.ins, T.cl, T.made, cfs_made, m, us5, rfl, .inl ⟨SqL.of hm5, fun p5 hp5 => ?_⟩⟩
      have s5 : Same H1 (L2.upd H5 p5 (.tup us5)) := s15.trans (Same.new hp5)
      have tR : Tp K (L2.upd H5 p5 (.tup us5)) (.ref p5) (.tuple ((bodyRows f.2).map Rw.d)) := Tp.mk hp5 tus5
      refine ⟨_, rfl, .inl ⟨rfl, _, SqL.of (s5 _ _ hc1)⟩, rd_ixT (j := 0) rfl ((s1.trans s5).sqT hTx) rfl ⟨_, rfl, _, rfl, .ref p5, bodyRows f.2, rfl, tR, by simp [bodyRows, Sm.code_len]; omega, fun w H6 t6 s6 => ⟨(by show 3 ≤ sizeLine; decide), fun p7 hp7 => ?_⟩⟩⟩
      have hc6 := s6 _ _ (s5 _ _ hc1)
      have hc7 : L2.upd H6 p7 (.tup [.int (f.1 : Int), .ref p5, w]) l = some (.lst cv) := by rw [upd_ne (ne_of_none hc6 hp7)]; exact hc6
      have lcv : cv.length < 1000000 := by
        have := tc.length
        rw [List.length_map, List.length_take] at this
        omega
      have sZ : Same H1 (L2.upd H6 p7 (.tup [.int (f.1 : Int), .ref p5, w])) := (s5.trans s6).trans (Same.new hp7)
      refine ⟨l, cv, _, rfl, rfl, hc7, sz_lt1 lcv, cv ++ [.ref p7], _, _, _, rfl, fun b u e => by rw [upd_ne (ne_of_none e hl)]; exact sZ b u (s1 b u e), upd_same, ?_⟩
      have ec : p.code[i]? = some ⟨f.1, bodyRows f.2⟩ := by unfold Pg.code; rw [List.getElem?_map, ef]; rfl
      rw [List.take_succ, ec, List.map_append]
      exact ((tc.mono (Tk.same sZ)).snoc (Tp.mk hp7 (.cons (.int _) (.cons (tR.mono (Tk.same s6)) (.cons t6 .nil))))).mono (Tk.lst hc7)
  · rintro σ H1 ⟨cv, v2, v3, v4, rfl, s1, hc1, tc⟩
    rw [List.take_of_length_le (by unfold Pg.code; rw [List.length_map]; omega)] at tc
    refine ⟨_, rfl, l, cv, rfl, .inl ⟨SqL.of hc1, fun p2 hp2 => ?_⟩⟩
    exact q (.ref p2) _ (Tp.mk hp2 tc) (s1.trans (Same.new hp2))
end
end Lp

/-! L4z: the code of a drawn program, as data, is small. -/
namespace Lp
open PySem PySem.Spec PyProof.Rows L2
theorem widAll_le {n : Nat} : ∀ {ds : List PyData}, (∀ d ∈ ds, wid d ≤ n) → widAll ds ≤ n
  | [], _ => Nat.zero_le _
  | d :: r, h => Nat.max_le.mpr ⟨h d List.mem_cons_self, widAll_le fun x hx => h x (List.mem_cons_of_mem _ hx)⟩
theorem depthAll_le {n : Nat} : ∀ {ds : List PyData}, (∀ d ∈ ds, d.depth ≤ n) → PyData.depthAll ds ≤ n
  | [], _ => Nat.zero_le _
  | d :: r, h => Nat.max_le.mpr ⟨h d List.mem_cons_self, depthAll_le fun x hx => h x (List.mem_cons_of_mem _ hx)⟩
theorem kindD_flat (k : Option Nat) : (kindD k).depth = 0 ∧ wid (kindD k) = 0 := by cases k <;> exact ⟨rfl, rfl⟩
theorem Rw.small (r : Rw) : r.d.depth ≤ 1 ∧ wid r.d ≤ 6 := by
  cases r <;> simp [Rw.d, PyData.depth, PyData.depthAll, wid, widAll, kindD_flat]
theorem Tb.small (t : Tb) : t.d.depth ≤ 1 ∧ wid t.d ≤ 6 := by
  obtain ⟨b, x, kd, p, D⟩ := t
  cases kd <;> simp [Tb.d, PyData.depth, PyData.depthAll, wid, widAll, kindD_flat]
theorem rows_small (rs : List Rw) : (PyData.tuple (rs.map Rw.d)).depth ≤ 2 ∧ wid (.tuple (rs.map Rw.d)) ≤ max rs.length 6 := by
  have h1 : PyData.depthAll (rs.map Rw.d) ≤ 1 := depthAll_le fun d hd => by obtain ⟨r, _, rfl⟩ := List.mem_map.mp hd; exact r.small.1
  have h2 : widAll (rs.map Rw.d) ≤ 6 := widAll_le fun d hd => by obtain ⟨r, _, rfl⟩ := List.mem_map.mp hd; exact r.small.2
  simp only [PyData.depth, wid, List.length_map]
  omega
theorem tab_small (rs : List Tb) : (PyData.tuple (rs.map Tb.d)).depth ≤ 2 ∧ wid (.tuple (rs.map Tb.d)) ≤ max rs.length 6 := by
  have h1 : PyData.depthAll (rs.map Tb.d) ≤ 1 := depthAll_le fun d hd => by obtain ⟨r, _, rfl⟩ := List.mem_map.mp hd; exact r.small.1
  have h2 : widAll (rs.map Tb.d) ≤ 6 := widAll_le fun d hd => by obtain ⟨r, _, rfl⟩ := List.mem_map.mp hd; exact r.small.2
  simp only [PyData.depth, wid, List.length_map]
  omega
theorem Fc.small (f : Fc) (h : f.rows.length ≤ 900000) : f.d.depth ≤ 3 ∧ wid f.d ≤ 900000 := by
  have h1 := rows_small f.rows
  have h2 := tab_small f.tab
  have h3 : f.tab.length ≤ f.rows.length := tabAt_len _ _
  unfold Fc.d
  simp only [PyData.depth, PyData.depthAll, wid, widAll, List.length_cons, List.length_nil] at h1 h2 ⊢
  omega
theorem codeD_small (c : List Fc) (h : ∀ f ∈ c, f.rows.length ≤ 900000) (hl : c.length ≤ 900000) : (codeD c).depth < 5 ∧ wid (codeD c) ≤ 1000000 := by
  have h1 : PyData.depthAll (c.map Fc.d) ≤ 3 := depthAll_le fun d hd => by obtain ⟨r, hr, rfl⟩ := List.mem_map.mp hd; exact (r.small (h r hr)).1
  have h2 : widAll (c.map Fc.d) ≤ 900000 := widAll_le fun d hd => by obtain ⟨r, hr, rfl⟩ := List.mem_map.mp hd; exact (r.small (h r hr)).2
  unfold codeD
  simp only [PyData.depth, wid, List.length_map]
  omega
theorem PgOk.code_small {p : Pg} (ok : PgOk p) : (codeD p.code).depth < 5 ∧ wid (codeD p.code) ≤ 1000000 := by
  refine codeD_small _ (fun f hf => ?_) ?_
  · obtain ⟨g, hg, rfl⟩ := List.mem_map.mp hf
    have := ok.small.len g hg
    simp [bodyRows, Sm.code_len]; omega
  · have := ok.f4
    simp [Pg.code]; omega
theorem PgOk.pgK {p : Pg} (ok : PgOk p) : PgK p 5 :=
  ⟨fun f hf => ⟨⟨_, _, ok.wf.body f hf⟩, ok.small.dep f hf, by have := ok.small.len f hf; omega⟩, by have := ok.f4; omega, by decide⟩
theorem PgOk.pgC {p : Pg} (ok : PgOk p) : PgC p 5 :=
  ⟨fun f hf => ⟨⟨_, _, _, ok.wf.body f hf⟩, ok.small.dep f hf, by have := ok.small.len f hf; omega, Int.le_refl 0, fun _ h => by cases h⟩, by have := ok.f4; omega⟩
end Lp

/-! Lt: texts: str, join, split. -/
namespace Lp
open PySem PySem.Spec PyProof.Rows L2
/-- str(x), x a number or a text -/
def rStr1 : List V → Hp → VK → Prop := fun xs H Q => (∃ i, xs = [.int i] ∧ i.natAbs.log2 < 1920 ∧ Q (.str (toString i)) H) ∨ ∃ a, xs = [.str a] ∧ Q (.str a) H
def rAddS : R2 := fun x y H Q => ∃ i j, x = .str i ∧ y = .str j ∧ i.length + j.length ≤ sizeLine ∧ Q (.str (i ++ j)) H
def rJoin (K : PySem.W.Frag) : V → List V → Hp → VK → Prop := fun x xs H Q => ∃ a p, ∃ ys : List Str, x = .str a ∧ xs = [.ref p] ∧ (SqL K H p (ys.map V.str) ∨ SqT K H p (ys.map V.str)) ∧ (ys.map (·.length)).sum + ys.length * a.length ≤ 16777216 ∧ Q (.str (Txt.join a ys)) H
def rSplit : V → List V → Hp → VK → Prop := fun x xs H Q => ∃ a b, x = .str a ∧ xs = [.str b] ∧ (b.length == 0) = false ∧ a.length + 2 ≤ sizeLine ∧ ∀ p, H p = none → Q (.ref p) (L2.upd H p (.lst ((Txt.split a b).map V.str)))
section
variable {X : Cx}
theorem call_str1 : CallR X (.type "str") rStr1 := fun pins s σ H xs us Q I r h => h.elim (call_str_int pins s σ H xs us Q I r) (SkE.call_str_str pins s σ H xs us Q I r)
theorem op_addS : OpR X (binaryOp .Add) rAddS := op_add_str
theorem pe_joinR {o e : Expr} {to te : TE} {apos pos : Pos} (ho : PE X o to) (he : PE X e te) (hs : starEach [e] X.env = [(false, eval e X.env)] := by rfl) (hb : attributeBase o "join" X.env (eval o X.env) = eval o X.env := by rfl) (hl : (apos.endLine == pos.line) = true := by rfl) :
    PE X (.Call (.Attribute o "join" apos) [e] [] pos) (tM1 (rJoin X.K) to te) := pe_join ho he hs hb hl
theorem pe_splitR {o e : Expr} {to te : TE} {apos pos : Pos} (ho : PE X o to) (he : PE X e te) (hs : starEach [e] X.env = [(false, eval e X.env)] := by rfl) (hb : attributeBase o "split" X.env (eval o X.env) = eval o X.env := by rfl) (hl : (apos.endLine == pos.line) = true := by rfl) :
    PE X (.Call (.Attribute o "split" apos) [e] [] pos) (tM1 rSplit to te) := pe_split ho he hs hb hl
end
/-! ### words, lines -/
def word : PyData → Str
  | .none => "-"
  | .int i => toString i
  | .str s => s
  | _ => ""
/-- a part of a row that is written as a short word -/
def Wd (d : PyData) : Prop := d = .none ∨ (∃ i, d = .int i ∧ 0 ≤ i ∧ i < 10 ^ 9) ∨ ∃ s, d = .str s ∧ s.length ≤ 12
def rowL (ds : List PyData) : Str := Txt.join " " (ds.map word)
structure Fd where
  many : Int
  rows : List (List PyData)
  tab : List (List PyData)
def Fd.d (f : Fd) : PyData := .tuple [.int f.many, .tuple (f.rows.map .tuple), .tuple (f.tab.map .tuple)]
def fnL (m : Int) : Str := ("function " : Str) ++ (toString m : Str)
def tabL (ds : List PyData) : Str := ("table " : Str) ++ rowL ds
def Fd.lines (f : Fd) : List Str := fnL f.many :: (f.rows.map rowL ++ f.tab.map tabL)
def listingD (c : List Fd) : Str := Txt.join "\n" (c.flatMap Fd.lines)
structure RowOk (ds : List PyData) : Prop where
  few : ds.length ≤ 8
  wd : ∀ d ∈ ds, Wd d
structure FdOk (f : Fd) : Prop where
  many : 0 ≤ f.many ∧ f.many < 10 ^ 9
  rows : ∀ r ∈ f.rows, RowOk r
  tab : ∀ r ∈ f.tab, RowOk r
  few : f.rows.length ≤ 2100
  fewT : f.tab.length ≤ 2100
theorem num_len {i : Int} (h0 : 0 ≤ i) (h1 : i < 10 ^ 9) : (toString i : Str).length ≤ 9 := by
  obtain ⟨m, rfl⟩ := Int.eq_ofNat_of_zero_le h0
  show (Str.ofString (toString (Int.ofNat m))).length ≤ 9
  rw [text_ofNat]
  show (((Nat.toDigits 10 m).map Char.toNat).toArray).size ≤ 9
  rw [List.size_toArray, List.length_map]
  exact digits10_le (by decide) (by omega)
theorem log_small {i : Int} (h0 : 0 ≤ i) (h1 : i < 10 ^ 9) : i.natAbs.log2 < 1920 := by
  have h : i.natAbs < 2 ^ 30 := by omega
  by_cases z : i.natAbs = 0
  · rw [z]; decide
  · have := (Nat.log2_lt z).mpr h
    omega
theorem wd_len {d : PyData} (h : Wd d) : (word d).length ≤ 12 := by
  rcases h with rfl | ⟨i, rfl, h0, h1⟩ | ⟨s, rfl, h⟩
  · decide
  · have := num_len h0 h1
    show (toString i : Str).length ≤ 12
    omega
  · exact h
theorem sum_le {n : Nat} : ∀ {ys : List Str}, (∀ y ∈ ys, y.length ≤ n) → (ys.map (·.length)).sum ≤ ys.length * n
  | [], _ => Nat.zero_le _
  | y :: ys, h => by
    have h1 := h y List.mem_cons_self
    have h2 := sum_le (ys := ys) fun z hz => h z (List.mem_cons_of_mem _ hz)
    rw [List.map_cons, List.sum_cons, List.length_cons, Nat.succ_mul]
    omega
theorem join_len {sep : Str} {ys : List Str} {n : Nat} (h : ∀ y ∈ ys, y.length ≤ n) : (Txt.join sep ys).length ≤ ys.length * n + ys.length * sep.length := by
  have h1 := StrLaws.join_length_le sep ys
  have h2 := sum_le h
  have e : Txt.join sep ys = Str.join sep ys := StrLaws.glued_eq_join ..
  rw [e]
  omega
theorem row_len {ds : List PyData} (h : RowOk ds) : (rowL ds).length ≤ 104 := by
  have h1 := join_len (sep := " ") (ys := ds.map word) (n := 12) fun y hy => by
    obtain ⟨d, hd, rfl⟩ := List.mem_map.mp hy
    exact wd_len (h.wd d hd)
  have h2 := h.few
  rw [List.length_map] at h1
  have : (" " : Str).length = 1 := by decide
  unfold rowL
  rw [this] at h1
  omega
end Lp

/-! LxL: listings. -/
namespace Lp
open PySem PySem.Spec PyProof.Rows L2
def t_word_of (K : PySem.W.Frag) : TS :=
  tSeq (tIfS (tTest (tOp rIsN (tVar 0) (tC .non))) (tRet (tC (.str "-"))) (tNext)) (tRet (tCB rStr1 (tCons (tVar 0) (tNil))))

def t_line_of (K : PySem.W.Frag) (sp_word_of : Sp) : TS :=
  tRet (tM1 (rJoin K) (tC (.str " ")) (tLc (iTup K (tVar 0)) (gName 1) (tYes) (tCall sp_word_of [] E0 (tCons (tVar 1) (tNil))) [1]))

def t_listing (K : PySem.W.Frag) (sp_line_of : Sp) : TS :=
  tSeq (tAsg (tLst (tNil)) (gName 1)) (tSeq (tFor (iTup K (tVar 0)) (gName 2) (tSeq (tDrop (tBM K "list" rAppend (tVar 1) (tCons (tOp rAddS (tC (.str "function ")) (tCB rStr1 (tCons (tOp (rIxT K) (tVar 2) (tC (.int 0))) (tNil)))) (tNil)))) (tSeq (tFor (iTup K (tOp (rIxT K) (tVar 2) (tC (.int 1)))) (gName 3) (tDrop (tBM K "list" rAppend (tVar 1) (tCons (tCall sp_line_of [] E0 (tCons (tVar 3) (tNil))) (tNil))))) (tFor (iTup K (tOp (rIxT K) (tVar 2) (tC (.int 2)))) (gName 3) (tDrop (tBM K "list" rAppend (tVar 1) (tCons (tOp rAddS (tC (.str "table ")) (tCall sp_line_of [] E0 (tCons (tVar 3) (tNil)))) (tNil)))))))) (tRet (tM1 (rJoin K) (tC (.str "\n")) (tVar 1))))

def t_law_word (K : PySem.W.Frag) : TS :=
  tSeq (tIfS (tTest (tOp rIsN (tVar 0) (tC .non))) (tRet (tC (.str "-"))) (tNext)) (tRet (tCB rStr1 (tCons (tVar 0) (tNil))))

def t_law_listed (K : PySem.W.Frag) (sp_law_word : Sp) : TS :=
  tSeq (tAsg (tLst (tNil)) (gName 1)) (tSeq (tFor (iTup K (tVar 0)) (gName 2) (tSeq (tDrop (tBM K "list" rAppend (tVar 1) (tCons (tOp rAddS (tC (.str "function ")) (tCB rStr1 (tCons (tOp (rIxT K) (tVar 2) (tC (.int 0))) (tNil)))) (tNil)))) (tSeq (tFor (iTup K (tOp (rIxT K) (tVar 2) (tC (.int 1)))) (gName 3) (tDrop (tBM K "list" rAppend (tVar 1) (tCons (tM1 (rJoin K) (tC (.str " ")) (tLc (iTup K (tVar 3)) (gName 4) (tYes) (tCall sp_law_word [] E0 (tCons (tVar 4) (tNil))) [4])) (tNil))))) (tFor (iTup K (tOp (rIxT K) (tVar 2) (tC (.int 2)))) (gName 3) (tDrop (tBM K "list" rAppend (tVar 1) (tCons (tOp rAddS (tC (.str "table ")) (tM1 (rJoin K) (tC (.str " ")) (tLc (iTup K (tVar 3)) (gName 4) (tYes) (tCall sp_law_word [] E0 (tCons (tVar 4) (tNil))) [4]))) (tNil)))))))) (tRet (tM1 (rJoin K) (tC (.str "\n")) (tVar 1))))

namespace KL
theorem gn {k : Nat} {v : V} {σ : L2.St} {H : Hp} {Q : L2.St → Hp → Prop} (h : Q (σ.set k (some v)) H) : gName k v σ H Q := h
theorem seq {s t : TS} {D : Ends} {σ : L2.St} {H : Hp} (h : s { D with nx := t D } σ H) : tSeq s t D σ H := h
theorem seq_inv {s t : TS} {D : Ends} {σ : L2.St} {H : Hp} (I : L2.St → Hp → Prop) (h : ∀ nx : L2.St → Hp → Prop, (∀ σ' H', I σ' H' → nx σ' H') → s { D with nx := nx } σ H) (k : ∀ σ' H', I σ' H' → t D σ' H') : tSeq s t D σ H := h (t D) k
/-! ### words -/
structure WordP (K : PySem.W.Frag) (vs : List V) (H : Hp) (Q : VK) : Prop where
  ex : ∃ (v : V) (d : PyData), vs = [v] ∧ Tp K H v d ∧ Wd d ∧ Q (.str (word d)) H
def spWord (K : PySem.W.Frag) : Sp := fun vs H Q _ => WordP K vs H Q
theorem rd_word {K : PySem.W.Frag} (vs : List V) (H : Hp) (Q : VK) (E : XK) (hh : spWord K vs H Q E) : t_word_of K { nx := fun _ H' => Q .non H', rt := Q } (start ["part"] vs) H := by
  obtain ⟨v, d, rfl, tv, wd, q⟩ := hh.ex
  have c : PB (tTest (tOp rIsN (tVar 0) (tC .non))) [some v] H (decide (v = .non)) := fun _ q => ⟨_, rfl, rfl, _, rfl, q⟩
  rcases wd with rfl | ⟨i, rfl, h0, h1⟩ | ⟨s, rfl, hs⟩
  · have e := tv.nonE
    subst e
    exact seq (r_ifT c q)
  · have e := tv.intE
    subst e
    exact seq (r_ifF c ⟨_, rfl, .inl ⟨i, rfl, log_small h0 h1, q⟩⟩)
  · have e := tv.strE
    subst e
    exact seq (r_ifF c ⟨_, rfl, .inr ⟨s, rfl, q⟩⟩)
theorem rd_law_word {K : PySem.W.Frag} (vs : List V) (H : Hp) (Q : VK) (E : XK) (hh : spWord K vs H Q E) : t_law_word K { nx := fun _ H' => Q .non H', rt := Q } (start ["_law_part_here"] vs) H := rd_word vs H Q E hh
/-- te gives the text s, and the heap only grows -/
def SE (te : TE) (σ : L2.St) (H0 : Hp) (s : Str) : Prop := ∀ H, Same H0 H → ∀ Q : VK, (∀ H', Same H H' → Q (.str s) H') → te σ H Q
/-- the words of a row, joined -/
theorem row_join {K : PySem.W.Frag} {σ : L2.St} {H0 : Hp} {i k : Nat} {r : V} {ds : List PyData} (hs : σ[i]? = some (some r)) (t : Tp K H0 r (.tuple ds)) (ok : RowOk ds) (lk : k < (wipe σ [k]).length) (hw : ∀ x, wipe ((wipe σ [k]).set k x) [k] = wipe σ [k]) :
    SE (tM1 (rJoin K) (tC (.str " ")) (tLc (iTup K (tVar i)) (gName k) (tYes) (tCall (spWord K) [] E0 (tCons (tVar k) (tNil))) [k])) σ H0 (rowL ds) := fun H s Q q => by
  obtain ⟨a, xs, rfl, hT, tx⟩ := (t.mono (Tk.same s)).tupE
  have lx := tx.length
  have hf := ok.few
  refine ⟨⟨_, rfl⟩, _, hs, a, rfl, ⟨_, hT⟩, fun D hD => lc_tup (K := K) (a := a) (xs := xs) (fun j H' => H' D = some (.lst ((((ds.take j).map word)).map V.str)) ∧ Same H H') ⟨upd_same, Same.new hD⟩ (fun j H' _ ⟨_, s'⟩ => s'.sqT hT) ?_ ?_⟩
  · rintro j x H1 hx ⟨hv, s1⟩
    obtain ⟨d, hd, td⟩ := tx.get hx
    have hj := (List.getElem?_eq_some_iff.mp hd).1
    refine ⟨hw _, ?_⟩
    have hx' : ((wipe σ [k]).set k (some x))[k]? = some (some x) := List.getElem?_set_self lk
    refine ⟨_, hx', ⟨⟨x, d, rfl, td.mono (Tk.same s1), ok.wd d (List.mem_of_getElem? hd), _, hv, by rw [List.length_map, List.length_map, List.length_take]; exact sz_lt1 (by omega), ?_, fun y o e => by rw [upd_ne (ne_of_none e hD)]; exact s1 _ _ e⟩⟩⟩
    rw [upd_same, List.take_succ, hd, List.map_append, List.map_append]; rfl
  · rintro H1 ⟨hv, s1⟩
    rw [List.take_of_length_le (by omega)] at hv
    refine ⟨_, D, ds.map word, rfl, rfl, .inl (SqL.of hv), ?_, q _ s1⟩
    have := sum_le (n := 12) (ys := ds.map word) fun y hy => by
      obtain ⟨d, hd, rfl⟩ := List.mem_map.mp hy
      exact wd_len (ok.wd d hd)
    rw [List.length_map] at this ⊢
    have : (" " : Str).length = 1 := by decide
    rw [this]
    omega
structure LineP (K : PySem.W.Frag) (vs : List V) (H : Hp) (Q : VK) : Prop where
  ex : ∃ (v : V) (ds : List PyData), vs = [v] ∧ Tp K H v (.tuple ds) ∧ RowOk ds ∧ ∀ H', Same H H' → Q (.str (rowL ds)) H'
def spLine (K : PySem.W.Frag) : Sp := fun vs H Q _ => LineP K vs H Q
theorem rd_line {K : PySem.W.Frag} (vs : List V) (H : Hp) (Q : VK) (E : XK) (hh : spLine K vs H Q E) : t_line_of K (spWord K) { nx := fun _ H' => Q .non H', rt := Q } (start ["row", "part"] vs) H := by
  obtain ⟨v, ds, rfl, tv, ok, q⟩ := hh.ex
  exact row_join (K := K) (i := 0) (k := 1) rfl tv ok (by show 1 < 2; decide) (fun _ => rfl) H (Same.refl _) Q q
/-! ### all lines -/
/-- the loops of both, le: a row's line -/
def tListing (K : PySem.W.Frag) (le : TE) : TS :=
  tSeq (tAsg (tLst (tNil)) (gName 1)) (tSeq (tFor (iTup K (tVar 0)) (gName 2) (tSeq (tDrop (tBM K "list" rAppend (tVar 1) (tCons (tOp rAddS (tC (.str "function ")) (tCB rStr1 (tCons (tOp (rIxT K) (tVar 2) (tC (.int 0))) (tNil)))) (tNil)))) (tSeq (tFor (iTup K (tOp (rIxT K) (tVar 2) (tC (.int 1)))) (gName 3) (tDrop (tBM K "list" rAppend (tVar 1) (tCons le (tNil))))) (tFor (iTup K (tOp (rIxT K) (tVar 2) (tC (.int 2)))) (gName 3) (tDrop (tBM K "list" rAppend (tVar 1) (tCons (tOp rAddS (tC (.str "table ")) le) (tNil)))))))) (tRet (tM1 (rJoin K) (tC (.str "\n")) (tVar 1))))
theorem fn_len {m : Int} (h : 0 ≤ m ∧ m < 10 ^ 9) : (fnL m).length ≤ 120 ∧ (toString m : Str).length ≤ 9 := by
  have := num_len h.1 h.2
  have e : ("function " : Str).length = 9 := by decide
  refine ⟨?_, this⟩
  unfold fnL
  rw [Str.length_append, e]
  omega
theorem tab_len {ds : List PyData} (h : RowOk ds) : (tabL ds).length ≤ 120 := by
  have := row_len h
  have e : ("table " : Str).length = 6 := by decide
  unfold tabL
  rw [Str.length_append, e]
  omega
theorem lines_short {fs : List Fd} (h : ∀ f ∈ fs, FdOk f) : ∀ y ∈ fs.flatMap Fd.lines, y.length ≤ 120 := fun y hy => by
  obtain ⟨f, hf, hy⟩ := List.mem_flatMap.mp hy
  have ok := h f hf
  rcases List.mem_cons.mp hy with rfl | hy
  · exact (fn_len ok.many).1
  · rcases List.mem_append.mp hy with hy | hy
    · obtain ⟨r, hr, rfl⟩ := List.mem_map.mp hy
      have := row_len (ok.rows r hr)
      omega
    · obtain ⟨r, hr, rfl⟩ := List.mem_map.mp hy
      exact tab_len (ok.tab r hr)
theorem lines_few {fs : List Fd} (h : ∀ f ∈ fs, FdOk f) : (fs.flatMap Fd.lines).length ≤ 4300 * fs.length := by
  induction fs with
  | nil => simp
  | cons f fs ih =>
    have ih := ih fun g hg => h g (List.mem_cons_of_mem _ hg)
    have ok := h f List.mem_cons_self
    have := ok.few; have := ok.fewT
    rw [List.flatMap_cons, List.length_append, List.length_cons]
    have : f.lines.length = 1 + (f.rows.length + f.tab.length) := by simp [Fd.lines]; omega
    omega
theorem app_str {K : PySem.W.Frag} {σ : L2.St} {H : Hp} {p : Addr} {ls : List Str} {s : Str} {te : TE} {D : Ends} (hs : σ[1]? = some (some (.ref p))) (h : H p = some (.lst (ls.map V.str))) (hl : ls.length < 1000000) (a : SE te σ H s) (q : ∀ H', H' p = some (.lst ((ls ++ [s]).map V.str)) → (∀ b o, b ≠ p → H b = some o → H' b = some o) → Tk H H' → D.nx σ H') :
    tDrop (tBM K "list" rAppend (tVar 1) (tCons te (tNil))) D σ H := by
  refine ⟨_, hs, .inl ⟨rfl, _, SqL.of h⟩, a H (Same.refl _) _ fun G sG => ⟨p, _, .str s, rfl, rfl, sG _ _ h, by rw [List.length_map]; exact sz_lt1 (by omega), ?_⟩⟩
  refine q _ ?_ (fun b o n e => by rw [upd_ne n]; exact sG b o e) ((Tk.same sG).trans (Tk.lst (sG _ _ h)))
  rw [upd_same, List.map_append]; rfl
structure ListP (K : PySem.W.Frag) (vs : List V) (H : Hp) (Q : VK) : Prop where
  ex : ∃ (v : V) (fs : List Fd), vs = [v] ∧ Tp K H v (.tuple (fs.map Fd.d)) ∧ (∀ f ∈ fs, FdOk f) ∧ fs.length ≤ 10 ∧ ∀ H', Same H H' → Q (.str (listingD fs)) H'
def spList (K : PySem.W.Frag) : Sp := fun vs H Q _ => ListP K vs H Q
theorem rd_all {K : PySem.W.Frag} {le : TE} {rest : List (Option V)} (hle : ∀ (v1 v2 v3 : Option V) (r : V) (ds : List PyData) (H : Hp), Tp K H r (.tuple ds) → RowOk ds → SE le (v1 :: v2 :: v3 :: some r :: rest) H (rowL ds)) {v : V} {fs : List Fd} {H : Hp} {Q : VK}
    (tv : Tp K H v (.tuple (fs.map Fd.d))) (ok : ∀ f ∈ fs, FdOk f) (few : fs.length ≤ 10) (q : ∀ H', Same H H' → Q (.str (listingD fs)) H') : tListing K le { nx := fun _ H' => Q .non H', rt := Q } (some v :: none :: none :: none :: rest) H := by
  obtain ⟨a, xs, rfl, hT, tx⟩ := tv.tupE
  have lx : xs.length = fs.length := by rw [tx.length, List.length_map]
  refine ⟨(by show 0 ≤ sizeLine; decide), fun p hp => gn ?_⟩
  simp only [List.set_cons_succ, List.set_cons_zero]
  have s1 : Same H (L2.upd H p (.lst [])) := Same.new hp
  have hp1 : L2.upd H p (.lst []) p = some (.lst (([] : List Str).map V.str)) := upd_same
  generalize L2.upd H p (.lst []) = H1 at s1 hp1 ⊢
  -- what stood stands
  refine seq_inv (fun σ' H' => ∃ v2 v3, σ' = some (.ref a) :: some (.ref p) :: v2 :: v3 :: rest ∧ H' p = some (.lst ((fs.flatMap Fd.lines).map V.str)) ∧ Same H H') (fun nx hnx => ?_) ?_
  · refine ⟨_, rfl, a, rfl, ⟨_, s1.sqT hT⟩, for_tup (K := K) (a := a) (xs := xs) (fun i σ' H' => ∃ v2 v3, σ' = some (.ref a) :: some (.ref p) :: v2 :: v3 :: rest ∧ H' p = some (.lst (((fs.take i).flatMap Fd.lines).map V.str)) ∧ Same H H') ⟨_, _, rfl, by simpa using hp1, s1⟩ (fun i σ' H' _ ⟨_, _, _, _, s'⟩ => s'.sqT hT) ?_ ?_⟩
    · rintro i x σ' H2 hx ⟨v2, v3, rfl, hp2, s2⟩
      refine gn ?_
      simp only [List.set_cons_succ, List.set_cons_zero]
      have hi : i < fs.length := by have := (List.getElem?_eq_some_iff.mp hx).1; omega
      have ef : fs[i]? = some fs[i] := List.getElem?_eq_getElem hi
      obtain ⟨x', hx', txx⟩ := tx.get' (i := i) (d := fs[i].d) (by rw [List.getElem?_map, ef]; rfl)
      obtain rfl : x' = x := by rw [hx] at hx'; exact (Option.some.inj hx').symm
      have okf := ok _ (List.getElem_mem hi)
      have etake : fs.take (i + 1) = fs.take i ++ [fs[i]] := by rw [List.take_succ, ef]; rfl
      generalize fs[i] = f at txx okf etake
      have lpre := lines_few (fs := fs.take i) fun g hg => ok g (List.mem_of_mem_take hg)
      rw [List.length_take] at lpre
      obtain ⟨fa, y0, y1, y2, rfl, hF, t0, t1, t2⟩ := (show Tp K H x' (.tuple [.int f.many, .tuple (f.rows.map .tuple), .tuple (f.tab.map .tuple)]) from txx).tup3
      cases t0.intE
      obtain ⟨ra, rxs, rfl, hR, trs⟩ := t1.tupE
      obtain ⟨ta, txs, rfl, hTb, tts⟩ := t2.tupE
      have lr : rxs.length = f.rows.length := by rw [trs.length, List.length_map]
      have lt : txs.length = f.tab.length := by rw [tts.length, List.length_map]
      have fl := fn_len okf.many
      have stay : ∀ {G G' : Hp}, Same H G → (∀ b o, b ≠ p → G b = some o → G' b = some o) → Same H G' := fun s k b o e => k b o (ne_of_none e hp) (s b o e)
      have len9 : ("function " : Str).length = 9 := by decide
      have len6 : ("table " : Str).length = 6 := by decide
      refine seq (app_str (K := K) (s := fnL f.many) rfl hp2 (by omega) (te := tOp rAddS (tC (.str "function ")) (tCB rStr1 (tCons (tOp (rIxT K) (tVar 2) (tC (.int 0))) (tNil)))) (fun G sG Q' q' => rd_ixT (i := 2) (j := 0) rfl ((s2.trans sG).sqT hF) rfl (.inl ⟨f.many, rfl, log_small okf.many.1 okf.many.2, _, _, rfl, rfl, by rw [len9]; exact sz_le1 (by omega), q' G (Same.refl _)⟩)) fun H3 hp3 k3 tk3 => ?_)
      have s3 := stay s2 k3
      dsimp only
      refine seq_inv (fun σ' H' => ∃ v3, σ' = some (.ref a) :: some (.ref p) :: some (.ref fa) :: v3 :: rest ∧ H' p = some (.lst (((fs.take i).flatMap Fd.lines ++ [fnL f.many] ++ f.rows.map rowL).map V.str)) ∧ Same H H') (fun nx2 hnx2 => ?_) ?_
      · refine ⟨_, rfl, fa, _, ((1 : Nat) : Int), _, rfl, rfl, s3.sqT hF, atI_nat rfl, ra, rfl, ⟨_, s3.sqT hR⟩, for_tup (K := K) (a := ra) (xs := rxs) (fun j σ' H' => ∃ v3, σ' = some (.ref a) :: some (.ref p) :: some (.ref fa) :: v3 :: rest ∧ H' p = some (.lst (((fs.take i).flatMap Fd.lines ++ [fnL f.many] ++ (f.rows.take j).map rowL).map V.str)) ∧ Same H H') ⟨_, rfl, by simpa using hp3, s3⟩ (fun j σ' H' _ ⟨_, _, _, s'⟩ => s'.sqT hR) ?_ ?_⟩
        · rintro j y σ' H4 hy ⟨v3, rfl, hp4, s4⟩
          refine gn ?_
          simp only [List.set_cons_succ, List.set_cons_zero]
          obtain ⟨d, hd, td⟩ := trs.get hy
          rw [List.getElem?_map] at hd
          cases er : f.rows[j]? with
          | none => rw [er] at hd; cases hd
          | some r =>
            rw [er] at hd
            obtain rfl : PyData.tuple r = d := Option.some.inj hd
            have hj := (List.getElem?_eq_some_iff.mp er).1
            refine app_str (K := K) (s := rowL r) rfl hp4 ?_ (hle _ _ _ y r H4 (td.mono (Tk.same s4)) (okf.rows r (List.mem_of_getElem? er))) fun H5 hp5 k5 tk5 => ⟨_, rfl, ?_, stay s4 k5⟩
            · have := okf.few
              simp only [List.length_append, List.length_map, List.length_take, List.length_cons, List.length_nil]
              omega
            · rw [hp5, List.take_succ, er, List.map_append (f := rowL), ← List.append_assoc]; rfl
        · rintro σ' H4 ⟨v3, rfl, hp4, s4⟩
          rw [List.take_of_length_le (l := f.rows) (by omega)] at hp4
          exact hnx2 _ _ ⟨v3, rfl, hp4, s4⟩
      rintro _ H4 ⟨v3, rfl, hp4, s4⟩
      refine ⟨_, rfl, fa, _, ((2 : Nat) : Int), _, rfl, rfl, s4.sqT hF, atI_nat rfl, ta, rfl, ⟨_, s4.sqT hTb⟩, for_tup (K := K) (a := ta) (xs := txs) (fun j σ' H' => ∃ v3, σ' = some (.ref a) :: some (.ref p) :: some (.ref fa) :: v3 :: rest ∧ H' p = some (.lst (((fs.take i).flatMap Fd.lines ++ [fnL f.many] ++ f.rows.map rowL ++ (f.tab.take j).map tabL).map V.str)) ∧ Same H H') ⟨_, rfl, by simpa using hp4, s4⟩ (fun j σ' H' _ ⟨_, _, _, s'⟩ => s'.sqT hTb) ?_ ?_⟩
      · rintro j y σ' H5 hy ⟨v3, rfl, hp5, s5⟩
        refine gn ?_
        simp only [List.set_cons_succ, List.set_cons_zero]
        obtain ⟨d, hd, td⟩ := tts.get hy
        rw [List.getElem?_map] at hd
        cases er : f.tab[j]? with
        | none => rw [er] at hd; cases hd
        | some r =>
          rw [er] at hd
          obtain rfl : PyData.tuple r = d := Option.some.inj hd
          have okr := okf.tab r (List.mem_of_getElem? er)
          have lr := row_len okr
          have hj := (List.getElem?_eq_some_iff.mp er).1
          refine app_str (K := K) (s := tabL r) (te := tOp rAddS (tC (.str "table ")) le) rfl hp5 ?_ (fun G sG Q' q' => hle _ _ _ y r H5 (td.mono (Tk.same s5)) okr G sG _ fun G2 s2' => ⟨_, _, rfl, rfl, by rw [len6]; exact sz_le1 (by omega), q' G2 s2'⟩) fun H6 hp6 k6 tk6 => ⟨_, rfl, ?_, stay s5 k6⟩
          · have := okf.few
            have := okf.fewT
            simp only [List.length_append, List.length_map, List.length_take, List.length_cons, List.length_nil]
            omega
          · rw [hp6, List.take_succ, er, List.map_append (f := tabL), ← List.append_assoc]; rfl
      · rintro σ' H5 ⟨v3, rfl, hp5, s5⟩
        rw [List.take_of_length_le (l := f.tab) (by omega)] at hp5
        refine ⟨_, _, rfl, ?_, s5⟩
        rw [hp5, etake, List.flatMap_append]
        simp [Fd.lines]
    · rintro σ' H2 ⟨v2, v3, rfl, hp2, s2⟩
      rw [List.take_of_length_le (by omega)] at hp2
      exact hnx _ _ ⟨v2, v3, rfl, hp2, s2⟩
  rintro _ H2 ⟨v2, v3, rfl, hp2, s2⟩
  refine ⟨⟨_, rfl⟩, _, rfl, _, p, _, rfl, rfl, .inl (SqL.of hp2), ?_, q H2 s2⟩
  have h1 := sum_le (n := 120) (lines_short ok)
  have h2 := lines_few ok
  have : ("\n" : Str).length = 1 := by decide
  rw [this]
  omega
theorem rd_listing {K : PySem.W.Frag} (vs : List V) (H : Hp) (Q : VK) (E : XK) (hh : spList K vs H Q E) : t_listing K (spLine K) { nx := fun _ H' => Q .non H', rt := Q } (start ["code", "lines", "function", "row"] vs) H := by
  obtain ⟨v, fs, rfl, tv, ok, few, q⟩ := hh.ex
  exact rd_all (K := K) (rest := []) (le := tCall (spLine K) [] E0 (tCons (tVar 3) (tNil))) (fun v1 v2 v3 r ds H t okr G sG Q' q' => ⟨_, rfl, ⟨⟨r, ds, rfl, t.mono (Tk.same sG), okr, q'⟩⟩⟩) tv ok few q
theorem rd_law_listed {K : PySem.W.Frag} (vs : List V) (H : Hp) (Q : VK) (E : XK) (hh : spList K vs H Q E) : t_law_listed K (spWord K) { nx := fun _ H' => Q .non H', rt := Q } (start ["_law_code_here", "_law_lines", "_law_function", "_law_row", "_law_part_here"] vs) H := by
  obtain ⟨v, fs, rfl, tv, ok, few, q⟩ := hh.ex
  exact rd_all (K := K) (rest := [none]) (le := tM1 (rJoin K) (tC (.str " ")) (tLc (iTup K (tVar 3)) (gName 4) (tYes) (tCall (spWord K) [] E0 (tCons (tVar 4) (tNil))) [4])) (fun v1 v2 v3 r ds H t okr => row_join (K := K) (i := 3) (k := 4) rfl t okr (by show 4 < 5; decide) (fun _ => rfl)) tv ok few q
end KL
end Lp

/-! Ln: the numbers in a program's rows. -/
namespace Lp
open PySem PySem.Spec PyProof.Rows L2
def In0 (N i : Int) : Prop := 0 ≤ i ∧ i ≤ N
/-- all its numbers are from nought to N -/
def Rw.Nm (N : Int) : Rw → Prop
  | .num n => In0 N n
  | .var k => In0 N (k : Int)
  | .set k => In0 N (k : Int)
  | .unless q => In0 N q
  | .go z => In0 N z
  | .leap q D => In0 N q ∧ In0 N D
  | .rais kd m => In0 N (kd : Int) ∧ In0 N m
  | .call f n m => In0 N (f : Int) ∧ In0 N (n : Int) ∧ In0 N m
  | .hand b x k D => In0 N b ∧ In0 N x ∧ (∀ j, k = some j → In0 N (j : Int)) ∧ In0 N D
  | .cup b x D => In0 N b ∧ In0 N x ∧ In0 N D
  | _ => True
def TnIn (N : Int) (tn : Tn) : Prop := In0 N tn.1 ∧ In0 N tn.2.1 ∧ In0 N tn.2.2
section
variable {cs : List Nat} {nk : Nat} {N : Int}
theorem Ex.nm (hN : 1000 ≤ N) : ∀ (e : Ex), e.Wf → ∀ r ∈ e.code, r.Nm N
  | .num n, w, r, h => by
    rw [List.mem_singleton.mp h]
    have w : 0 ≤ n ∧ n < 1000 := w
    exact ⟨w.1, by omega⟩
  | .var k, w, r, h => by
    rw [List.mem_singleton.mp h]
    have w : k < 8 := w
    exact ⟨by omega, by omega⟩
  | .bin o a b, w, r, h => by
    rcases List.mem_append.mp h with h | h
    · rcases List.mem_append.mp h with h | h
      · exact Ex.nm hN a w.1 r h
      · exact Ex.nm hN b w.2 r h
    · rw [List.mem_singleton.mp h]; trivial
theorem exs_nm (hN : 1000 ≤ N) : ∀ (ps : List Ex), (∀ e ∈ ps, e.Wf ∧ e.dep ≤ 5) → ∀ r ∈ exsCode ps, r.Nm N
  | [], _, r, h => by cases h
  | e :: ps, w, r, h => by
    rcases List.mem_append.mp h with h | h
    · exact Ex.nm hN e (w e List.mem_cons_self).1 r h
    · exact exs_nm hN ps (fun x hx => w x (List.mem_cons_of_mem _ hx)) r h
mutual
theorem Sm.nm (hN : 1000 ≤ N) (hc : (cs.length : Int) ≤ N) (hk : (nk : Int) ≤ N) : ∀ (s : Sm) (base D : Int) (tn : Tn) (turn hand : Bool), s.Wf cs nk turn hand → 0 ≤ base → base + s.len ≤ N → 0 ≤ D → D + s.dep ≤ N → (turn = true → TnIn N tn) → ∀ r ∈ s.code base D tn, r.Nm N
  | .say e, base, D, tn, turn, hand, w, b0, b1, d0, d1, ht, r, h => by
    rcases List.mem_append.mp h with h | h
    · exact Ex.nm hN e w.1 r h
    · rw [List.mem_singleton.mp h]; trivial
  | .set k e, base, D, tn, turn, hand, w, b0, b1, d0, d1, ht, r, h => by
    rcases List.mem_append.mp h with h | h
    · exact Ex.nm hN e w.2.1 r h
    · rw [List.mem_singleton.mp h]
      have := w.1
      exact ⟨by omega, by omega⟩
  | .row ps, base, D, tn, turn, hand, w, b0, b1, d0, d1, ht, r, h => Sms.nm hN hc hk ps base D tn turn hand w b0 b1 d0 (by have d1 : D + ((ps.dep + 1 : Nat) : Int) ≤ N := d1; omega) ht r h
  | .ife e s t, base, D, tn, turn, hand, w, b0, b1, d0, d1, ht, r, h => by
    have b1 : base + ((e.len + 1 + s.len + 1 + t.len : Nat) : Int) ≤ N := b1
    have d1 : D + ((max s.dep t.dep + 1 : Nat) : Int) ≤ N := d1
    rcases List.mem_append.mp h with h | h
    · rcases List.mem_append.mp h with h | h
      · rcases List.mem_append.mp h with h | h
        · rcases List.mem_append.mp h with h | h
          · exact Ex.nm hN e w.1.1 r h
          · rw [List.mem_singleton.mp h]
            exact ⟨by omega, by omega⟩
        · exact Sm.nm hN hc hk s _ D tn turn hand w.2.1 (by omega) (by omega) d0 (by omega) ht r h
      · rw [List.mem_singleton.mp h]
        exact ⟨by omega, by omega⟩
    · exact Sm.nm hN hc hk t _ D tn turn hand w.2.2 (by omega) (by omega) d0 (by omega) ht r h
  | .whl e s, base, D, tn, turn, hand, w, b0, b1, d0, d1, ht, r, h => by
    have b1 : base + ((e.len + 2 + s.len + 1 : Nat) : Int) ≤ N := b1
    have d1 : D + ((s.dep + 1 : Nat) : Int) ≤ N := d1
    rcases List.mem_append.mp h with h | h
    · rcases List.mem_append.mp h with h | h
      · rcases List.mem_append.mp h with h | h
        · exact Ex.nm hN e w.1.1 r h
        · rcases List.mem_cons.mp h with h | h
          · rw [h]
            exact ⟨by omega, by omega⟩
          · rw [List.mem_singleton.mp h]; trivial
      · exact Sm.nm hN hc hk s _ D _ true hand w.2 (by omega) (by omega) d0 (by omega) (fun _ => ⟨⟨b0, by omega⟩, ⟨by show 0 ≤ base + e.len + 2 + s.len + 1; omega, by show base + e.len + 2 + s.len + 1 ≤ N; omega⟩, ⟨d0, by show D ≤ N; omega⟩⟩) r h
    · rw [List.mem_singleton.mp h]
      exact ⟨by omega, by omega⟩
  | .brk, base, D, tn, turn, hand, w, b0, b1, d0, d1, ht, r, h => by
    rw [List.mem_singleton.mp h]
    have t := ht w
    exact ⟨t.2.1, t.2.2⟩
  | .cnt, base, D, tn, turn, hand, w, b0, b1, d0, d1, ht, r, h => by
    rw [List.mem_singleton.mp h]
    have t := ht w
    exact ⟨t.1, t.2.2⟩
  | .ret e, base, D, tn, turn, hand, w, b0, b1, d0, d1, ht, r, h => by
    rcases List.mem_append.mp h with h | h
    · exact Ex.nm hN e w.1 r h
    · rw [List.mem_singleton.mp h]; trivial
  | .call k f ps m, base, D, tn, turn, hand, w, b0, b1, d0, d1, ht, r, h => by
    obtain ⟨w1, w2, w3, w4, w5, w6⟩ := w
    have hf := (List.getElem?_eq_some_iff.mp w2).1
    rcases List.mem_append.mp h with h | h
    · exact exs_nm hN ps w4 r h
    · rcases List.mem_cons.mp h with h | h
      · rw [h]
        exact ⟨⟨by omega, by omega⟩, ⟨by omega, by omega⟩, ⟨w5, by omega⟩⟩
      · rw [List.mem_singleton.mp h]
        exact ⟨by omega, by omega⟩
  | .rais kd e m, base, D, tn, turn, hand, w, b0, b1, d0, d1, ht, r, h => by
    obtain ⟨w1, w2, w5, w6⟩ := w
    rcases List.mem_append.mp h with h | h
    · exact Ex.nm hN e w2.1 r h
    · rw [List.mem_singleton.mp h]
      exact ⟨⟨by omega, by omega⟩, ⟨w5, by omega⟩⟩
  | .again, base, D, tn, turn, hand, w, b0, b1, d0, d1, ht, r, h => by
    rw [List.mem_singleton.mp h]; trivial
  | .tri s hs, base, D, tn, turn, hand, w, b0, b1, d0, d1, ht, r, h => by
    have b1 : base + ((s.len + 1 + hs.len : Nat) : Int) ≤ N := b1
    have d1 : D + ((max s.dep hs.dep + 1 : Nat) : Int) ≤ N := d1
    rcases List.mem_append.mp h with h | h
    · rcases List.mem_append.mp h with h | h
      · exact Sm.nm hN hc hk s base D tn turn hand w.1 b0 (by omega) d0 (by omega) ht r h
      · rw [List.mem_singleton.mp h]
        exact ⟨by omega, by omega⟩
    · exact Hds.nm hN hc hk hs base (base + s.len) (base + s.len + 1 + hs.len) (base + s.len + 1) D tn turn w.2 ⟨b0, by omega⟩ ⟨by omega, by omega⟩ ⟨by omega, by omega⟩ (by omega) (by omega) d0 (by omega) ht r h
  | .cln s c, base, D, tn, turn, hand, w, b0, b1, d0, d1, ht, r, h => by
    have b1 : base + ((s.len + 2 + c.len + 1 : Nat) : Int) ≤ N := b1
    have d1 : D + ((max s.dep c.dep + 1 : Nat) : Int) ≤ N := d1
    rcases List.mem_append.mp h with h | h
    · rcases List.mem_append.mp h with h | h
      · rcases List.mem_append.mp h with h | h
        · exact Sm.nm hN hc hk s base D tn turn hand w.1 b0 (by omega) d0 (by omega) ht r h
        · rcases List.mem_cons.mp h with h | h
          · rw [h]; trivial
          · rw [List.mem_singleton.mp h]
            exact ⟨⟨b0, by omega⟩, ⟨by omega, by omega⟩, ⟨d0, by omega⟩⟩
      · exact Sm.nm hN hc hk c _ (D + 1) tn turn hand w.2 (by omega) (by omega) (by omega) (by omega) ht r h
    · rw [List.mem_singleton.mp h]; trivial
theorem Sms.nm (hN : 1000 ≤ N) (hc : (cs.length : Int) ≤ N) (hk : (nk : Int) ≤ N) : ∀ (s : Sms) (base D : Int) (tn : Tn) (turn hand : Bool), s.Wf cs nk turn hand → 0 ≤ base → base + s.len ≤ N → 0 ≤ D → D + s.dep ≤ N → (turn = true → TnIn N tn) → ∀ r ∈ s.code base D tn, r.Nm N
  | .nil, base, D, tn, turn, hand, w, b0, b1, d0, d1, ht, r, h => by cases h
  | .cons s q, base, D, tn, turn, hand, w, b0, b1, d0, d1, ht, r, h => by
    have b1 : base + ((s.len + q.len : Nat) : Int) ≤ N := b1
    have d1 : D + ((max s.dep q.dep : Nat) : Int) ≤ N := d1
    rcases List.mem_append.mp h with h | h
    · exact Sm.nm hN hc hk s base D tn turn hand w.1 b0 (by omega) d0 (by omega) ht r h
    · exact Sms.nm hN hc hk q _ D tn turn hand w.2 (by omega) (by omega) d0 (by omega) ht r h
theorem Hds.nm (hN : 1000 ≤ N) (hc : (cs.length : Int) ≤ N) (hk : (nk : Int) ≤ N) : ∀ (hs : Hds) (b x z at_ D : Int) (tn : Tn) (turn : Bool), hs.Wf cs nk turn → In0 N b → In0 N x → In0 N z → 0 ≤ at_ → at_ + hs.len ≤ N → 0 ≤ D → D + hs.dep + 1 ≤ N → (turn = true → TnIn N tn) → ∀ r ∈ hs.code b x z at_ D tn, r.Nm N
  | .nil, b, x, z, at_, D, tn, turn, w, hb, hx, hz, b0, b1, d0, d1, ht, r, h => by cases h
  | .cons k sl t q, b, x, z, at_, D, tn, turn, w, hb, hx, hz, b0, b1, d0, d1, ht, r, h => by
    have b1 : at_ + ((2 + t.len + 2 + q.len : Nat) : Int) ≤ N := b1
    have d1 : D + ((max t.dep q.dep : Nat) : Int) + 1 ≤ N := d1
    obtain ⟨w1, w2, w3, w4⟩ := w
    rcases List.mem_append.mp h with h | h
    · rcases List.mem_append.mp h with h | h
      · rcases List.mem_append.mp h with h | h
        · rcases List.mem_cons.mp h with h | h
          · rw [h]
            exact ⟨hb, hx, fun j e => ⟨by omega, by have := w1 j e; omega⟩, ⟨d0, by omega⟩⟩
          · rw [List.mem_singleton.mp h]
            exact ⟨by omega, by omega⟩
        · exact Sm.nm hN hc hk t _ (D + 1) tn turn true w3 (by omega) (by omega) (by omega) (by omega) ht r h
      · rcases List.mem_cons.mp h with h | h
        · rw [h]; trivial
        · rw [List.mem_singleton.mp h]
          exact hz
    · exact Hds.nm hN hc hk q b x z _ D tn turn w4 hb hx hz (by omega) (by omega) d0 (by omega) ht r h
end
end
theorem PgOk.nm {p : Pg} (ok : PgOk p) : ∀ f ∈ p.code, f.many ≤ 3 ∧ f.rows.length ≤ 1892 ∧ ∀ r ∈ f.rows, r.Nm 2000 := fun f hf => by
  obtain ⟨g, hg, rfl⟩ := List.mem_map.mp hf
  have h1 := ok.small.len g hg
  have h2 := ok.small.dep g hg
  have h3 : p.cs.length ≤ 4 := by unfold Pg.cs; rw [List.length_map]; exact ok.f4
  have h4 := ok.k4
  refine ⟨ok.wf.many g hg, by show (bodyRows g.2).length ≤ 1892; simp [bodyRows, Sm.code_len]; omega, fun r hr => ?_⟩
  have hr : r ∈ g.2.code 0 0 (0, 0, 0) ++ [.num 0, .ret] := hr
  rcases List.mem_append.mp hr with hr | hr
  · exact Sm.nm (N := 2000) (by omega) (by omega) (by omega) g.2 0 0 _ false false (ok.wf.body g hg) (Int.le_refl 0) (by omega) (Int.le_refl 0) (by omega) (by intro z; cases z) r hr
  · rcases List.mem_cons.mp hr with hr | hr
    · rw [hr]; exact ⟨by omega, by omega⟩
    · rw [List.mem_singleton.mp hr]; trivial
end Lp

/-! LxM: a program's code, as rows of parts. -/
namespace Lp
open PySem PySem.Spec PyProof.Rows L2
def tupL : PyData → List PyData
  | .tuple ds => ds
  | _ => []
def Rw.ds (r : Rw) : List PyData := tupL r.d
def Tb.ds (t : Tb) : List PyData := tupL t.d
theorem Rw.d_ds (r : Rw) : PyData.tuple r.ds = r.d := by cases r <;> rfl
theorem Tb.d_ds (t : Tb) : PyData.tuple t.ds = t.d := rfl
def Fc.fd (f : Fc) : Fd := ⟨(f.many : Int), f.rows.map Rw.ds, f.tab.map Tb.ds⟩
theorem Fc.fd_d (f : Fc) : f.fd.d = f.d := by
  unfold Fc.fd Fd.d Fc.d
  have e1 : f.rows.map (PyData.tuple ∘ Rw.ds) = f.rows.map Rw.d := List.map_congr_left fun r _ => Rw.d_ds r
  have e2 : f.tab.map (PyData.tuple ∘ Tb.ds) = f.tab.map Tb.d := List.map_congr_left fun t _ => Tb.d_ds t
  rw [List.map_map, List.map_map, e1, e2]
theorem code_fd (c : List Fc) : codeD c = .tuple ((c.map Fc.fd).map Fd.d) := by
  unfold codeD
  rw [List.map_map]
  congr 1
  exact List.map_congr_left fun f _ => (Fc.fd_d f).symm
theorem wd_int {N i : Int} (hN : N < 10 ^ 9) (h : In0 N i) : Wd (.int i) := .inr (.inl ⟨i, rfl, h.1, by have := h.2; omega⟩)
theorem wd_kind {N : Int} (hN : N < 10 ^ 9) {k : Option Nat} (h : ∀ j, k = some j → In0 N (j : Int)) : Wd (kindD k) := by
  cases k with
  | none => exact .inl rfl
  | some j => exact wd_int hN (h j rfl)
theorem wd_str {s : Str} (h : s.length ≤ 12) : Wd (.str s) := .inr (.inr ⟨s, rfl, h⟩)
theorem rowOk1 {a : PyData} (ha : Wd a) : RowOk [a] := ⟨by simp, fun d hd => by rw [List.mem_singleton.mp hd]; exact ha⟩
theorem rowOkC {a : PyData} {ds : List PyData} (ha : Wd a) (h : RowOk ds) (l : ds.length ≤ 7) : RowOk (a :: ds) := ⟨by simp; omega, fun d hd => (List.mem_cons.mp hd).elim (fun e => e ▸ ha) (h.wd d)⟩
theorem rowOk0 : RowOk [] := ⟨by simp, fun d hd => by cases hd⟩
theorem Rw.rowOk {N : Int} (hN : N < 10 ^ 9) (r : Rw) (h : r.Nm N) : RowOk r.ds := by
  have i := fun {i : Int} (h : In0 N i) => wd_int hN h
  cases r with
  | num n => exact rowOkC (wd_str (by decide)) (rowOkC (i h) rowOk0 (by simp)) (by simp)
  | var k => exact rowOkC (wd_str (by decide)) (rowOkC (i h) rowOk0 (by simp)) (by simp)
  | op o => exact rowOkC (wd_str (by cases o <;> decide)) rowOk0 (by simp)
  | say => exact rowOkC (wd_str (by decide)) rowOk0 (by simp)
  | set k => exact rowOkC (wd_str (by decide)) (rowOkC (i h) rowOk0 (by simp)) (by simp)
  | «unless» q => exact rowOkC (wd_str (by decide)) (rowOkC (i h) rowOk0 (by simp)) (by simp)
  | go z => exact rowOkC (wd_str (by decide)) (rowOkC (i h) rowOk0 (by simp)) (by simp)
  | turn => exact rowOkC (wd_str (by decide)) rowOk0 (by simp)
  | leap q D => exact rowOkC (wd_str (by decide)) (rowOkC (i h.1) (rowOkC (i h.2) rowOk0 (by simp)) (by simp)) (by simp)
  | ret => exact rowOkC (wd_str (by decide)) rowOk0 (by simp)
  | rais kd m => exact rowOkC (wd_str (by decide)) (rowOkC (i h.1) (rowOkC (i h.2) rowOk0 (by simp)) (by simp)) (by simp)
  | again => exact rowOkC (wd_str (by decide)) rowOk0 (by simp)
  | call f n m => exact rowOkC (wd_str (by decide)) (rowOkC (i h.1) (rowOkC (i h.2.1) (rowOkC (i h.2.2) rowOk0 (by simp)) (by simp)) (by simp)) (by simp)
  | hand b x k D => exact rowOkC (wd_str (by decide)) (rowOkC (i h.1) (rowOkC (i h.2.1) (rowOkC (wd_kind hN h.2.2.1) (rowOkC (i h.2.2.2) rowOk0 (by simp)) (by simp)) (by simp)) (by simp)) (by simp)
  | settled => exact rowOkC (wd_str (by decide)) rowOk0 (by simp)
  | mend => exact rowOkC (wd_str (by decide)) rowOk0 (by simp)
  | cup b x D => exact rowOkC (wd_str (by decide)) (rowOkC (i h.1) (rowOkC (i h.2.1) (rowOkC (i h.2.2) rowOk0 (by simp)) (by simp)) (by simp)) (by simp)
  | resume => exact rowOkC (wd_str (by decide)) rowOk0 (by simp)
/-- a table's row with its numbers from nought to N -/
structure Tb.Nm (N : Int) (t : Tb) : Prop where
  b : In0 N t.b
  x : In0 N t.x
  kd : ∀ k, t.kd = some k → ∀ j, k = some j → In0 N (j : Int)
  p : In0 N t.p
  D : In0 N t.D
theorem tab_nm {N : Int} : ∀ (rows : List Rw) (p : Int), 0 ≤ p → p + rows.length ≤ N → (∀ r ∈ rows, r.Nm N) → ∀ t ∈ tabAt p rows, t.Nm N
  | [], p, _, _, _, t, h => by cases h
  | r :: rows, p, h0, h1, hr, t, h => by
    have h1 : p + ((rows.length + 1 : Nat) : Int) ≤ N := h1
    rcases List.mem_append.mp h with h | h
    · have hrr := hr r List.mem_cons_self
      cases r with
      | hand b x k D =>
        rw [List.mem_singleton.mp h]
        exact ⟨hrr.1, hrr.2.1, (fun k' e j ej => hrr.2.2.1 j (by cases e; exact ej)), ⟨h0, by show p ≤ N; omega⟩, hrr.2.2.2⟩
      | cup b x D =>
        rw [List.mem_singleton.mp h]
        exact ⟨hrr.1, hrr.2.1, (fun k' e => by cases e), ⟨h0, by show p ≤ N; omega⟩, hrr.2.2⟩
      | _ => cases h
    · exact tab_nm rows (p + 1) (by omega) (by omega) (fun r hr' => hr r (List.mem_cons_of_mem _ hr')) t h
theorem Tb.rowOk {N : Int} (hN : N < 10 ^ 9) (t : Tb) (h : t.Nm N) : RowOk t.ds := by
  have i := fun {i : Int} (h : In0 N i) => wd_int hN h
  obtain ⟨b, x, kd, p, D⟩ := t
  cases kd with
  | none => exact rowOkC (i h.b) (rowOkC (i h.x) (rowOkC (wd_str (by show (Str.ofString _).length ≤ 12; decide)) (rowOkC (.inl rfl) (rowOkC (i h.p) (rowOkC (i h.D) rowOk0 (by simp)) (by simp)) (by simp)) (by simp)) (by simp)) (by simp)
  | some k => exact rowOkC (i h.b) (rowOkC (i h.x) (rowOkC (wd_str (by show (Str.ofString _).length ≤ 12; decide)) (rowOkC (wd_kind hN (h.kd k rfl)) (rowOkC (i h.p) (rowOkC (i h.D) rowOk0 (by simp)) (by simp)) (by simp)) (by simp)) (by simp)) (by simp)
theorem PgOk.fdOk {p : Pg} (ok : PgOk p) : (∀ f ∈ p.code.map Fc.fd, FdOk f) ∧ (p.code.map Fc.fd).length ≤ 10 := by
  refine ⟨fun g hg => ?_, ?_⟩
  · obtain ⟨f, hf, rfl⟩ := List.mem_map.mp hg
    obtain ⟨h1, h2, h3⟩ := ok.nm f hf
    have ht := tab_nm (N := 2000) f.rows 0 (Int.le_refl 0) (by omega) h3
    refine ⟨⟨by show (0 : Int) ≤ (f.many : Int); omega, by show (f.many : Int) < _; omega⟩, fun r hr => ?_, fun r hr => ?_, ?_, ?_⟩
    · obtain ⟨w, hw, rfl⟩ := List.mem_map.mp hr
      exact w.rowOk (by omega) (h3 w hw)
    · obtain ⟨t, ht', rfl⟩ := List.mem_map.mp hr
      exact t.rowOk (by omega) (ht t ht')
    · show (f.rows.map Rw.ds).length ≤ 2100
      rw [List.length_map]; omega
    · show (f.tab.map Tb.ds).length ≤ 2100
      rw [List.length_map]
      have := tabAt_len f.rows 0
      show (tabAt 0 f.rows).length ≤ 2100
      omega
  · have := ok.f4
    simp [Pg.code]; omega
end Lp

namespace Lr
open PySem PySem.Spec PyProof.Rows L2 Lp
def topS (i : Nat) : Stmt := PySem.Challenge.pw_leaps_k17_listed.main.body.getD i (.Pass ⟨0, 0, 0, 0⟩)
def spLaw (K : PySem.W.Frag) : Sp := fun vs H Q _ => ∃ (a : Addr) (ns : List Int), vs = [.ref a] ∧ SqL K H a (ns.map V.int) ∧ ns.length ≤ 63 ∧ ∀ H', Q (.bl true) H'
def t_law (K : PySem.W.Frag) (sp_law_coded : Sp) (sp_law_program : Sp) (sp_law_alike : Sp) (sp_listing : Sp) (sp_law_listed : Sp) : TS :=
  tSeq (tAsg (tCB (rLstOf K) (tCons (tVar 0) (tNil))) (gName 1)) (tSeq (tAsg (tCall sp_law_coded [] E0 (tCons (tCall sp_law_program [] E0 (tCons (tVar 1) (tNil))) (tNil))) (gName 2)) (tRet (tCall sp_law_alike [] E0 (tCons (tCall sp_listing [] E0 (tCons (tVar 2) (tNil))) (tCons (tCall sp_law_listed [] E0 (tCons (tVar 2) (tNil))) (tNil))))))

theorem rd_law {K : PySem.W.Frag} (vs : List V) (H : Hp) (Q : VK) (E : XK) (h : spLaw K vs H Q E) : t_law K (spCodedL (K := K) 5) (spProgram K) (spAlike K 5) (KL.spList K) (KL.spList K) { nx := fun _ H' => Q .non H', rt := Q } (start ["_law_script", "_law_box", "_law_code_here"] vs) H := by
  obtain ⟨a, ns, rfl, hS, hlen, q⟩ := h
  refine ⟨_, rfl, a, _, rfl, .inl hS, fun b hb => ?_⟩
  refine ⟨_, rfl, b, ns, rfl, upd_same, fun v p l1 H1 ok tp hb1 kp1 => ?_⟩
  refine ⟨v, p, rfl, tp, ok.pgC, fun cv H2 tc s2 => ?_⟩
  have tc : Tp K H2 cv (.tuple ((p.code.map Fc.fd).map Fd.d)) := by rw [← code_fd]; exact tc
  obtain ⟨o1, o2⟩ := ok.fdOk
  refine ⟨_, rfl, ⟨⟨cv, _, rfl, tc, o1, o2, fun H3 s3 => ?_⟩⟩⟩
  refine ⟨_, rfl, ⟨⟨cv, _, rfl, tc.mono (Tk.same s3), o1, o2, fun H4 s4 => ?_⟩⟩⟩
  exact ⟨_, _, .str (listingD (p.code.map Fc.fd)), rfl, .str _, .str _, by show 0 < 5; decide, by show 0 ≤ 1000000; decide, q _⟩
section
variable {P : Program} {w : World} {K : PySem.W.Frag} {mg : Str → Option Value} {base : Heap} {k : Nat}
abbrev s_word_of : Stmt := topS 1
abbrev N_word_of : List Str := ["part"]
theorem sc_word_of : FnScope N_word_of ["part"] (defScope s_word_of) := ⟨rfl, rfl, rfl, by decide +kernel, rfl, by decide +kernel, by decide +kernel⟩
theorem ok_word_of  {f : Addr} {fd : FuncData} (D : FunD K "word_of" "word_of" (defArgs s_word_of) (defBody s_word_of) (defScope s_word_of) [] [] f fd) (B_str : mg "str" = none) {sp : Sp}
    (len : ∀ vs H Q E, sp vs H Q E → vs.length = 1)
    (rd : ∀ vs H Q E, sp vs H Q E → t_word_of K { nx := fun _ H' => Q .non H', rt := Q } (start N_word_of vs) H) : FnOk P w K mg base CX0 (k + 1) f fd ["part"] sp := by
  refine D.ok sc_word_of len (fun cdv A outer s H vs Q E hr h => ⟨t_word_of K, PSs.nox ?_, rd vs H Q E h⟩)
  · unfold t_word_of
    exact pss_cons (ps_if (pt_cmpR op_isN (pv 0) (pe_non) (nomark _)) (pss_one (ps_ret (pe_str))) (pss_nil))
        (pss_one (ps_ret (pe_callTy call_str1 (by rfl) B_str (by decide +kernel) (pa_cons (pv 0) (pa_nil)))))

abbrev s_line_of : Stmt := topS 2
abbrev N_line_of : List Str := ["row", "part"]
theorem sc_line_of : FnScope N_line_of ["row"] (defScope s_line_of) := ⟨rfl, rfl, rfl, by decide +kernel, rfl, by decide +kernel, by decide +kernel⟩
theorem ok_line_of {sp_word_of : Sp} {f : Addr} {fd : FuncData} (D : FunD K "line_of" "line_of" (defArgs s_line_of) (defBody s_line_of) (defScope s_line_of) [] [] f fd) (c_word_of : Cal P w K mg base k "word_of" ["part"] sp_word_of) {sp : Sp}
    (len : ∀ vs H Q E, sp vs H Q E → vs.length = 1)
    (rd : ∀ vs H Q E, sp vs H Q E → t_line_of K sp_word_of { nx := fun _ H' => Q .non H', rt := Q } (start N_line_of vs) H) : FnOk P w K mg base CX0 (k + 1) f fd ["row"] sp := by
  refine D.ok sc_line_of len (fun cdv A outer s H vs Q E hr h => ⟨t_line_of K sp_word_of, PSs.nox ?_, rd vs H Q E h⟩)
  · unfold t_line_of
    exact pss_one (ps_ret (pe_joinR (pe_str) (pe_lc (own := [("part", 1)]) (g := gName 1) rfl sc_line_of.nd (pi_tup (pv 0)) (blkOk_by (own := [("part", 1)]) (N := N_line_of) (sc := defScope s_line_of) (by decide +kernel)) (fun _ _ _ _ _ => pg_name (i := 1) sc_line_of.nd rfl (Or.inl rfl)) (fun _ _ _ _ _ => pts_nil) (fun _ _ _ _ _ => pc c_word_of hr (pa_cons (pv 1) (pa_nil))))))

abbrev s_listing : Stmt := topS 3
abbrev N_listing : List Str := ["code", "lines", "function", "row"]
theorem sc_listing : FnScope N_listing ["code"] (defScope s_listing) := ⟨rfl, rfl, rfl, by decide +kernel, rfl, by decide +kernel, by decide +kernel⟩
theorem ok_listing {sp_line_of : Sp} {f : Addr} {fd : FuncData} (D : FunD K "listing" "listing" (defArgs s_listing) (defBody s_listing) (defScope s_listing) [] [] f fd) (B_str : mg "str" = none) (c_line_of : Cal P w K mg base k "line_of" ["row"] sp_line_of) {sp : Sp}
    (len : ∀ vs H Q E, sp vs H Q E → vs.length = 1)
    (rd : ∀ vs H Q E, sp vs H Q E → t_listing K sp_line_of { nx := fun _ H' => Q .non H', rt := Q } (start N_listing vs) H) : FnOk P w K mg base CX0 (k + 1) f fd ["code"] sp := by
  refine D.ok sc_listing len (fun cdv A outer s H vs Q E hr h => ⟨t_listing K sp_line_of, PSs.nox ?_, rd vs H Q E h⟩)
  · unfold t_listing
    exact pss_cons (ps_set (i := 1) sc_listing.nd rfl (by first | exact Or.inl rfl | exact Or.inr rfl) (pe_lst (pa_nil)))
        (pss_cons (ps_for PassesOwn.never rfl (pi_tup (pv 0)) (pg_name (i := 2) sc_listing.nd rfl (by first | exact Or.inl rfl | exact Or.inr rfl)) (pss_cons (ps_expr (pe_bm PySem.F.plainAttrs_list PySem.F.slot_list_append PySem.F.type_list_append mt_append (pv 1) (pa_cons (pe_op op_addS (pe_str) (pe_callTy call_str1 (by rfl) B_str (by decide +kernel) (pa_cons (pe_ix ix_tup (pv 2) (pe_int) (fun _ _ => rfl)) (pa_nil)))) (pa_nil))))
        (pss_cons (ps_for PassesOwn.never rfl (pi_tup (pe_ix ix_tup (pv 2) (pe_int) (fun _ _ => rfl))) (pg_name (i := 3) sc_listing.nd rfl (by first | exact Or.inl rfl | exact Or.inr rfl)) (pss_one (ps_expr (pe_bm PySem.F.plainAttrs_list PySem.F.slot_list_append PySem.F.type_list_append mt_append (pv 1) (pa_cons (pc c_line_of hr (pa_cons (pv 3) (pa_nil))) (pa_nil))))))
        (pss_one (ps_for PassesOwn.never rfl (pi_tup (pe_ix ix_tup (pv 2) (pe_int) (fun _ _ => rfl))) (pg_name (i := 3) sc_listing.nd rfl (by first | exact Or.inl rfl | exact Or.inr rfl)) (pss_one (ps_expr (pe_bm PySem.F.plainAttrs_list PySem.F.slot_list_append PySem.F.type_list_append mt_append (pv 1) (pa_cons (pe_op op_addS (pe_str) (pc c_line_of hr (pa_cons (pv 3) (pa_nil)))) (pa_nil))))))))))
        (pss_one (ps_ret (pe_joinR (pe_str) (pv 1)))))

abbrev s_law_take : Stmt := topS 5
abbrev N_law_take : List Str := ["_law_box", "_law_many", "_law_number"]
theorem sc_law_take : FnScope N_law_take ["_law_box", "_law_many"] (defScope s_law_take) := ⟨rfl, rfl, rfl, by decide +kernel, rfl, by decide +kernel, by decide +kernel⟩
theorem ok_law_take  {f : Addr} {fd : FuncData} (D : FunD K "_law_take" "_law_take" (defArgs s_law_take) (defBody s_law_take) (defScope s_law_take) [] [] f fd)  {sp : Sp}
    (len : ∀ vs H Q E, sp vs H Q E → vs.length = 2)
    (rd : ∀ vs H Q E, sp vs H Q E → t_law_take K { nx := fun _ H' => Q .non H', rt := Q } (start N_law_take vs) H) : FnOk P w K mg base CX0 (k + 1) f fd ["_law_box", "_law_many"] sp := by
  refine D.ok sc_law_take len (fun cdv A outer s H vs Q E hr h => ⟨t_law_take K, PSs.nox ?_, rd vs H Q E h⟩)
  · unfold t_law_take
    exact pss_cons (ps_if (pt_cmpR (op_eqD hr.units) (pv 0) (pe_lst (pa_nil)) (nomark _)) (pss_one (ps_ret (pe_int))) (pss_nil))
        (pss_cons (ps_set (i := 2) sc_law_take.nd rfl (by first | exact Or.inl rfl | exact Or.inr rfl) (pe_ix ix_list (pv 0) (pe_int) (fun _ _ => rfl)))
        (pss_cons (ps_asg (pe_op op_fdivW (pv 2) (pv 1)) (pg_sub (pv 0) (pe_int) set_list))
        (pss_cons (ps_if (PW.pt (pw_or (pt_cmpR op_eq (pe_ix ix_list (pv 0) (pe_int) (fun _ _ => rfl)) (pe_int) (nomark _)) (pw_or1 (pt_cmpR op_eq (pe_ix ix_list (pv 0) (pe_int) (fun _ _ => rfl)) (pe_un un_neg (pe_int)) (nomark _))))) (pss_one (ps_expr (pe_bm PySem.F.plainAttrs_list PySem.F.slot_list_pop PySem.F.type_list_pop mt_popAt (pv 0) (pa_cons (pe_int) (pa_nil))))) (pss_nil))
        (pss_one (ps_ret (pe_op op_mod (pv 2) (pv 1)))))))

abbrev s_law_alike : Stmt := topS 6
abbrev N_law_alike : List Str := ["_law_found", "_law_due", "_law_k"]
theorem sc_law_alike : FnScope N_law_alike ["_law_found", "_law_due"] (defScope s_law_alike) := ⟨rfl, rfl, rfl, by decide +kernel, rfl, by decide +kernel, by decide +kernel⟩
theorem ok_law_alike {sp_law_alike : Sp} {f : Addr} {fd : FuncData} (D : FunD K "_law_alike" "_law_alike" (defArgs s_law_alike) (defBody s_law_alike) (defScope s_law_alike) [] [] f fd) (B_isinstance : mg "isinstance" = none) (B_bool : mg "bool" = none) (B_int : mg "int" = none) (B_str : mg "str" = none) (B_tuple : mg "tuple" = none) (B_list : mg "list" = none) (B_len : mg "len" = none) (B_range : mg "range" = none) (c_law_alike : Cal P w K mg base k "_law_alike" ["_law_found", "_law_due"] sp_law_alike) {sp : Sp}
    (len : ∀ vs H Q E, sp vs H Q E → vs.length = 2)
    (rd : ∀ vs H Q E, sp vs H Q E → t_law_alike K sp_law_alike { nx := fun _ H' => Q .non H', rt := Q } (start N_law_alike vs) H) : FnOk P w K mg base CX0 (k + 1) f fd ["_law_found", "_law_due"] sp := by
  refine D.ok sc_law_alike len (fun cdv A outer s H vs Q E hr h => ⟨t_law_alike K sp_law_alike, PSs.nox ?_, rd vs H Q E h⟩)
  · unfold t_law_alike
    exact pss_cons (ps_if (pt_cmpR op_isN (pv 1) (pe_non) (nomark _)) (pss_one (ps_ret (pe_cmpR op_isN (pv 0) (pe_non) (nomark _)))) (pss_nil))
        (pss_cons (ps_if (pt_val (pe_callB call_isi (by rfl) B_isinstance (by decide +kernel) (pa_cons (pv 1) (pa_cons (pe_bltn (by rfl) B_bool (by decide +kernel) rfl) (pa_nil))))) (pss_one (ps_ret (pe_and (pe_callB call_isi (by rfl) B_isinstance (by decide +kernel) (pa_cons (pv 0) (pa_cons (pe_bltn (by rfl) B_bool (by decide +kernel) rfl) (pa_nil)))) (pe_one (pe_cmpR op_eq (pv 0) (pv 1) (nomark _)))))) (pss_nil))
        (pss_cons (ps_if (pt_val (pe_callB call_isi (by rfl) B_isinstance (by decide +kernel) (pa_cons (pv 1) (pa_cons (pe_bltn (by rfl) B_int (by decide +kernel) rfl) (pa_nil))))) (pss_one (ps_ret (pe_and (pe_callB call_isi (by rfl) B_isinstance (by decide +kernel) (pa_cons (pv 0) (pa_cons (pe_bltn (by rfl) B_int (by decide +kernel) rfl) (pa_nil)))) (pe_and (pe_not (pe_callB call_isi (by rfl) B_isinstance (by decide +kernel) (pa_cons (pv 0) (pa_cons (pe_bltn (by rfl) B_bool (by decide +kernel) rfl) (pa_nil))))) (pe_one (pe_cmpR op_eq (pv 0) (pv 1) (nomark _))))))) (pss_nil))
        (pss_cons (ps_if (pt_val (pe_callB call_isi (by rfl) B_isinstance (by decide +kernel) (pa_cons (pv 1) (pa_cons (pe_bltn (by rfl) B_str (by decide +kernel) rfl) (pa_nil))))) (pss_one (ps_ret (pe_and (pe_callB call_isi (by rfl) B_isinstance (by decide +kernel) (pa_cons (pv 0) (pa_cons (pe_bltn (by rfl) B_str (by decide +kernel) rfl) (pa_nil)))) (pe_one (pe_cmpR op_eq (pv 0) (pv 1) (nomark _)))))) (pss_nil))
        (pss_cons (ps_if (PW.pt (pw_or (pt_cmpR op_ne (pe_callB call_isi (by rfl) B_isinstance (by decide +kernel) (pa_cons (pv 1) (pa_cons (pe_bltn (by rfl) B_tuple (by decide +kernel) rfl) (pa_nil)))) (pe_callB call_isi (by rfl) B_isinstance (by decide +kernel) (pa_cons (pv 0) (pa_cons (pe_bltn (by rfl) B_tuple (by decide +kernel) rfl) (pa_nil)))) (nomark _)) (pw_or1 (pt_cmpR op_ne (pe_callB call_isi (by rfl) B_isinstance (by decide +kernel) (pa_cons (pv 1) (pa_cons (pe_bltn (by rfl) B_list (by decide +kernel) rfl) (pa_nil)))) (pe_callB call_isi (by rfl) B_isinstance (by decide +kernel) (pa_cons (pv 0) (pa_cons (pe_bltn (by rfl) B_list (by decide +kernel) rfl) (pa_nil)))) (nomark _))))) (pss_one (ps_ret (pe_bl))) (pss_nil))
        (pss_cons (ps_if (pt_cmpR op_ne (pe_callB call_len_seq (by rfl) B_len PySem.boot_len (pa_cons (pv 0) (pa_nil))) (pe_callB call_len_seq (by rfl) B_len PySem.boot_len (pa_cons (pv 1) (pa_nil))) (nomark _)) (pss_one (ps_ret (pe_bl))) (pss_nil))
        (pss_cons (ps_for PassesOwn.never rfl (pi_range1 (by rfl) B_range (pa_cons (pe_callB call_len_seq (by rfl) B_len PySem.boot_len (pa_cons (pv 1) (pa_nil))) (pa_nil))) (pg_name (i := 2) sc_law_alike.nd rfl (by first | exact Or.inl rfl | exact Or.inr rfl)) (pss_one (ps_if (pt_not (pt_val (pc c_law_alike hr (pa_cons (pe_ix ix_seq (pv 0) (pv 2) (fun _ _ => rfl)) (pa_cons (pe_ix ix_seq (pv 1) (pv 2) (fun _ _ => rfl)) (pa_nil)))))) (pss_one (ps_ret (pe_bl))) (pss_nil))))
        (pss_one (ps_ret (pe_bl)))))))))

abbrev s_law_part : Stmt := topS 7
abbrev N_law_part : List Str := ["_law_box", "_law_deep", "_law_kind", "_law_word_here", "_law_one"]
theorem sc_law_part : FnScope N_law_part ["_law_box", "_law_deep"] (defScope s_law_part) := ⟨rfl, rfl, rfl, by decide +kernel, rfl, by decide +kernel, by decide +kernel⟩
theorem ok_law_part {sp_law_take : Sp} {sp_law_part : Sp} {f : Addr} {fd : FuncData} (D : FunD K "_law_part" "_law_part" (defArgs s_law_part) (defBody s_law_part) (defScope s_law_part) [] [] f fd) (c_law_take : Cal P w K mg base k "_law_take" ["_law_box", "_law_many"] sp_law_take) (c_law_part : Cal P w K mg base k "_law_part" ["_law_box", "_law_deep"] sp_law_part) {sp : Sp}
    (len : ∀ vs H Q E, sp vs H Q E → vs.length = 2)
    (rd : ∀ vs H Q E, sp vs H Q E → t_law_part K sp_law_take sp_law_part { nx := fun _ H' => Q .non H', rt := Q } (start N_law_part vs) H) : FnOk P w K mg base CX0 (k + 1) f fd ["_law_box", "_law_deep"] sp := by
  refine D.ok sc_law_part len (fun cdv A outer s H vs Q E hr h => ⟨t_law_part K sp_law_take sp_law_part, PSs.nox ?_, rd vs H Q E h⟩)
  · unfold t_law_part
    exact pss_cons (ps_set (i := 2) sc_law_part.nd rfl (by first | exact Or.inl rfl | exact Or.inr rfl) (pc c_law_take hr (pa_cons (pv 0) (pa_cons (pe_int) (pa_nil)))))
        (pss_cons (ps_if (pt_cmpR op_lt (pv 2) (pe_int) (nomark _)) (pss_one (ps_ret (pe_tup (pa_cons (pe_str) (pa_cons (pc c_law_take hr (pa_cons (pv 0) (pa_cons (pe_int) (pa_nil)))) (pa_nil)))))) (pss_nil))
        (pss_cons (ps_if (PW.pt (pw_or (pt_cmpR op_eq (pv 1) (pe_int) (nomark _)) (pw_or1 (pt_cmpR op_eq (pv 2) (pe_int) (nomark _))))) (pss_one (ps_ret (pe_tup (pa_cons (pe_str) (pa_cons (pc c_law_take hr (pa_cons (pv 0) (pa_cons (pe_int) (pa_nil)))) (pa_nil)))))) (pss_nil))
        (pss_cons (ps_if (pt_cmpR op_lt (pv 2) (pe_int) (nomark _)) (pss_one (ps_ret (pe_tup (pa_cons (pe_str) (pa_cons (pc c_law_take hr (pa_cons (pv 0) (pa_cons (pe_int) (pa_nil)))) (pa_nil)))))) (pss_nil))
        (pss_cons (ps_set (i := 3) sc_law_part.nd rfl (by first | exact Or.inl rfl | exact Or.inr rfl) (pe_ix ix_list (pe_lst (pa_cons (pe_str) (pa_cons (pe_str) (pa_cons (pe_str) (pa_cons (pe_str) (pa_nil)))))) (pc c_law_take hr (pa_cons (pv 0) (pa_cons (pe_int) (pa_nil)))) (fun _ _ => rfl)))
        (pss_cons (ps_set (i := 4) sc_law_part.nd rfl (by first | exact Or.inl rfl | exact Or.inr rfl) (pc c_law_part hr (pa_cons (pv 0) (pa_cons (pe_op op_sub (pv 1) (pe_int)) (pa_nil)))))
        (pss_one (ps_ret (pe_tup (pa_cons (pv 3) (pa_cons (pv 4) (pa_cons (pc c_law_part hr (pa_cons (pv 0) (pa_cons (pe_op op_sub (pv 1) (pe_int)) (pa_nil)))) (pa_nil))))))))))))

abbrev s_law_kinds : Stmt := topS 8
abbrev N_law_kinds : List Str := ["_law_box", "_law_most", "_law_kinds_here", "_law_k", "_law_above_here"]
theorem sc_law_kinds : FnScope N_law_kinds ["_law_box", "_law_most"] (defScope s_law_kinds) := ⟨rfl, rfl, rfl, by decide +kernel, rfl, by decide +kernel, by decide +kernel⟩
theorem ok_law_kinds {sp_law_take : Sp} {f : Addr} {fd : FuncData} (D : FunD K "_law_kinds" "_law_kinds" (defArgs s_law_kinds) (defBody s_law_kinds) (defScope s_law_kinds) [] [] f fd) (B_range : mg "range" = none) (c_law_take : Cal P w K mg base k "_law_take" ["_law_box", "_law_many"] sp_law_take) (B_int : mg "int" = none) (B_tuple : mg "tuple" = none) {sp : Sp}
    (len : ∀ vs H Q E, sp vs H Q E → vs.length = 2)
    (rd : ∀ vs H Q E, sp vs H Q E → t_law_kinds K sp_law_take { nx := fun _ H' => Q .non H', rt := Q } (start N_law_kinds vs) H) : FnOk P w K mg base CX0 (k + 1) f fd ["_law_box", "_law_most"] sp := by
  refine D.ok sc_law_kinds len (fun cdv A outer s H vs Q E hr h => ⟨t_law_kinds K sp_law_take, PSs.nox ?_, rd vs H Q E h⟩)
  · unfold t_law_kinds
    exact pss_cons (ps_set (i := 2) sc_law_kinds.nd rfl (by first | exact Or.inl rfl | exact Or.inr rfl) (pe_lst (pa_nil)))
        (pss_cons (ps_for PassesOwn.never rfl (pi_range1 (by rfl) B_range (pa_cons (pe_op op_add (pe_int) (pc c_law_take hr (pa_cons (pv 0) (pa_cons (pv 1) (pa_nil))))) (pa_nil))) (pg_name (i := 3) sc_law_kinds.nd rfl (by first | exact Or.inl rfl | exact Or.inr rfl)) (pss_cons (ps_set (i := 4) sc_law_kinds.nd rfl (by first | exact Or.inl rfl | exact Or.inr rfl) (pc c_law_take hr (pa_cons (pv 0) (pa_cons (pe_op op_add (pv 3) (pe_int)) (pa_nil)))))
        (pss_one (ps_expr (pe_bm PySem.F.plainAttrs_list PySem.F.slot_list_append PySem.F.type_list_append mt_append (pv 2) (pa_cons (pe_ix ix_list (pe_lst (pa_cons (pe_non) (pa_cons (pe_op op_sub (pv 4) (pe_int)) (pa_nil)))) (pe_callTy call_int1 (by rfl) B_int (by decide +kernel) (pa_cons (pe_cmpR op_gt (pv 4) (pe_int) (nomark _)) (pa_nil))) (fun _ _ => rfl)) (pa_nil)))))))
        (pss_one (ps_ret (pe_callTy call_tuple_of (by rfl) B_tuple (by decide +kernel) (pa_cons (pv 2) (pa_nil))))))

abbrev s_law_call : Stmt := topS 10
abbrev N_law_call : List Str := ["_law_box", "_law_shape", "_law_number", "_law_slot", "_law_parts", "_law_k"]
theorem sc_law_call : FnScope N_law_call ["_law_box", "_law_shape"] (defScope s_law_call) := ⟨rfl, rfl, rfl, by decide +kernel, rfl, by decide +kernel, by decide +kernel⟩
theorem ok_law_call {sp_law_take : Sp} {sp_law_part : Sp} {f : Addr} {fd : FuncData} (D : FunD K "_law_call" "_law_call" (defArgs s_law_call) (defBody s_law_call) (defScope s_law_call) [] [] f fd) (c_law_take : Cal P w K mg base k "_law_take" ["_law_box", "_law_many"] sp_law_take) (B_len : mg "len" = none) (B_range : mg "range" = none) (c_law_part : Cal P w K mg base k "_law_part" ["_law_box", "_law_deep"] sp_law_part) (B_tuple : mg "tuple" = none) {sp : Sp}
    (len : ∀ vs H Q E, sp vs H Q E → vs.length = 2)
    (rd : ∀ vs H Q E, sp vs H Q E → t_law_call K sp_law_take sp_law_part { nx := fun _ H' => Q .non H', rt := Q } (start N_law_call vs) H) : FnOk P w K mg base CX0 (k + 1) f fd ["_law_box", "_law_shape"] sp := by
  refine D.ok sc_law_call len (fun cdv A outer s H vs Q E hr h => ⟨t_law_call K sp_law_take sp_law_part, PSs.nox ?_, rd vs H Q E h⟩)
  · unfold t_law_call
    exact pss_cons (ps_set (i := 2) sc_law_call.nd rfl (by first | exact Or.inl rfl | exact Or.inr rfl) (pc c_law_take hr (pa_cons (pv 0) (pa_cons (pe_callB call_len_seq (by rfl) B_len PySem.boot_len (pa_cons (pe_ix ix_list (pv 1) (pe_int) (fun _ _ => rfl)) (pa_nil))) (pa_nil)))))
        (pss_cons (ps_set (i := 3) sc_law_call.nd rfl (by first | exact Or.inl rfl | exact Or.inr rfl) (pc c_law_take hr (pa_cons (pv 0) (pa_cons (pe_int) (pa_nil)))))
        (pss_cons (by first | exact ps_setLc (i := 4) (own := [("_law_k", 5)]) (g := gName 5) rfl sc_law_call.nd rfl rfl (sw_true rfl rfl rfl (by decide +kernel)) (pi_range1 (by rfl) B_range (pa_cons (pe_ix ix_list (pe_ix ix_list (pv 1) (pe_int) (fun _ _ => rfl)) (pv 2) (fun _ _ => rfl)) (pa_nil))) (blkOk_by (own := [("_law_k", 5)]) (N := N_law_call) (sc := defScope s_law_call) (by decide +kernel)) (fun _ _ _ _ _ => pg_name (i := 5) sc_law_call.nd rfl (Or.inl rfl)) (fun _ _ _ _ _ => pts_nil) (fun _ _ _ _ _ => pc c_law_part hr (pa_cons (pv 0) (pa_cons (pe_int) (pa_nil)))) | exact ps_set (i := 4) sc_law_call.nd rfl (Or.inr rfl) (pe_lc (own := [("_law_k", 5)]) (g := gName 5) rfl sc_law_call.nd (pi_range1 (by rfl) B_range (pa_cons (pe_ix ix_list (pe_ix ix_list (pv 1) (pe_int) (fun _ _ => rfl)) (pv 2) (fun _ _ => rfl)) (pa_nil))) (blkOk_by (own := [("_law_k", 5)]) (N := N_law_call) (sc := defScope s_law_call) (by decide +kernel)) (fun _ _ _ _ _ => pg_name (i := 5) sc_law_call.nd rfl (Or.inl rfl)) (fun _ _ _ _ _ => pts_nil) (fun _ _ _ _ _ => pc c_law_part hr (pa_cons (pv 0) (pa_cons (pe_int) (pa_nil))))))
        (pss_one (ps_ret (pe_tup (pa_cons (pe_str) (pa_cons (pv 3) (pa_cons (pv 2) (pa_cons (pe_callTy call_tuple_of (by rfl) B_tuple (by decide +kernel) (pa_cons (pv 4) (pa_nil))) (pa_cons (pc c_law_take hr (pa_cons (pv 0) (pa_cons (pe_int) (pa_nil)))) (pa_nil)))))))))))

abbrev s_law_simple : Stmt := topS 11
abbrev N_law_simple : List Str := ["_law_box", "_law_shape", "_law_turn", "_law_handler_here", "_law_kind", "_law_number"]
theorem sc_law_simple : FnScope N_law_simple ["_law_box", "_law_shape", "_law_turn", "_law_handler_here"] (defScope s_law_simple) := ⟨rfl, rfl, rfl, by decide +kernel, rfl, by decide +kernel, by decide +kernel⟩
theorem ok_law_simple {sp_law_take : Sp} {sp_law_call : Sp} {sp_law_part : Sp} {f : Addr} {fd : FuncData} (D : FunD K "_law_simple" "_law_simple" (defArgs s_law_simple) (defBody s_law_simple) (defScope s_law_simple) [] [] f fd) (c_law_take : Cal P w K mg base k "_law_take" ["_law_box", "_law_many"] sp_law_take) (c_law_call : Cal P w K mg base k "_law_call" ["_law_box", "_law_shape"] sp_law_call) (c_law_part : Cal P w K mg base k "_law_part" ["_law_box", "_law_deep"] sp_law_part) {sp : Sp}
    (len : ∀ vs H Q E, sp vs H Q E → vs.length = 4)
    (rd : ∀ vs H Q E, sp vs H Q E → t_law_simple K sp_law_take sp_law_call sp_law_part { nx := fun _ H' => Q .non H', rt := Q } (start N_law_simple vs) H) : FnOk P w K mg base CX0 (k + 1) f fd ["_law_box", "_law_shape", "_law_turn", "_law_handler_here"] sp := by
  refine D.ok sc_law_simple len (fun cdv A outer s H vs Q E hr h => ⟨t_law_simple K sp_law_take sp_law_call sp_law_part, PSs.nox ?_, rd vs H Q E h⟩)
  · unfold t_law_simple
    exact pss_cons (ps_set (i := 4) sc_law_simple.nd rfl (by first | exact Or.inl rfl | exact Or.inr rfl) (pc c_law_take hr (pa_cons (pv 0) (pa_cons (pe_int) (pa_nil)))))
        (pss_cons (ps_if (PW.pt (pw_and (pt_cmpR op_eq (pv 4) (pe_int) (nomark _)) (pw_and1 (pt_val (pv 3))))) (pss_one (ps_ret (pe_tup (pa_cons (pe_str) (pa_nil))))) (pss_nil))
        (pss_cons (ps_if (PW.pt (pw_and (pt_cmpR op_eq (pv 4) (pe_int) (nomark _)) (pw_and1 (pt_val (pv 2))))) (pss_one (ps_ret (pe_tup (pa_cons (pe_ix ix_list (pe_lst (pa_cons (pe_str) (pa_cons (pe_str) (pa_nil)))) (pc c_law_take hr (pa_cons (pv 0) (pa_cons (pe_int) (pa_nil)))) (fun _ _ => rfl)) (pa_nil))))) (pss_nil))
        (pss_cons (ps_if (pt_cmpR op_eq (pv 4) (pe_int) (nomark _)) (pss_one (ps_ret (pc c_law_call hr (pa_cons (pv 0) (pa_cons (pv 1) (pa_nil)))))) (pss_nil))
        (pss_cons (ps_if (pt_cmpR op_eq (pv 4) (pe_int) (nomark _)) (pss_cons (ps_set (i := 5) sc_law_simple.nd rfl (by first | exact Or.inl rfl | exact Or.inr rfl) (pc c_law_part hr (pa_cons (pv 0) (pa_cons (pe_int) (pa_nil)))))
        (pss_one (ps_ret (pe_tup (pa_cons (pe_str) (pa_cons (pc c_law_take hr (pa_cons (pv 0) (pa_cons (pe_ix ix_list (pv 1) (pe_int) (fun _ _ => rfl)) (pa_nil)))) (pa_cons (pv 5) (pa_cons (pc c_law_take hr (pa_cons (pv 0) (pa_cons (pe_int) (pa_nil)))) (pa_nil))))))))) (pss_nil))
        (pss_cons (ps_if (pt_cmpR op_eq (pv 4) (pe_int) (nomark _)) (pss_one (ps_ret (pe_tup (pa_cons (pe_str) (pa_cons (pc c_law_part hr (pa_cons (pv 0) (pa_cons (pe_int) (pa_nil)))) (pa_nil)))))) (pss_nil))
        (pss_cons (ps_if (pt_cmpR op_eq (pv 4) (pe_int) (nomark _)) (pss_one (ps_ret (pe_tup (pa_cons (pe_str) (pa_cons (pe_tup (pa_nil)) (pa_nil)))))) (pss_nil))
        (pss_cons (ps_if (pt_cmpR op_eq (pv 4) (pe_int) (nomark _)) (pss_one (ps_ret (pe_tup (pa_cons (pe_str) (pa_cons (pc c_law_take hr (pa_cons (pv 0) (pa_cons (pe_int) (pa_nil)))) (pa_cons (pc c_law_part hr (pa_cons (pv 0) (pa_cons (pe_int) (pa_nil)))) (pa_nil))))))) (pss_nil))
        (pss_one (ps_ret (pe_tup (pa_cons (pe_str) (pa_cons (pc c_law_part hr (pa_cons (pv 0) (pa_cons (pe_int) (pa_nil)))) (pa_nil)))))))))))))

abbrev s_law_handler : Stmt := topS 12
abbrev N_law_handler : List Str := ["_law_box", "_law_shape", "_law_deep", "_law_turn", "_law_kind", "_law_slot"]
theorem sc_law_handler : FnScope N_law_handler ["_law_box", "_law_shape", "_law_deep", "_law_turn"] (defScope s_law_handler) := ⟨rfl, rfl, rfl, by decide +kernel, rfl, by decide +kernel, by decide +kernel⟩
theorem ok_law_handler {sp_law_take : Sp} {sp_law_statement : Sp} {f : Addr} {fd : FuncData} (D : FunD K "_law_handler" "_law_handler" (defArgs s_law_handler) (defBody s_law_handler) (defScope s_law_handler) [] [] f fd) (c_law_take : Cal P w K mg base k "_law_take" ["_law_box", "_law_many"] sp_law_take) (c_law_statement : Cal P w K mg base k "_law_statement" ["_law_box", "_law_shape", "_law_deep", "_law_turn", "_law_handler_here"] sp_law_statement) {sp : Sp}
    (len : ∀ vs H Q E, sp vs H Q E → vs.length = 4)
    (rd : ∀ vs H Q E, sp vs H Q E → t_law_handler K sp_law_take sp_law_statement { nx := fun _ H' => Q .non H', rt := Q } (start N_law_handler vs) H) : FnOk P w K mg base CX0 (k + 1) f fd ["_law_box", "_law_shape", "_law_deep", "_law_turn"] sp := by
  refine D.ok sc_law_handler len (fun cdv A outer s H vs Q E hr h => ⟨t_law_handler K sp_law_take sp_law_statement, PSs.nox ?_, rd vs H Q E h⟩)
  · unfold t_law_handler
    exact pss_cons (ps_set (i := 4) sc_law_handler.nd rfl (by first | exact Or.inl rfl | exact Or.inr rfl) (pc c_law_take hr (pa_cons (pv 0) (pa_cons (pe_op op_add (pe_ix ix_list (pv 1) (pe_int) (fun _ _ => rfl)) (pe_int)) (pa_nil)))))
        (pss_cons (ps_set (i := 5) sc_law_handler.nd rfl (by first | exact Or.inl rfl | exact Or.inr rfl) (pc c_law_take hr (pa_cons (pv 0) (pa_cons (pe_int) (pa_nil)))))
        (pss_cons (ps_if (pt_cmpR op_eq (pv 4) (pe_ix ix_list (pv 1) (pe_int) (fun _ _ => rfl)) (nomark _)) (pss_one (ps_set (i := 4) sc_law_handler.nd rfl (by first | exact Or.inl rfl | exact Or.inr rfl) (pe_non))) (pss_nil))
        (pss_one (ps_ret (pe_tup (pa_cons (pv 4) (pa_cons (pv 5) (pa_cons (pc c_law_statement hr (pa_cons (pv 0) (pa_cons (pv 1) (pa_cons (pv 2) (pa_cons (pv 3) (pa_cons (pe_bl) (pa_nil))))))) (pa_nil)))))))))

abbrev s_law_statement : Stmt := topS 13
abbrev N_law_statement : List Str := ["_law_box", "_law_shape", "_law_deep", "_law_turn", "_law_handler_here", "_law_kind", "_law_k", "_law_many", "_law_part_here", "_law_yes", "_law_inner"]
theorem sc_law_statement : FnScope N_law_statement ["_law_box", "_law_shape", "_law_deep", "_law_turn", "_law_handler_here"] (defScope s_law_statement) := ⟨rfl, rfl, rfl, by decide +kernel, rfl, by decide +kernel, by decide +kernel⟩
theorem ok_law_statement {sp_law_take : Sp} {sp_law_simple : Sp} {sp_law_statement : Sp} {sp_law_part : Sp} {sp_law_handler : Sp} {f : Addr} {fd : FuncData} (D : FunD K "_law_statement" "_law_statement" (defArgs s_law_statement) (defBody s_law_statement) (defScope s_law_statement) [] [] f fd) (c_law_take : Cal P w K mg base k "_law_take" ["_law_box", "_law_many"] sp_law_take) (c_law_simple : Cal P w K mg base k "_law_simple" ["_law_box", "_law_shape", "_law_turn", "_law_handler_here"] sp_law_simple) (B_tuple : mg "tuple" = none) (B_range : mg "range" = none) (c_law_statement : Cal P w K mg base k "_law_statement" ["_law_box", "_law_shape", "_law_deep", "_law_turn", "_law_handler_here"] sp_law_statement) (c_law_part : Cal P w K mg base k "_law_part" ["_law_box", "_law_deep"] sp_law_part) (c_law_handler : Cal P w K mg base k "_law_handler" ["_law_box", "_law_shape", "_law_deep", "_law_turn"] sp_law_handler) {sp : Sp}
    (len : ∀ vs H Q E, sp vs H Q E → vs.length = 5)
    (rd : ∀ vs H Q E, sp vs H Q E → t_law_statement K sp_law_take sp_law_simple sp_law_statement sp_law_part sp_law_handler { nx := fun _ H' => Q .non H', rt := Q } (start N_law_statement vs) H) : FnOk P w K mg base CX0 (k + 1) f fd ["_law_box", "_law_shape", "_law_deep", "_law_turn", "_law_handler_here"] sp := by
  refine D.ok sc_law_statement len (fun cdv A outer s H vs Q E hr h => ⟨t_law_statement K sp_law_take sp_law_simple sp_law_statement sp_law_part sp_law_handler, PSs.nox ?_, rd vs H Q E h⟩)
  · unfold t_law_statement
    exact pss_cons (ps_set (i := 5) sc_law_statement.nd rfl (by first | exact Or.inl rfl | exact Or.inr rfl) (pc c_law_take hr (pa_cons (pv 0) (pa_cons (pe_int) (pa_nil)))))
        (pss_cons (ps_if (PW.pt (pw_or (pt_cmpR op_eq (pv 2) (pe_int) (nomark _)) (pw_or1 (pt_cmpR op_lt (pv 5) (pe_int) (nomark _))))) (pss_one (ps_ret (pc c_law_simple hr (pa_cons (pv 0) (pa_cons (pv 1) (pa_cons (pv 3) (pa_cons (pv 4) (pa_nil)))))))) (pss_nil))
        (pss_cons (ps_if (PW.pt (pw_and (pt_cmpR op_eq (pv 5) (pe_int) (nomark _)) (pw_and1 (pt_cmpR op_eq (pc c_law_take hr (pa_cons (pv 0) (pa_cons (pe_int) (pa_nil)))) (pe_int) (nomark _))))) (pss_one (ps_ret (pe_tup (pa_cons (pe_str) (pa_cons (pe_callTy call_tuple_of (by rfl) B_tuple (by decide +kernel) (pa_cons (pe_lc (own := [("_law_k", 6)]) (g := gName 6) rfl sc_law_statement.nd (pi_range1 (by rfl) B_range (pa_cons (pc c_law_take hr (pa_cons (pv 0) (pa_cons (pe_int) (pa_nil)))) (pa_nil))) (blkOk_by (own := [("_law_k", 6)]) (N := N_law_statement) (sc := defScope s_law_statement) (by decide +kernel)) (fun _ _ _ _ _ => pg_name (i := 6) sc_law_statement.nd rfl (Or.inl rfl)) (fun _ _ _ _ _ => pts_nil) (fun _ _ _ _ _ => pc c_law_simple hr (pa_cons (pv 0) (pa_cons (pv 1) (pa_cons (pv 3) (pa_cons (pv 4) (pa_nil))))))) (pa_nil))) (pa_nil)))))) (pss_nil))
        (pss_cons (ps_if (pt_cmpR op_lt (pv 5) (pe_int) (nomark _)) (pss_cons (ps_set (i := 7) sc_law_statement.nd rfl (by first | exact Or.inl rfl | exact Or.inr rfl) (pe_op op_add (pe_int) (pc c_law_take hr (pa_cons (pv 0) (pa_cons (pe_int) (pa_nil))))))
        (pss_one (ps_ret (pe_tup (pa_cons (pe_str) (pa_cons (pe_callTy call_tuple_of (by rfl) B_tuple (by decide +kernel) (pa_cons (pe_lc (own := [("_law_k", 6)]) (g := gName 6) rfl sc_law_statement.nd (pi_range1 (by rfl) B_range (pa_cons (pv 7) (pa_nil))) (blkOk_by (own := [("_law_k", 6)]) (N := N_law_statement) (sc := defScope s_law_statement) (by decide +kernel)) (fun _ _ _ _ _ => pg_name (i := 6) sc_law_statement.nd rfl (Or.inl rfl)) (fun _ _ _ _ _ => pts_nil) (fun _ _ _ _ _ => pc c_law_statement hr (pa_cons (pv 0) (pa_cons (pv 1) (pa_cons (pe_op op_sub (pv 2) (pe_int)) (pa_cons (pv 3) (pa_cons (pv 4) (pa_nil)))))))) (pa_nil))) (pa_nil))))))) (pss_nil))
        (pss_cons (ps_if (pt_cmpR op_eq (pv 5) (pe_int) (nomark _)) (pss_cons (ps_set (i := 8) sc_law_statement.nd rfl (by first | exact Or.inl rfl | exact Or.inr rfl) (pc c_law_part hr (pa_cons (pv 0) (pa_cons (pe_int) (pa_nil)))))
        (pss_cons (ps_set (i := 9) sc_law_statement.nd rfl (by first | exact Or.inl rfl | exact Or.inr rfl) (pc c_law_statement hr (pa_cons (pv 0) (pa_cons (pv 1) (pa_cons (pe_op op_sub (pv 2) (pe_int)) (pa_cons (pv 3) (pa_cons (pv 4) (pa_nil))))))))
        (pss_one (ps_ret (pe_tup (pa_cons (pe_str) (pa_cons (pv 8) (pa_cons (pv 9) (pa_cons (pc c_law_statement hr (pa_cons (pv 0) (pa_cons (pv 1) (pa_cons (pe_op op_sub (pv 2) (pe_int)) (pa_cons (pv 3) (pa_cons (pv 4) (pa_nil))))))) (pa_nil)))))))))) (pss_nil))
        (pss_cons (ps_if (pt_cmpR op_lt (pv 5) (pe_int) (nomark _)) (pss_cons (ps_set (i := 8) sc_law_statement.nd rfl (by first | exact Or.inl rfl | exact Or.inr rfl) (pc c_law_part hr (pa_cons (pv 0) (pa_cons (pe_int) (pa_nil)))))
        (pss_one (ps_ret (pe_tup (pa_cons (pe_str) (pa_cons (pv 8) (pa_cons (pc c_law_statement hr (pa_cons (pv 0) (pa_cons (pv 1) (pa_cons (pe_op op_sub (pv 2) (pe_int)) (pa_cons (pe_bl) (pa_cons (pv 4) (pa_nil))))))) (pa_nil)))))))) (pss_nil))
        (pss_cons (ps_set (i := 10) sc_law_statement.nd rfl (by first | exact Or.inl rfl | exact Or.inr rfl) (pc c_law_statement hr (pa_cons (pv 0) (pa_cons (pv 1) (pa_cons (pe_op op_sub (pv 2) (pe_int)) (pa_cons (pv 3) (pa_cons (pv 4) (pa_nil))))))))
        (pss_cons (ps_if (pt_cmpR op_lt (pv 5) (pe_int) (nomark _)) (pss_cons (ps_set (i := 7) sc_law_statement.nd rfl (by first | exact Or.inl rfl | exact Or.inr rfl) (pe_op op_add (pe_int) (pc c_law_take hr (pa_cons (pv 0) (pa_cons (pe_int) (pa_nil))))))
        (pss_one (ps_ret (pe_tup (pa_cons (pe_str) (pa_cons (pv 10) (pa_cons (pe_callTy call_tuple_of (by rfl) B_tuple (by decide +kernel) (pa_cons (pe_lc (own := [("_law_k", 6)]) (g := gName 6) rfl sc_law_statement.nd (pi_range1 (by rfl) B_range (pa_cons (pv 7) (pa_nil))) (blkOk_by (own := [("_law_k", 6)]) (N := N_law_statement) (sc := defScope s_law_statement) (by decide +kernel)) (fun _ _ _ _ _ => pg_name (i := 6) sc_law_statement.nd rfl (Or.inl rfl)) (fun _ _ _ _ _ => pts_nil) (fun _ _ _ _ _ => pc c_law_handler hr (pa_cons (pv 0) (pa_cons (pv 1) (pa_cons (pe_op op_sub (pv 2) (pe_int)) (pa_cons (pv 3) (pa_nil))))))) (pa_nil))) (pa_nil)))))))) (pss_nil))
        (pss_one (ps_ret (pe_tup (pa_cons (pe_str) (pa_cons (pv 10) (pa_cons (pc c_law_statement hr (pa_cons (pv 0) (pa_cons (pv 1) (pa_cons (pe_op op_sub (pv 2) (pe_int)) (pa_cons (pv 3) (pa_cons (pv 4) (pa_nil))))))) (pa_nil))))))))))))))

abbrev s_law_program : Stmt := topS 14
abbrev N_law_program : List Str := ["_law_box", "_law_kinds_here", "_law_shape", "_law_k", "_law_functions", "_law_many", "_law_parts"]
theorem sc_law_program : FnScope N_law_program ["_law_box"] (defScope s_law_program) := ⟨rfl, rfl, rfl, by decide +kernel, rfl, by decide +kernel, by decide +kernel⟩
theorem ok_law_program {sp_law_kinds : Sp} {sp_law_take : Sp} {sp_law_statement : Sp} {f : Addr} {fd : FuncData} (D : FunD K "_law_program" "_law_program" (defArgs s_law_program) (defBody s_law_program) (defScope s_law_program) [] [] f fd) (c_law_kinds : Cal P w K mg base k "_law_kinds" ["_law_box", "_law_most"] sp_law_kinds) (B_range : mg "range" = none) (c_law_take : Cal P w K mg base k "_law_take" ["_law_box", "_law_many"] sp_law_take) (B_len : mg "len" = none) (c_law_statement : Cal P w K mg base k "_law_statement" ["_law_box", "_law_shape", "_law_deep", "_law_turn", "_law_handler_here"] sp_law_statement) (B_tuple : mg "tuple" = none) {sp : Sp}
    (len : ∀ vs H Q E, sp vs H Q E → vs.length = 1)
    (rd : ∀ vs H Q E, sp vs H Q E → t_law_program K sp_law_kinds sp_law_take sp_law_statement { nx := fun _ H' => Q .non H', rt := Q } (start N_law_program vs) H) : FnOk P w K mg base CX0 (k + 1) f fd ["_law_box"] sp := by
  refine D.ok sc_law_program len (fun cdv A outer s H vs Q E hr h => ⟨t_law_program K sp_law_kinds sp_law_take sp_law_statement, PSs.nox ?_, rd vs H Q E h⟩)
  · unfold t_law_program
    exact pss_cons (ps_set (i := 1) sc_law_program.nd rfl (by first | exact Or.inl rfl | exact Or.inr rfl) (pc c_law_kinds hr (pa_cons (pv 0) (pa_cons (pe_int) (pa_nil)))))
        (pss_cons (ps_set (i := 2) sc_law_program.nd rfl (by first | exact Or.inl rfl | exact Or.inr rfl) (pe_lst (pa_cons (pe_lc (own := [("_law_k", 3)]) (g := gName 3) rfl sc_law_program.nd (pi_range1 (by rfl) B_range (pa_cons (pe_op op_add (pe_int) (pc c_law_take hr (pa_cons (pv 0) (pa_cons (pe_int) (pa_nil))))) (pa_nil))) (blkOk_by (own := [("_law_k", 3)]) (N := N_law_program) (sc := defScope s_law_program) (by decide +kernel)) (fun _ _ _ _ _ => pg_name (i := 3) sc_law_program.nd rfl (Or.inl rfl)) (fun _ _ _ _ _ => pts_nil) (fun _ _ _ _ _ => pc c_law_take hr (pa_cons (pv 0) (pa_cons (pe_int) (pa_nil))))) (pa_cons (pe_callB call_len_seq (by rfl) B_len PySem.boot_len (pa_cons (pv 1) (pa_nil))) (pa_nil)))))
        (pss_cons (ps_set (i := 4) sc_law_program.nd rfl (by first | exact Or.inl rfl | exact Or.inr rfl) (pe_lst (pa_nil)))
        (pss_cons (ps_for PassesOwn.never rfl (pi_list (pe_ix ix_list (pv 2) (pe_int) (fun _ _ => rfl))) (pg_name (i := 5) sc_law_program.nd rfl (by first | exact Or.inl rfl | exact Or.inr rfl)) (pss_cons (by first | exact ps_setLc (i := 6) (own := [("_law_k", 3)]) (g := gName 3) rfl sc_law_program.nd rfl rfl (sw_true rfl rfl rfl (by decide +kernel)) (pi_range1 (by rfl) B_range (pa_cons (pe_op op_add (pe_int) (pc c_law_take hr (pa_cons (pv 0) (pa_cons (pe_int) (pa_nil))))) (pa_nil))) (blkOk_by (own := [("_law_k", 3)]) (N := N_law_program) (sc := defScope s_law_program) (by decide +kernel)) (fun _ _ _ _ _ => pg_name (i := 3) sc_law_program.nd rfl (Or.inl rfl)) (fun _ _ _ _ _ => pts_nil) (fun _ _ _ _ _ => pc c_law_statement hr (pa_cons (pv 0) (pa_cons (pv 2) (pa_cons (pe_int) (pa_cons (pe_bl) (pa_cons (pe_bl) (pa_nil))))))) | exact ps_set (i := 6) sc_law_program.nd rfl (Or.inr rfl) (pe_lc (own := [("_law_k", 3)]) (g := gName 3) rfl sc_law_program.nd (pi_range1 (by rfl) B_range (pa_cons (pe_op op_add (pe_int) (pc c_law_take hr (pa_cons (pv 0) (pa_cons (pe_int) (pa_nil))))) (pa_nil))) (blkOk_by (own := [("_law_k", 3)]) (N := N_law_program) (sc := defScope s_law_program) (by decide +kernel)) (fun _ _ _ _ _ => pg_name (i := 3) sc_law_program.nd rfl (Or.inl rfl)) (fun _ _ _ _ _ => pts_nil) (fun _ _ _ _ _ => pc c_law_statement hr (pa_cons (pv 0) (pa_cons (pv 2) (pa_cons (pe_int) (pa_cons (pe_bl) (pa_cons (pe_bl) (pa_nil)))))))))
        (pss_one (ps_expr (pe_bm PySem.F.plainAttrs_list PySem.F.slot_list_append PySem.F.type_list_append mt_append (pv 4) (pa_cons (pe_tup (pa_cons (pv 5) (pa_cons (pe_tup (pa_cons (pe_str) (pa_cons (pe_callTy call_tuple_of (by rfl) B_tuple (by decide +kernel) (pa_cons (pv 6) (pa_nil))) (pa_nil)))) (pa_nil)))) (pa_nil)))))))
        (pss_one (ps_ret (pe_tup (pa_cons (pv 1) (pa_cons (pe_callTy call_tuple_of (by rfl) B_tuple (by decide +kernel) (pa_cons (pv 4) (pa_nil))) (pa_nil)))))))))

abbrev s_law_part_code : Stmt := topS 15
abbrev N_law_part_code : List Str := ["_law_part_here"]
theorem sc_law_part_code : FnScope N_law_part_code ["_law_part_here"] (defScope s_law_part_code) := ⟨rfl, rfl, rfl, by decide +kernel, rfl, by decide +kernel, by decide +kernel⟩
theorem ok_law_part_code {sp_law_part_code : Sp} {f : Addr} {fd : FuncData} (D : FunD K "_law_part_code" "_law_part_code" (defArgs s_law_part_code) (defBody s_law_part_code) (defScope s_law_part_code) [] [] f fd) (c_law_part_code : Cal P w K mg base k "_law_part_code" ["_law_part_here"] sp_law_part_code) {sp : Sp}
    (len : ∀ vs H Q E, sp vs H Q E → vs.length = 1)
    (rd : ∀ vs H Q E, sp vs H Q E → t_law_part_code K sp_law_part_code { nx := fun _ H' => Q .non H', rt := Q } (start N_law_part_code vs) H) : FnOk P w K mg base CX0 (k + 1) f fd ["_law_part_here"] sp := by
  refine D.ok sc_law_part_code len (fun cdv A outer s H vs Q E hr h => ⟨t_law_part_code K sp_law_part_code, PSs.nox ?_, rd vs H Q E h⟩)
  · unfold t_law_part_code
    exact pss_cons (ps_if (pt_cmpR op_in_seq (pe_ix ix_tup (pv 0) (pe_int) (fun _ _ => rfl)) (pe_tup (pa_cons (pe_str) (pa_cons (pe_str) (pa_nil)))) (by rfl)) (pss_one (ps_ret (pe_lst (pa_cons (pv 0) (pa_nil))))) (pss_nil))
        (pss_one (ps_ret (pe_op op_cat (pe_op op_cat (pc c_law_part_code hr (pa_cons (pe_ix ix_tup (pv 0) (pe_int) (fun _ _ => rfl)) (pa_nil))) (pc c_law_part_code hr (pa_cons (pe_ix ix_tup (pv 0) (pe_int) (fun _ _ => rfl)) (pa_nil)))) (pe_lst (pa_cons (pe_tup (pa_cons (pe_ix ix_tup (pv 0) (pe_int) (fun _ _ => rfl)) (pa_nil))) (pa_nil))))))

abbrev s_law_loop_code : Stmt := topS 16
abbrev N_law_loop_code : List Str := ["_law_one", "_law_base", "_law_depth", "_law_head", "_law_start", "_law_inner", "_law_leave", "_law_row"]
theorem sc_law_loop_code : FnScope N_law_loop_code ["_law_one", "_law_base", "_law_depth"] (defScope s_law_loop_code) := ⟨rfl, rfl, rfl, by decide +kernel, rfl, by decide +kernel, by decide +kernel⟩
theorem ok_law_loop_code {sp_law_part_code : Sp} {sp_law_code : Sp} {f : Addr} {fd : FuncData} (D : FunD K "_law_loop_code" "_law_loop_code" (defArgs s_law_loop_code) (defBody s_law_loop_code) (defScope s_law_loop_code) [] [] f fd) (c_law_part_code : Cal P w K mg base k "_law_part_code" ["_law_part_here"] sp_law_part_code) (B_len : mg "len" = none) (c_law_code : Cal P w K mg base k "_law_code" ["_law_one", "_law_base", "_law_depth", "_law_turn"] sp_law_code) (B_int : mg "int" = none) {sp : Sp}
    (len : ∀ vs H Q E, sp vs H Q E → vs.length = 3)
    (rd : ∀ vs H Q E, sp vs H Q E → t_law_loop_code K sp_law_part_code sp_law_code { nx := fun _ H' => Q .non H', rt := Q } (start N_law_loop_code vs) H) : FnOk P w K mg base CX0 (k + 1) f fd ["_law_one", "_law_base", "_law_depth"] sp := by
  refine D.ok sc_law_loop_code len (fun cdv A outer s H vs Q E hr h => ⟨t_law_loop_code K sp_law_part_code sp_law_code, PSs.nox ?_, rd vs H Q E h⟩)
  · unfold t_law_loop_code
    exact pss_cons (ps_set (i := 3) sc_law_loop_code.nd rfl (by first | exact Or.inl rfl | exact Or.inr rfl) (pc c_law_part_code hr (pa_cons (pe_ix ix_tup (pv 0) (pe_int) (fun _ _ => rfl)) (pa_nil))))
        (pss_cons (ps_set (i := 4) sc_law_loop_code.nd rfl (by first | exact Or.inl rfl | exact Or.inr rfl) (pe_op op_add (pe_op op_add (pv 1) (pe_callB call_len_seq (by rfl) B_len PySem.boot_len (pa_cons (pv 3) (pa_nil)))) (pe_int)))
        (pss_cons (ps_set (i := 5) sc_law_loop_code.nd rfl (by first | exact Or.inl rfl | exact Or.inr rfl) (pc c_law_code hr (pa_cons (pe_ix ix_tup (pv 0) (pe_int) (fun _ _ => rfl)) (pa_cons (pv 4) (pa_cons (pv 2) (pa_cons (pe_tup (pa_cons (pv 1) (pa_cons (pe_op op_sub (pe_un un_neg (pe_int)) (pv 1)) (pa_cons (pv 2) (pa_nil))))) (pa_nil)))))))
        (pss_cons (ps_set (i := 6) sc_law_loop_code.nd rfl (by first | exact Or.inl rfl | exact Or.inr rfl) (pe_op op_add (pe_op op_add (pv 4) (pe_callB call_len_seq (by rfl) B_len PySem.boot_len (pa_cons (pv 5) (pa_nil)))) (pe_int)))
        (pss_cons (by first | exact ps_setLc (i := 5) (own := [("_law_row", 7)]) (g := gName 7) rfl sc_law_loop_code.nd rfl rfl (sw_true rfl rfl rfl (by decide +kernel)) (pi_list (pv 5)) (blkOk_by (own := [("_law_row", 7)]) (N := N_law_loop_code) (sc := defScope s_law_loop_code) (by decide +kernel)) (fun _ _ _ _ _ => pg_name (i := 7) sc_law_loop_code.nd rfl (Or.inl rfl)) (fun _ _ _ _ _ => pts_nil) (fun _ _ _ _ _ => pe_ix ix_list (pe_lst (pa_cons (pv 7) (pa_cons (pe_tup (pa_cons (pe_str) (pa_cons (pv 6) (pa_cons (pv 2) (pa_nil))))) (pa_nil)))) (pe_callTy call_int1 (by rfl) B_int (by decide +kernel) (pa_cons (pe_cmpR (op_eqD hr.units) (pv 7) (pe_tup (pa_cons (pe_str) (pa_cons (pe_op op_sub (pe_un un_neg (pe_int)) (pv 1)) (pa_cons (pv 2) (pa_nil))))) (nomark _)) (pa_nil))) (fun _ _ => rfl)) | exact ps_set (i := 5) sc_law_loop_code.nd rfl (Or.inr rfl) (pe_lc (own := [("_law_row", 7)]) (g := gName 7) rfl sc_law_loop_code.nd (pi_list (pv 5)) (blkOk_by (own := [("_law_row", 7)]) (N := N_law_loop_code) (sc := defScope s_law_loop_code) (by decide +kernel)) (fun _ _ _ _ _ => pg_name (i := 7) sc_law_loop_code.nd rfl (Or.inl rfl)) (fun _ _ _ _ _ => pts_nil) (fun _ _ _ _ _ => pe_ix ix_list (pe_lst (pa_cons (pv 7) (pa_cons (pe_tup (pa_cons (pe_str) (pa_cons (pv 6) (pa_cons (pv 2) (pa_nil))))) (pa_nil)))) (pe_callTy call_int1 (by rfl) B_int (by decide +kernel) (pa_cons (pe_cmpR (op_eqD hr.units) (pv 7) (pe_tup (pa_cons (pe_str) (pa_cons (pe_op op_sub (pe_un un_neg (pe_int)) (pv 1)) (pa_cons (pv 2) (pa_nil))))) (nomark _)) (pa_nil))) (fun _ _ => rfl))))
        (pss_one (ps_ret (pe_op op_cat (pe_op op_cat (pe_op op_cat (pv 3) (pe_lst (pa_cons (pe_tup (pa_cons (pe_str) (pa_cons (pv 6) (pa_nil)))) (pa_cons (pe_tup (pa_cons (pe_str) (pa_nil))) (pa_nil))))) (pv 5)) (pe_lst (pa_cons (pe_tup (pa_cons (pe_str) (pa_cons (pv 1) (pa_nil)))) (pa_nil))))))))))

abbrev s_law_try_code : Stmt := topS 17
abbrev N_law_try_code : List Str := ["_law_one", "_law_base", "_law_depth", "_law_turn", "_law_inner", "_law_end", "_law_rows", "_law_handler_here", "_law_leave", "_law_row"]
theorem sc_law_try_code : FnScope N_law_try_code ["_law_one", "_law_base", "_law_depth", "_law_turn"] (defScope s_law_try_code) := ⟨rfl, rfl, rfl, by decide +kernel, rfl, by decide +kernel, by decide +kernel⟩
theorem ok_law_try_code {sp_law_code : Sp} {f : Addr} {fd : FuncData} (D : FunD K "_law_try_code" "_law_try_code" (defArgs s_law_try_code) (defBody s_law_try_code) (defScope s_law_try_code) [] [] f fd) (c_law_code : Cal P w K mg base k "_law_code" ["_law_one", "_law_base", "_law_depth", "_law_turn"] sp_law_code) (B_len : mg "len" = none) (B_int : mg "int" = none) {sp : Sp}
    (len : ∀ vs H Q E, sp vs H Q E → vs.length = 4)
    (rd : ∀ vs H Q E, sp vs H Q E → t_law_try_code K sp_law_code { nx := fun _ H' => Q .non H', rt := Q } (start N_law_try_code vs) H) : FnOk P w K mg base CX0 (k + 1) f fd ["_law_one", "_law_base", "_law_depth", "_law_turn"] sp := by
  refine D.ok sc_law_try_code len (fun cdv A outer s H vs Q E hr h => ⟨t_law_try_code K sp_law_code, PSs.nox ?_, rd vs H Q E h⟩)
  · unfold t_law_try_code
    exact pss_cons (ps_set (i := 4) sc_law_try_code.nd rfl (by first | exact Or.inl rfl | exact Or.inr rfl) (pc c_law_code hr (pa_cons (pe_ix ix_tup (pv 0) (pe_int) (fun _ _ => rfl)) (pa_cons (pv 1) (pa_cons (pv 2) (pa_cons (pv 3) (pa_nil)))))))
        (pss_cons (ps_set (i := 5) sc_law_try_code.nd rfl (by first | exact Or.inl rfl | exact Or.inr rfl) (pe_op op_add (pv 1) (pe_callB call_len_seq (by rfl) B_len PySem.boot_len (pa_cons (pv 4) (pa_nil)))))
        (pss_cons (ps_set (i := 6) sc_law_try_code.nd rfl (by first | exact Or.inl rfl | exact Or.inr rfl) (pe_op op_cat (pv 4) (pe_lst (pa_cons (pe_tup (pa_cons (pe_str) (pa_cons (pe_un un_neg (pe_int)) (pa_nil)))) (pa_nil)))))
        (pss_cons (ps_for PassesOwn.never rfl (pi_tup (pe_ix ix_tup (pv 0) (pe_int) (fun _ _ => rfl))) (pg_name (i := 7) sc_law_try_code.nd rfl (by first | exact Or.inl rfl | exact Or.inr rfl)) (pss_cons (ps_set (i := 6) sc_law_try_code.nd rfl (by first | exact Or.inl rfl | exact Or.inr rfl) (pe_op op_cat (pv 6) (pe_lst (pa_cons (pe_tup (pa_cons (pe_str) (pa_cons (pv 1) (pa_cons (pv 5) (pa_cons (pe_ix ix_tup (pv 7) (pe_int) (fun _ _ => rfl)) (pa_cons (pv 2) (pa_nil))))))) (pa_cons (pe_tup (pa_cons (pe_str) (pa_cons (pe_ix ix_tup (pv 7) (pe_int) (fun _ _ => rfl)) (pa_nil)))) (pa_nil))))))
        (pss_cons (ps_set (i := 6) sc_law_try_code.nd rfl (by first | exact Or.inl rfl | exact Or.inr rfl) (pe_op op_cat (pv 6) (pc c_law_code hr (pa_cons (pe_ix ix_tup (pv 7) (pe_int) (fun _ _ => rfl)) (pa_cons (pe_op op_add (pv 1) (pe_callB call_len_seq (by rfl) B_len PySem.boot_len (pa_cons (pv 6) (pa_nil)))) (pa_cons (pe_op op_add (pv 2) (pe_int)) (pa_cons (pv 3) (pa_nil))))))))
        (pss_one (ps_set (i := 6) sc_law_try_code.nd rfl (by first | exact Or.inl rfl | exact Or.inr rfl) (pe_op op_cat (pv 6) (pe_lst (pa_cons (pe_tup (pa_cons (pe_str) (pa_nil))) (pa_cons (pe_tup (pa_cons (pe_str) (pa_cons (pe_un un_neg (pe_int)) (pa_nil)))) (pa_nil))))))))))
        (pss_cons (ps_set (i := 8) sc_law_try_code.nd rfl (by first | exact Or.inl rfl | exact Or.inr rfl) (pe_op op_add (pv 1) (pe_callB call_len_seq (by rfl) B_len PySem.boot_len (pa_cons (pv 6) (pa_nil)))))
        (pss_one (ps_ret (pe_lc (own := [("_law_row", 9)]) (g := gName 9) rfl sc_law_try_code.nd (pi_list (pv 6)) (blkOk_by (own := [("_law_row", 9)]) (N := N_law_try_code) (sc := defScope s_law_try_code) (by decide +kernel)) (fun _ _ _ _ _ => pg_name (i := 9) sc_law_try_code.nd rfl (Or.inl rfl)) (fun _ _ _ _ _ => pts_nil) (fun _ _ _ _ _ => pe_ix ix_list (pe_lst (pa_cons (pv 9) (pa_cons (pe_tup (pa_cons (pe_str) (pa_cons (pv 8) (pa_nil)))) (pa_nil)))) (pe_callTy call_int1 (by rfl) B_int (by decide +kernel) (pa_cons (pe_cmpR (op_eqD hr.units) (pv 9) (pe_tup (pa_cons (pe_str) (pa_cons (pe_un un_neg (pe_int)) (pa_nil)))) (nomark _)) (pa_nil))) (fun _ _ => rfl)))))))))

abbrev s_law_if_code : Stmt := topS 18
abbrev N_law_if_code : List Str := ["_law_one", "_law_base", "_law_depth", "_law_turn", "_law_head", "_law_yes", "_law_here", "_law_no"]
theorem sc_law_if_code : FnScope N_law_if_code ["_law_one", "_law_base", "_law_depth", "_law_turn"] (defScope s_law_if_code) := ⟨rfl, rfl, rfl, by decide +kernel, rfl, by decide +kernel, by decide +kernel⟩
theorem ok_law_if_code {sp_law_part_code : Sp} {sp_law_code : Sp} {f : Addr} {fd : FuncData} (D : FunD K "_law_if_code" "_law_if_code" (defArgs s_law_if_code) (defBody s_law_if_code) (defScope s_law_if_code) [] [] f fd) (c_law_part_code : Cal P w K mg base k "_law_part_code" ["_law_part_here"] sp_law_part_code) (c_law_code : Cal P w K mg base k "_law_code" ["_law_one", "_law_base", "_law_depth", "_law_turn"] sp_law_code) (B_len : mg "len" = none) {sp : Sp}
    (len : ∀ vs H Q E, sp vs H Q E → vs.length = 4)
    (rd : ∀ vs H Q E, sp vs H Q E → t_law_if_code K sp_law_part_code sp_law_code { nx := fun _ H' => Q .non H', rt := Q } (start N_law_if_code vs) H) : FnOk P w K mg base CX0 (k + 1) f fd ["_law_one", "_law_base", "_law_depth", "_law_turn"] sp := by
  refine D.ok sc_law_if_code len (fun cdv A outer s H vs Q E hr h => ⟨t_law_if_code K sp_law_part_code sp_law_code, PSs.nox ?_, rd vs H Q E h⟩)
  · unfold t_law_if_code
    exact pss_cons (ps_set (i := 4) sc_law_if_code.nd rfl (by first | exact Or.inl rfl | exact Or.inr rfl) (pc c_law_part_code hr (pa_cons (pe_ix ix_tup (pv 0) (pe_int) (fun _ _ => rfl)) (pa_nil))))
        (pss_cons (ps_set (i := 5) sc_law_if_code.nd rfl (by first | exact Or.inl rfl | exact Or.inr rfl) (pc c_law_code hr (pa_cons (pe_ix ix_tup (pv 0) (pe_int) (fun _ _ => rfl)) (pa_cons (pe_op op_add (pe_op op_add (pv 1) (pe_callB call_len_seq (by rfl) B_len PySem.boot_len (pa_cons (pv 4) (pa_nil)))) (pe_int)) (pa_cons (pv 2) (pa_cons (pv 3) (pa_nil)))))))
        (pss_cons (ps_set (i := 6) sc_law_if_code.nd rfl (by first | exact Or.inl rfl | exact Or.inr rfl) (pe_op op_add (pe_op op_add (pe_op op_add (pv 1) (pe_callB call_len_seq (by rfl) B_len PySem.boot_len (pa_cons (pv 4) (pa_nil)))) (pe_callB call_len_seq (by rfl) B_len PySem.boot_len (pa_cons (pv 5) (pa_nil)))) (pe_int)))
        (pss_cons (ps_set (i := 7) sc_law_if_code.nd rfl (by first | exact Or.inl rfl | exact Or.inr rfl) (pc c_law_code hr (pa_cons (pe_ix ix_tup (pv 0) (pe_int) (fun _ _ => rfl)) (pa_cons (pv 6) (pa_cons (pv 2) (pa_cons (pv 3) (pa_nil)))))))
        (pss_one (ps_ret (pe_op op_cat (pe_op op_cat (pe_op op_cat (pe_op op_cat (pv 4) (pe_lst (pa_cons (pe_tup (pa_cons (pe_str) (pa_cons (pv 6) (pa_nil)))) (pa_nil)))) (pv 5)) (pe_lst (pa_cons (pe_tup (pa_cons (pe_str) (pa_cons (pe_op op_add (pv 6) (pe_callB call_len_seq (by rfl) B_len PySem.boot_len (pa_cons (pv 7) (pa_nil)))) (pa_nil)))) (pa_nil)))) (pv 7)))))))

abbrev s_law_clean_code : Stmt := topS 19
abbrev N_law_clean_code : List Str := ["_law_one", "_law_base", "_law_depth", "_law_turn", "_law_inner", "_law_end", "_law_last"]
theorem sc_law_clean_code : FnScope N_law_clean_code ["_law_one", "_law_base", "_law_depth", "_law_turn"] (defScope s_law_clean_code) := ⟨rfl, rfl, rfl, by decide +kernel, rfl, by decide +kernel, by decide +kernel⟩
theorem ok_law_clean_code {sp_law_code : Sp} {f : Addr} {fd : FuncData} (D : FunD K "_law_clean_code" "_law_clean_code" (defArgs s_law_clean_code) (defBody s_law_clean_code) (defScope s_law_clean_code) [] [] f fd) (c_law_code : Cal P w K mg base k "_law_code" ["_law_one", "_law_base", "_law_depth", "_law_turn"] sp_law_code) (B_len : mg "len" = none) {sp : Sp}
    (len : ∀ vs H Q E, sp vs H Q E → vs.length = 4)
    (rd : ∀ vs H Q E, sp vs H Q E → t_law_clean_code K sp_law_code { nx := fun _ H' => Q .non H', rt := Q } (start N_law_clean_code vs) H) : FnOk P w K mg base CX0 (k + 1) f fd ["_law_one", "_law_base", "_law_depth", "_law_turn"] sp := by
  refine D.ok sc_law_clean_code len (fun cdv A outer s H vs Q E hr h => ⟨t_law_clean_code K sp_law_code, PSs.nox ?_, rd vs H Q E h⟩)
  · unfold t_law_clean_code
    exact pss_cons (ps_set (i := 4) sc_law_clean_code.nd rfl (by first | exact Or.inl rfl | exact Or.inr rfl) (pe_op op_cat (pc c_law_code hr (pa_cons (pe_ix ix_tup (pv 0) (pe_int) (fun _ _ => rfl)) (pa_cons (pv 1) (pa_cons (pv 2) (pa_cons (pv 3) (pa_nil)))))) (pe_lst (pa_cons (pe_tup (pa_cons (pe_str) (pa_nil))) (pa_nil)))))
        (pss_cons (ps_set (i := 5) sc_law_clean_code.nd rfl (by first | exact Or.inl rfl | exact Or.inr rfl) (pe_op op_add (pv 1) (pe_callB call_len_seq (by rfl) B_len PySem.boot_len (pa_cons (pv 4) (pa_nil)))))
        (pss_cons (ps_set (i := 6) sc_law_clean_code.nd rfl (by first | exact Or.inl rfl | exact Or.inr rfl) (pc c_law_code hr (pa_cons (pe_ix ix_tup (pv 0) (pe_int) (fun _ _ => rfl)) (pa_cons (pe_op op_add (pv 5) (pe_int)) (pa_cons (pe_op op_add (pv 2) (pe_int)) (pa_cons (pv 3) (pa_nil)))))))
        (pss_one (ps_ret (pe_op op_cat (pe_op op_cat (pe_op op_cat (pv 4) (pe_lst (pa_cons (pe_tup (pa_cons (pe_str) (pa_cons (pv 1) (pa_cons (pv 5) (pa_cons (pv 2) (pa_nil)))))) (pa_nil)))) (pv 6)) (pe_lst (pa_cons (pe_tup (pa_cons (pe_str) (pa_nil))) (pa_nil))))))))

abbrev s_law_plain_code : Stmt := topS 20
abbrev N_law_plain_code : List Str := ["_law_one", "_law_turn", "_law_word_here", "_law_rows", "_law_part_here"]
theorem sc_law_plain_code : FnScope N_law_plain_code ["_law_one", "_law_turn"] (defScope s_law_plain_code) := ⟨rfl, rfl, rfl, by decide +kernel, rfl, by decide +kernel, by decide +kernel⟩
theorem ok_law_plain_code {sp_law_part_code : Sp} {f : Addr} {fd : FuncData} (D : FunD K "_law_plain_code" "_law_plain_code" (defArgs s_law_plain_code) (defBody s_law_plain_code) (defScope s_law_plain_code) [] [] f fd) (c_law_part_code : Cal P w K mg base k "_law_part_code" ["_law_part_here"] sp_law_part_code) (B_len : mg "len" = none) {sp : Sp}
    (len : ∀ vs H Q E, sp vs H Q E → vs.length = 2)
    (rd : ∀ vs H Q E, sp vs H Q E → t_law_plain_code K sp_law_part_code { nx := fun _ H' => Q .non H', rt := Q } (start N_law_plain_code vs) H) : FnOk P w K mg base CX0 (k + 1) f fd ["_law_one", "_law_turn"] sp := by
  refine D.ok sc_law_plain_code len (fun cdv A outer s H vs Q E hr h => ⟨t_law_plain_code K sp_law_part_code, PSs.nox ?_, rd vs H Q E h⟩)
  · unfold t_law_plain_code
    exact pss_cons (ps_set (i := 2) sc_law_plain_code.nd rfl (by first | exact Or.inl rfl | exact Or.inr rfl) (pe_ix ix_tup (pv 0) (pe_int) (fun _ _ => rfl)))
        (pss_cons (ps_if (pt_cmpR op_eq (pv 2) (pe_str) (nomark _)) (pss_one (ps_ret (pe_lst (pa_cons (pe_tup (pa_cons (pe_str) (pa_cons (pe_ix ix_tup (pv 1) (pe_int) (fun _ _ => rfl)) (pa_cons (pe_ix ix_tup (pv 1) (pe_int) (fun _ _ => rfl)) (pa_nil))))) (pa_nil))))) (pss_nil))
        (pss_cons (ps_if (pt_cmpR op_eq (pv 2) (pe_str) (nomark _)) (pss_one (ps_ret (pe_lst (pa_cons (pe_tup (pa_cons (pe_str) (pa_cons (pe_ix ix_tup (pv 1) (pe_int) (fun _ _ => rfl)) (pa_cons (pe_ix ix_tup (pv 1) (pe_int) (fun _ _ => rfl)) (pa_nil))))) (pa_nil))))) (pss_nil))
        (pss_cons (ps_if (pt_cmpR op_eq (pv 2) (pe_str) (nomark _)) (pss_one (ps_ret (pe_lst (pa_cons (pv 0) (pa_nil))))) (pss_nil))
        (pss_cons (ps_if (pt_cmpR op_eq (pv 2) (pe_str) (nomark _)) (pss_one (ps_ret (pe_op op_cat (pc c_law_part_code hr (pa_cons (pe_ix ix_tup (pv 0) (pe_int) (fun _ _ => rfl)) (pa_nil))) (pe_lst (pa_cons (pe_tup (pa_cons (pe_str) (pa_cons (pe_ix ix_tup (pv 0) (pe_int) (fun _ _ => rfl)) (pa_nil)))) (pa_nil)))))) (pss_nil))
        (pss_cons (ps_if (pt_cmpR op_eq (pv 2) (pe_str) (nomark _)) (pss_one (ps_ret (pe_op op_cat (pc c_law_part_code hr (pa_cons (pe_ix ix_tup (pv 0) (pe_int) (fun _ _ => rfl)) (pa_nil))) (pe_lst (pa_cons (pe_tup (pa_cons (pe_str) (pa_cons (pe_ix ix_tup (pv 0) (pe_int) (fun _ _ => rfl)) (pa_cons (pe_ix ix_tup (pv 0) (pe_int) (fun _ _ => rfl)) (pa_nil))))) (pa_nil)))))) (pss_nil))
        (pss_cons (ps_if (pt_cmpR op_eq (pv 2) (pe_str) (nomark _)) (pss_cons (ps_set (i := 3) sc_law_plain_code.nd rfl (by first | exact Or.inl rfl | exact Or.inr rfl) (pe_lst (pa_nil)))
        (pss_cons (ps_for PassesOwn.never rfl (pi_tup (pe_ix ix_tup (pv 0) (pe_int) (fun _ _ => rfl))) (pg_name (i := 4) sc_law_plain_code.nd rfl (by first | exact Or.inl rfl | exact Or.inr rfl)) (pss_one (ps_set (i := 3) sc_law_plain_code.nd rfl (by first | exact Or.inl rfl | exact Or.inr rfl) (pe_op op_cat (pv 3) (pc c_law_part_code hr (pa_cons (pv 4) (pa_nil)))))))
        (pss_one (ps_ret (pe_op op_cat (pv 3) (pe_lst (pa_cons (pe_tup (pa_cons (pe_str) (pa_cons (pe_ix ix_tup (pv 0) (pe_int) (fun _ _ => rfl)) (pa_cons (pe_callB call_len_seq (by rfl) B_len PySem.boot_len (pa_cons (pe_ix ix_tup (pv 0) (pe_int) (fun _ _ => rfl)) (pa_nil))) (pa_cons (pe_ix ix_tup (pv 0) (pe_int) (fun _ _ => rfl)) (pa_nil)))))) (pa_cons (pe_tup (pa_cons (pe_str) (pa_cons (pe_ix ix_tup (pv 0) (pe_int) (fun _ _ => rfl)) (pa_nil)))) (pa_nil))))))))) (pss_nil))
        (pss_one (ps_ret (pe_op op_cat (pc c_law_part_code hr (pa_cons (pe_ix ix_tup (pv 0) (pe_int) (fun _ _ => rfl)) (pa_nil))) (pe_lst (pa_cons (pe_tup (pa_cons (pv 2) (pa_nil))) (pa_nil))))))))))))

abbrev s_law_code : Stmt := topS 21
abbrev N_law_code : List Str := ["_law_one", "_law_base", "_law_depth", "_law_turn", "_law_word_here", "_law_rows", "_law_part_here"]
theorem sc_law_code : FnScope N_law_code ["_law_one", "_law_base", "_law_depth", "_law_turn"] (defScope s_law_code) := ⟨rfl, rfl, rfl, by decide +kernel, rfl, by decide +kernel, by decide +kernel⟩
theorem ok_law_code {sp_law_code : Sp} {sp_law_if_code : Sp} {sp_law_loop_code : Sp} {sp_law_try_code : Sp} {sp_law_clean_code : Sp} {sp_law_plain_code : Sp} {f : Addr} {fd : FuncData} (D : FunD K "_law_code" "_law_code" (defArgs s_law_code) (defBody s_law_code) (defScope s_law_code) [] [] f fd) (c_law_code : Cal P w K mg base k "_law_code" ["_law_one", "_law_base", "_law_depth", "_law_turn"] sp_law_code) (B_len : mg "len" = none) (c_law_if_code : Cal P w K mg base k "_law_if_code" ["_law_one", "_law_base", "_law_depth", "_law_turn"] sp_law_if_code) (c_law_loop_code : Cal P w K mg base k "_law_loop_code" ["_law_one", "_law_base", "_law_depth"] sp_law_loop_code) (c_law_try_code : Cal P w K mg base k "_law_try_code" ["_law_one", "_law_base", "_law_depth", "_law_turn"] sp_law_try_code) (c_law_clean_code : Cal P w K mg base k "_law_clean_code" ["_law_one", "_law_base", "_law_depth", "_law_turn"] sp_law_clean_code) (c_law_plain_code : Cal P w K mg base k "_law_plain_code" ["_law_one", "_law_turn"] sp_law_plain_code) {sp : Sp}
    (len : ∀ vs H Q E, sp vs H Q E → vs.length = 4)
    (rd : ∀ vs H Q E, sp vs H Q E → t_law_code K sp_law_code sp_law_if_code sp_law_loop_code sp_law_try_code sp_law_clean_code sp_law_plain_code { nx := fun _ H' => Q .non H', rt := Q } (start N_law_code vs) H) : FnOk P w K mg base CX0 (k + 1) f fd ["_law_one", "_law_base", "_law_depth", "_law_turn"] sp := by
  refine D.ok sc_law_code len (fun cdv A outer s H vs Q E hr h => ⟨t_law_code K sp_law_code sp_law_if_code sp_law_loop_code sp_law_try_code sp_law_clean_code sp_law_plain_code, PSs.nox ?_, rd vs H Q E h⟩)
  · unfold t_law_code
    exact pss_cons (ps_set (i := 4) sc_law_code.nd rfl (by first | exact Or.inl rfl | exact Or.inr rfl) (pe_ix ix_tup (pv 0) (pe_int) (fun _ _ => rfl)))
        (pss_cons (ps_if (pt_cmpR op_eq (pv 4) (pe_str) (nomark _)) (pss_cons (ps_set (i := 5) sc_law_code.nd rfl (by first | exact Or.inl rfl | exact Or.inr rfl) (pe_lst (pa_nil)))
        (pss_cons (ps_for PassesOwn.never rfl (pi_tup (pe_ix ix_tup (pv 0) (pe_int) (fun _ _ => rfl))) (pg_name (i := 6) sc_law_code.nd rfl (by first | exact Or.inl rfl | exact Or.inr rfl)) (pss_one (ps_set (i := 5) sc_law_code.nd rfl (by first | exact Or.inl rfl | exact Or.inr rfl) (pe_op op_cat (pv 5) (pc c_law_code hr (pa_cons (pv 6) (pa_cons (pe_op op_add (pv 1) (pe_callB call_len_seq (by rfl) B_len PySem.boot_len (pa_cons (pv 5) (pa_nil)))) (pa_cons (pv 2) (pa_cons (pv 3) (pa_nil))))))))))
        (pss_one (ps_ret (pv 5))))) (pss_nil))
        (pss_cons (ps_if (pt_cmpR op_eq (pv 4) (pe_str) (nomark _)) (pss_one (ps_ret (pc c_law_if_code hr (pa_cons (pv 0) (pa_cons (pv 1) (pa_cons (pv 2) (pa_cons (pv 3) (pa_nil)))))))) (pss_nil))
        (pss_cons (ps_if (pt_cmpR op_eq (pv 4) (pe_str) (nomark _)) (pss_one (ps_ret (pc c_law_loop_code hr (pa_cons (pv 0) (pa_cons (pv 1) (pa_cons (pv 2) (pa_nil))))))) (pss_nil))
        (pss_cons (ps_if (pt_cmpR op_eq (pv 4) (pe_str) (nomark _)) (pss_one (ps_ret (pc c_law_try_code hr (pa_cons (pv 0) (pa_cons (pv 1) (pa_cons (pv 2) (pa_cons (pv 3) (pa_nil)))))))) (pss_nil))
        (pss_cons (ps_if (pt_cmpR op_eq (pv 4) (pe_str) (nomark _)) (pss_one (ps_ret (pc c_law_clean_code hr (pa_cons (pv 0) (pa_cons (pv 1) (pa_cons (pv 2) (pa_cons (pv 3) (pa_nil)))))))) (pss_nil))
        (pss_one (ps_ret (pc c_law_plain_code hr (pa_cons (pv 0) (pa_cons (pv 3) (pa_nil)))))))))))

abbrev s_law_table : Stmt := topS 22
abbrev N_law_table : List Str := ["_law_rows", "_law_table_here", "_law_k", "_law_row"]
theorem sc_law_table : FnScope N_law_table ["_law_rows"] (defScope s_law_table) := ⟨rfl, rfl, rfl, by decide +kernel, rfl, by decide +kernel, by decide +kernel⟩
theorem ok_law_table  {f : Addr} {fd : FuncData} (D : FunD K "_law_table" "_law_table" (defArgs s_law_table) (defBody s_law_table) (defScope s_law_table) [] [] f fd) (B_range : mg "range" = none) (B_len : mg "len" = none) (B_tuple : mg "tuple" = none) {sp : Sp}
    (len : ∀ vs H Q E, sp vs H Q E → vs.length = 1)
    (rd : ∀ vs H Q E, sp vs H Q E → t_law_table K { nx := fun _ H' => Q .non H', rt := Q } (start N_law_table vs) H) : FnOk P w K mg base CX0 (k + 1) f fd ["_law_rows"] sp := by
  refine D.ok sc_law_table len (fun cdv A outer s H vs Q E hr h => ⟨t_law_table K, PSs.nox ?_, rd vs H Q E h⟩)
  · unfold t_law_table
    exact pss_cons (ps_set (i := 1) sc_law_table.nd rfl (by first | exact Or.inl rfl | exact Or.inr rfl) (pe_lst (pa_nil)))
        (pss_cons (ps_for PassesOwn.never rfl (pi_range1 (by rfl) B_range (pa_cons (pe_callB call_len_seq (by rfl) B_len PySem.boot_len (pa_cons (pv 0) (pa_nil))) (pa_nil))) (pg_name (i := 2) sc_law_table.nd rfl (by first | exact Or.inl rfl | exact Or.inr rfl)) (pss_cons (ps_set (i := 3) sc_law_table.nd rfl (by first | exact Or.inl rfl | exact Or.inr rfl) (pe_ix ix_tup (pv 0) (pv 2) (fun _ _ => rfl)))
        (pss_cons (ps_if (pt_cmpR op_eq (pe_ix ix_tup (pv 3) (pe_int) (fun _ _ => rfl)) (pe_str) (nomark _)) (pss_one (ps_expr (pe_bm PySem.F.plainAttrs_list PySem.F.slot_list_append PySem.F.type_list_append mt_append (pv 1) (pa_cons (pe_tup (pa_cons (pe_ix ix_tup (pv 3) (pe_int) (fun _ _ => rfl)) (pa_cons (pe_ix ix_tup (pv 3) (pe_int) (fun _ _ => rfl)) (pa_cons (pe_str) (pa_cons (pe_ix ix_tup (pv 3) (pe_int) (fun _ _ => rfl)) (pa_cons (pv 2) (pa_cons (pe_ix ix_tup (pv 3) (pe_int) (fun _ _ => rfl)) (pa_nil)))))))) (pa_nil))))) (pss_nil))
        (pss_one (ps_if (pt_cmpR op_eq (pe_ix ix_tup (pv 3) (pe_int) (fun _ _ => rfl)) (pe_str) (nomark _)) (pss_one (ps_expr (pe_bm PySem.F.plainAttrs_list PySem.F.slot_list_append PySem.F.type_list_append mt_append (pv 1) (pa_cons (pe_tup (pa_cons (pe_ix ix_tup (pv 3) (pe_int) (fun _ _ => rfl)) (pa_cons (pe_ix ix_tup (pv 3) (pe_int) (fun _ _ => rfl)) (pa_cons (pe_str) (pa_cons (pe_non) (pa_cons (pv 2) (pa_cons (pe_ix ix_tup (pv 3) (pe_int) (fun _ _ => rfl)) (pa_nil)))))))) (pa_nil))))) (pss_nil))))))
        (pss_one (ps_ret (pe_callTy call_tuple_of (by rfl) B_tuple (by decide +kernel) (pa_cons (pv 1) (pa_nil))))))

abbrev s_law_coded : Stmt := topS 23
abbrev N_law_coded : List Str := ["_law_program_here", "_law_code_here", "_law_function", "_law_rows"]
theorem sc_law_coded : FnScope N_law_coded ["_law_program_here"] (defScope s_law_coded) := ⟨rfl, rfl, rfl, by decide +kernel, rfl, by decide +kernel, by decide +kernel⟩
theorem ok_law_coded {sp_law_code : Sp} {sp_law_table : Sp} {f : Addr} {fd : FuncData} (D : FunD K "_law_coded" "_law_coded" (defArgs s_law_coded) (defBody s_law_coded) (defScope s_law_coded) [] [] f fd) (B_tuple : mg "tuple" = none) (c_law_code : Cal P w K mg base k "_law_code" ["_law_one", "_law_base", "_law_depth", "_law_turn"] sp_law_code) (c_law_table : Cal P w K mg base k "_law_table" ["_law_rows"] sp_law_table) {sp : Sp}
    (len : ∀ vs H Q E, sp vs H Q E → vs.length = 1)
    (rd : ∀ vs H Q E, sp vs H Q E → t_law_coded K sp_law_code sp_law_table { nx := fun _ H' => Q .non H', rt := Q } (start N_law_coded vs) H) : FnOk P w K mg base CX0 (k + 1) f fd ["_law_program_here"] sp := by
  refine D.ok sc_law_coded len (fun cdv A outer s H vs Q E hr h => ⟨t_law_coded K sp_law_code sp_law_table, PSs.nox ?_, rd vs H Q E h⟩)
  · unfold t_law_coded
    exact pss_cons (ps_set (i := 1) sc_law_coded.nd rfl (by first | exact Or.inl rfl | exact Or.inr rfl) (pe_lst (pa_nil)))
        (pss_cons (ps_for PassesOwn.never rfl (pi_tup (pe_ix ix_tup (pv 0) (pe_int) (fun _ _ => rfl))) (pg_name (i := 2) sc_law_coded.nd rfl (by first | exact Or.inl rfl | exact Or.inr rfl)) (pss_cons (ps_set (i := 3) sc_law_coded.nd rfl (by first | exact Or.inl rfl | exact Or.inr rfl) (pe_callTy call_tuple_of (by rfl) B_tuple (by decide +kernel) (pa_cons (pe_op op_cat (pc c_law_code hr (pa_cons (pe_ix ix_tup (pv 2) (pe_int) (fun _ _ => rfl)) (pa_cons (pe_int) (pa_cons (pe_int) (pa_cons (pe_non) (pa_nil)))))) (pe_lst (pa_cons (pe_tup (pa_cons (pe_str) (pa_cons (pe_int) (pa_nil)))) (pa_cons (pe_tup (pa_cons (pe_str) (pa_nil))) (pa_nil))))) (pa_nil))))
        (pss_one (ps_expr (pe_bm PySem.F.plainAttrs_list PySem.F.slot_list_append PySem.F.type_list_append mt_append (pv 1) (pa_cons (pe_tup (pa_cons (pe_ix ix_tup (pv 2) (pe_int) (fun _ _ => rfl)) (pa_cons (pv 3) (pa_cons (pc c_law_table hr (pa_cons (pv 3) (pa_nil))) (pa_nil))))) (pa_nil)))))))
        (pss_one (ps_ret (pe_callTy call_tuple_of (by rfl) B_tuple (by decide +kernel) (pa_cons (pv 1) (pa_nil))))))

abbrev s_law_word : Stmt := topS 24
abbrev N_law_word : List Str := ["_law_part_here"]
theorem sc_law_word : FnScope N_law_word ["_law_part_here"] (defScope s_law_word) := ⟨rfl, rfl, rfl, by decide +kernel, rfl, by decide +kernel, by decide +kernel⟩
theorem ok_law_word  {f : Addr} {fd : FuncData} (D : FunD K "_law_word" "_law_word" (defArgs s_law_word) (defBody s_law_word) (defScope s_law_word) [] [] f fd) (B_str : mg "str" = none) {sp : Sp}
    (len : ∀ vs H Q E, sp vs H Q E → vs.length = 1)
    (rd : ∀ vs H Q E, sp vs H Q E → t_law_word K { nx := fun _ H' => Q .non H', rt := Q } (start N_law_word vs) H) : FnOk P w K mg base CX0 (k + 1) f fd ["_law_part_here"] sp := by
  refine D.ok sc_law_word len (fun cdv A outer s H vs Q E hr h => ⟨t_law_word K, PSs.nox ?_, rd vs H Q E h⟩)
  · unfold t_law_word
    exact pss_cons (ps_if (pt_cmpR op_isN (pv 0) (pe_non) (nomark _)) (pss_one (ps_ret (pe_str))) (pss_nil))
        (pss_one (ps_ret (pe_callTy call_str1 (by rfl) B_str (by decide +kernel) (pa_cons (pv 0) (pa_nil)))))

abbrev s_law_listed : Stmt := topS 25
abbrev N_law_listed : List Str := ["_law_code_here", "_law_lines", "_law_function", "_law_row", "_law_part_here"]
theorem sc_law_listed : FnScope N_law_listed ["_law_code_here"] (defScope s_law_listed) := ⟨rfl, rfl, rfl, by decide +kernel, rfl, by decide +kernel, by decide +kernel⟩
theorem ok_law_listed {sp_law_word : Sp} {f : Addr} {fd : FuncData} (D : FunD K "_law_listed" "_law_listed" (defArgs s_law_listed) (defBody s_law_listed) (defScope s_law_listed) [] [] f fd) (B_str : mg "str" = none) (c_law_word : Cal P w K mg base k "_law_word" ["_law_part_here"] sp_law_word) {sp : Sp}
    (len : ∀ vs H Q E, sp vs H Q E → vs.length = 1)
    (rd : ∀ vs H Q E, sp vs H Q E → t_law_listed K sp_law_word { nx := fun _ H' => Q .non H', rt := Q } (start N_law_listed vs) H) : FnOk P w K mg base CX0 (k + 1) f fd ["_law_code_here"] sp := by
  refine D.ok sc_law_listed len (fun cdv A outer s H vs Q E hr h => ⟨t_law_listed K sp_law_word, PSs.nox ?_, rd vs H Q E h⟩)
  · unfold t_law_listed
    exact pss_cons (ps_set (i := 1) sc_law_listed.nd rfl (by first | exact Or.inl rfl | exact Or.inr rfl) (pe_lst (pa_nil)))
        (pss_cons (ps_for PassesOwn.never rfl (pi_tup (pv 0)) (pg_name (i := 2) sc_law_listed.nd rfl (by first | exact Or.inl rfl | exact Or.inr rfl)) (pss_cons (ps_expr (pe_bm PySem.F.plainAttrs_list PySem.F.slot_list_append PySem.F.type_list_append mt_append (pv 1) (pa_cons (pe_op op_addS (pe_str) (pe_callTy call_str1 (by rfl) B_str (by decide +kernel) (pa_cons (pe_ix ix_tup (pv 2) (pe_int) (fun _ _ => rfl)) (pa_nil)))) (pa_nil))))
        (pss_cons (ps_for PassesOwn.never rfl (pi_tup (pe_ix ix_tup (pv 2) (pe_int) (fun _ _ => rfl))) (pg_name (i := 3) sc_law_listed.nd rfl (by first | exact Or.inl rfl | exact Or.inr rfl)) (pss_one (ps_expr (pe_bm PySem.F.plainAttrs_list PySem.F.slot_list_append PySem.F.type_list_append mt_append (pv 1) (pa_cons (pe_joinR (pe_str) (pe_lc (own := [("_law_part_here", 4)]) (g := gName 4) rfl sc_law_listed.nd (pi_tup (pv 3)) (blkOk_by (own := [("_law_part_here", 4)]) (N := N_law_listed) (sc := defScope s_law_listed) (by decide +kernel)) (fun _ _ _ _ _ => pg_name (i := 4) sc_law_listed.nd rfl (Or.inl rfl)) (fun _ _ _ _ _ => pts_nil) (fun _ _ _ _ _ => pc c_law_word hr (pa_cons (pv 4) (pa_nil))))) (pa_nil))))))
        (pss_one (ps_for PassesOwn.never rfl (pi_tup (pe_ix ix_tup (pv 2) (pe_int) (fun _ _ => rfl))) (pg_name (i := 3) sc_law_listed.nd rfl (by first | exact Or.inl rfl | exact Or.inr rfl)) (pss_one (ps_expr (pe_bm PySem.F.plainAttrs_list PySem.F.slot_list_append PySem.F.type_list_append mt_append (pv 1) (pa_cons (pe_op op_addS (pe_str) (pe_joinR (pe_str) (pe_lc (own := [("_law_part_here", 4)]) (g := gName 4) rfl sc_law_listed.nd (pi_tup (pv 3)) (blkOk_by (own := [("_law_part_here", 4)]) (N := N_law_listed) (sc := defScope s_law_listed) (by decide +kernel)) (fun _ _ _ _ _ => pg_name (i := 4) sc_law_listed.nd rfl (Or.inl rfl)) (fun _ _ _ _ _ => pts_nil) (fun _ _ _ _ _ => pc c_law_word hr (pa_cons (pv 4) (pa_nil)))))) (pa_nil))))))))))
        (pss_one (ps_ret (pe_joinR (pe_str) (pv 1)))))

abbrev s_law : Stmt := topS 26
abbrev N_law : List Str := ["_law_script", "_law_box", "_law_code_here"]
theorem sc_law : FnScope N_law ["_law_script"] (defScope s_law) := ⟨rfl, rfl, rfl, by decide +kernel, rfl, by decide +kernel, by decide +kernel⟩
theorem ok_law {sp_law_coded : Sp} {sp_law_program : Sp} {sp_law_alike : Sp} {sp_listing : Sp} {sp_law_listed : Sp} {f : Addr} {fd : FuncData} (D : FunD K "law" "law" (defArgs s_law) (defBody s_law) (defScope s_law) [] [] f fd) (B_list : mg "list" = none) (c_law_coded : Cal P w K mg base k "_law_coded" ["_law_program_here"] sp_law_coded) (c_law_program : Cal P w K mg base k "_law_program" ["_law_box"] sp_law_program) (c_law_alike : Cal P w K mg base k "_law_alike" ["_law_found", "_law_due"] sp_law_alike) (c_listing : Cal P w K mg base k "listing" ["code"] sp_listing) (c_law_listed : Cal P w K mg base k "_law_listed" ["_law_code_here"] sp_law_listed) {sp : Sp}
    (len : ∀ vs H Q E, sp vs H Q E → vs.length = 1)
    (rd : ∀ vs H Q E, sp vs H Q E → t_law K sp_law_coded sp_law_program sp_law_alike sp_listing sp_law_listed { nx := fun _ H' => Q .non H', rt := Q } (start N_law vs) H) : FnOk P w K mg base CX0 (k + 1) f fd ["_law_script"] sp := by
  refine D.ok sc_law len (fun cdv A outer s H vs Q E hr h => ⟨t_law K sp_law_coded sp_law_program sp_law_alike sp_listing sp_law_listed, PSs.nox ?_, rd vs H Q E h⟩)
  · unfold t_law
    exact pss_cons (ps_set (i := 1) sc_law.nd rfl (by first | exact Or.inl rfl | exact Or.inr rfl) (pe_callTy call_list_of (by rfl) B_list (by decide +kernel) (pa_cons (pv 0) (pa_nil))))
        (pss_cons (ps_set (i := 2) sc_law.nd rfl (by first | exact Or.inl rfl | exact Or.inr rfl) (pc c_law_coded hr (pa_cons (pc c_law_program hr (pa_cons (pv 1) (pa_nil))) (pa_nil))))
        (pss_one (ps_ret (pc c_law_alike hr (pa_cons (pc c_listing hr (pa_cons (pv 2) (pa_nil))) (pa_cons (pc c_law_listed hr (pa_cons (pv 2) (pa_nil))) (pa_nil)))))))

end
def d_word_of : He.DefD := ⟨("word_of", none), "word_of", "word_of", defArgs s_word_of, defBody s_word_of, defScope s_word_of, [], []⟩
def d_line_of : He.DefD := ⟨("line_of", none), "line_of", "line_of", defArgs s_line_of, defBody s_line_of, defScope s_line_of, [], []⟩
def d_listing : He.DefD := ⟨("listing", none), "listing", "listing", defArgs s_listing, defBody s_listing, defScope s_listing, [], []⟩
def d_law_take : He.DefD := ⟨("_law_take", none), "_law_take", "_law_take", defArgs s_law_take, defBody s_law_take, defScope s_law_take, [], []⟩
def d_law_alike : He.DefD := ⟨("_law_alike", none), "_law_alike", "_law_alike", defArgs s_law_alike, defBody s_law_alike, defScope s_law_alike, [], []⟩
def d_law_part : He.DefD := ⟨("_law_part", none), "_law_part", "_law_part", defArgs s_law_part, defBody s_law_part, defScope s_law_part, [], []⟩
def d_law_kinds : He.DefD := ⟨("_law_kinds", none), "_law_kinds", "_law_kinds", defArgs s_law_kinds, defBody s_law_kinds, defScope s_law_kinds, [], []⟩
def d_law_call : He.DefD := ⟨("_law_call", none), "_law_call", "_law_call", defArgs s_law_call, defBody s_law_call, defScope s_law_call, [], []⟩
def d_law_simple : He.DefD := ⟨("_law_simple", none), "_law_simple", "_law_simple", defArgs s_law_simple, defBody s_law_simple, defScope s_law_simple, [], []⟩
def d_law_handler : He.DefD := ⟨("_law_handler", none), "_law_handler", "_law_handler", defArgs s_law_handler, defBody s_law_handler, defScope s_law_handler, [], []⟩
def d_law_statement : He.DefD := ⟨("_law_statement", none), "_law_statement", "_law_statement", defArgs s_law_statement, defBody s_law_statement, defScope s_law_statement, [], []⟩
def d_law_program : He.DefD := ⟨("_law_program", none), "_law_program", "_law_program", defArgs s_law_program, defBody s_law_program, defScope s_law_program, [], []⟩
def d_law_part_code : He.DefD := ⟨("_law_part_code", none), "_law_part_code", "_law_part_code", defArgs s_law_part_code, defBody s_law_part_code, defScope s_law_part_code, [], []⟩
def d_law_loop_code : He.DefD := ⟨("_law_loop_code", none), "_law_loop_code", "_law_loop_code", defArgs s_law_loop_code, defBody s_law_loop_code, defScope s_law_loop_code, [], []⟩
def d_law_try_code : He.DefD := ⟨("_law_try_code", none), "_law_try_code", "_law_try_code", defArgs s_law_try_code, defBody s_law_try_code, defScope s_law_try_code, [], []⟩
def d_law_if_code : He.DefD := ⟨("_law_if_code", none), "_law_if_code", "_law_if_code", defArgs s_law_if_code, defBody s_law_if_code, defScope s_law_if_code, [], []⟩
def d_law_clean_code : He.DefD := ⟨("_law_clean_code", none), "_law_clean_code", "_law_clean_code", defArgs s_law_clean_code, defBody s_law_clean_code, defScope s_law_clean_code, [], []⟩
def d_law_plain_code : He.DefD := ⟨("_law_plain_code", none), "_law_plain_code", "_law_plain_code", defArgs s_law_plain_code, defBody s_law_plain_code, defScope s_law_plain_code, [], []⟩
def d_law_code : He.DefD := ⟨("_law_code", none), "_law_code", "_law_code", defArgs s_law_code, defBody s_law_code, defScope s_law_code, [], []⟩
def d_law_table : He.DefD := ⟨("_law_table", none), "_law_table", "_law_table", defArgs s_law_table, defBody s_law_table, defScope s_law_table, [], []⟩
def d_law_coded : He.DefD := ⟨("_law_coded", none), "_law_coded", "_law_coded", defArgs s_law_coded, defBody s_law_coded, defScope s_law_coded, [], []⟩
def d_law_word : He.DefD := ⟨("_law_word", none), "_law_word", "_law_word", defArgs s_law_word, defBody s_law_word, defScope s_law_word, [], []⟩
def d_law_listed : He.DefD := ⟨("_law_listed", none), "_law_listed", "_law_listed", defArgs s_law_listed, defBody s_law_listed, defScope s_law_listed, [], []⟩
def d_law : He.DefD := ⟨("law", none), "law", "law", defArgs s_law, defBody s_law, defScope s_law, [], []⟩
def fn : List He.DefD := [d_word_of, d_line_of, d_listing, d_law_take, d_law_alike, d_law_part, d_law_kinds, d_law_call, d_law_simple, d_law_handler, d_law_statement, d_law_program, d_law_part_code, d_law_loop_code, d_law_try_code, d_law_if_code, d_law_clean_code, d_law_plain_code, d_law_code, d_law_table, d_law_coded, d_law_word, d_law_listed, d_law]
def fa : List He.Fa := [.glo "word_of", .glo "line_of", .glo "listing", .glo "_law_take", .glo "_law_alike", .glo "_law_part", .glo "_law_kinds", .glo "_law_call", .glo "_law_simple", .glo "_law_handler", .glo "_law_statement", .glo "_law_program", .glo "_law_part_code", .glo "_law_loop_code", .glo "_law_try_code", .glo "_law_if_code", .glo "_law_clean_code", .glo "_law_plain_code", .glo "_law_code", .glo "_law_table", .glo "_law_coded", .glo "_law_word", .glo "_law_listed", .glo "law", .free "str", .free "isinstance", .free "bool", .free "int", .free "tuple", .free "list", .free "len", .free "range"]
abbrev loose : List PySem.Str := ["word_of", "line_of", "listing", "_law_take", "_law_alike", "_law_part", "_law_kinds", "_law_above", "_law_call", "_law_simple", "_law_handler", "_law_statement", "_law_program", "_law_part_code", "_law_loop_code", "_law_try_code", "_law_if_code", "_law_clean_code", "_law_plain_code", "_law_code", "_law_table", "_law_coded", "_law_word", "_law_listed"]
abbrev R : PySem.W.OpenRow := PySem.W.OpenLaw.row PySem.Challenge.rw_leaps_k17_listed
abbrev hk : PySem.W.Hook := He.hookD 5 fa fn
def ob (s : PySem.W.SharedT) : He.AlD := He.obsDG 5 fa fn (HandSHeadRun.getT s)
theorem ob_eq (s : PySem.W.SharedT) : ob s = hk.obs s.abs := He.obsDG_eq (HandSHeadRun.getT_eq s)
set_option maxHeartbeats 0 in
theorem run (w : World) : HandSHeadRun.RunEq R (PySem.W.view R.prog [26]) hk ob 2000 loose w := by
  intro os
  kernel_rfl
theorem facts {w : World} {K : PySem.W.Frag} {h : Heap} {mg : Str → Option Value} {f : Addr} (X : K.In h) (G : h.Ns mainGlobals mg) (hfa : mg ("law" : Str) = some (.ref f)) (c : He.SaysD fa fn K) :
    ∃ fd : FuncData, (∀ (s : Shared) (v : Value), BindsTo s fd ⟨[v], []⟩ [("_law_script", v)]) ∧ ∀ base : Heap, K.In base → base.Ns mainGlobals mg → FnOk PySem.Challenge.pw_leaps_k17_listed w K mg base CX0 19 f fd ["_law_script"] (spLaw K) := by
  obtain ⟨fd_word_of, D_word_of⟩ := c.def_ 0 (d := d_word_of) rfl
  obtain ⟨fd_line_of, D_line_of⟩ := c.def_ 1 (d := d_line_of) rfl
  obtain ⟨fd_listing, D_listing⟩ := c.def_ 2 (d := d_listing) rfl
  obtain ⟨fd_law_take, D_law_take⟩ := c.def_ 3 (d := d_law_take) rfl
  obtain ⟨fd_law_alike, D_law_alike⟩ := c.def_ 4 (d := d_law_alike) rfl
  obtain ⟨fd_law_part, D_law_part⟩ := c.def_ 5 (d := d_law_part) rfl
  obtain ⟨fd_law_kinds, D_law_kinds⟩ := c.def_ 6 (d := d_law_kinds) rfl
  obtain ⟨fd_law_call, D_law_call⟩ := c.def_ 7 (d := d_law_call) rfl
  obtain ⟨fd_law_simple, D_law_simple⟩ := c.def_ 8 (d := d_law_simple) rfl
  obtain ⟨fd_law_handler, D_law_handler⟩ := c.def_ 9 (d := d_law_handler) rfl
  obtain ⟨fd_law_statement, D_law_statement⟩ := c.def_ 10 (d := d_law_statement) rfl
  obtain ⟨fd_law_program, D_law_program⟩ := c.def_ 11 (d := d_law_program) rfl
  obtain ⟨fd_law_part_code, D_law_part_code⟩ := c.def_ 12 (d := d_law_part_code) rfl
  obtain ⟨fd_law_loop_code, D_law_loop_code⟩ := c.def_ 13 (d := d_law_loop_code) rfl
  obtain ⟨fd_law_try_code, D_law_try_code⟩ := c.def_ 14 (d := d_law_try_code) rfl
  obtain ⟨fd_law_if_code, D_law_if_code⟩ := c.def_ 15 (d := d_law_if_code) rfl
  obtain ⟨fd_law_clean_code, D_law_clean_code⟩ := c.def_ 16 (d := d_law_clean_code) rfl
  obtain ⟨fd_law_plain_code, D_law_plain_code⟩ := c.def_ 17 (d := d_law_plain_code) rfl
  obtain ⟨fd_law_code, D_law_code⟩ := c.def_ 18 (d := d_law_code) rfl
  obtain ⟨fd_law_table, D_law_table⟩ := c.def_ 19 (d := d_law_table) rfl
  obtain ⟨fd_law_coded, D_law_coded⟩ := c.def_ 20 (d := d_law_coded) rfl
  obtain ⟨fd_law_word, D_law_word⟩ := c.def_ 21 (d := d_law_word) rfl
  obtain ⟨fd_law_listed, D_law_listed⟩ := c.def_ 22 (d := d_law_listed) rfl
  obtain ⟨fd_law, D_law⟩ := c.def_ 23 (d := d_law) rfl
  have G_word_of := He.glo_ok X G (c.fact 0 (f := .glo "word_of") rfl)
  have G_line_of := He.glo_ok X G (c.fact 1 (f := .glo "line_of") rfl)
  have G_listing := He.glo_ok X G (c.fact 2 (f := .glo "listing") rfl)
  have G__law_take := He.glo_ok X G (c.fact 3 (f := .glo "_law_take") rfl)
  have G__law_alike := He.glo_ok X G (c.fact 4 (f := .glo "_law_alike") rfl)
  have G__law_part := He.glo_ok X G (c.fact 5 (f := .glo "_law_part") rfl)
  have G__law_kinds := He.glo_ok X G (c.fact 6 (f := .glo "_law_kinds") rfl)
  have G__law_call := He.glo_ok X G (c.fact 7 (f := .glo "_law_call") rfl)
  have G__law_simple := He.glo_ok X G (c.fact 8 (f := .glo "_law_simple") rfl)
  have G__law_handler := He.glo_ok X G (c.fact 9 (f := .glo "_law_handler") rfl)
  have G__law_statement := He.glo_ok X G (c.fact 10 (f := .glo "_law_statement") rfl)
  have G__law_program := He.glo_ok X G (c.fact 11 (f := .glo "_law_program") rfl)
  have G__law_part_code := He.glo_ok X G (c.fact 12 (f := .glo "_law_part_code") rfl)
  have G__law_loop_code := He.glo_ok X G (c.fact 13 (f := .glo "_law_loop_code") rfl)
  have G__law_try_code := He.glo_ok X G (c.fact 14 (f := .glo "_law_try_code") rfl)
  have G__law_if_code := He.glo_ok X G (c.fact 15 (f := .glo "_law_if_code") rfl)
  have G__law_clean_code := He.glo_ok X G (c.fact 16 (f := .glo "_law_clean_code") rfl)
  have G__law_plain_code := He.glo_ok X G (c.fact 17 (f := .glo "_law_plain_code") rfl)
  have G__law_code := He.glo_ok X G (c.fact 18 (f := .glo "_law_code") rfl)
  have G__law_table := He.glo_ok X G (c.fact 19 (f := .glo "_law_table") rfl)
  have G__law_coded := He.glo_ok X G (c.fact 20 (f := .glo "_law_coded") rfl)
  have G__law_word := He.glo_ok X G (c.fact 21 (f := .glo "_law_word") rfl)
  have G__law_listed := He.glo_ok X G (c.fact 22 (f := .glo "_law_listed") rfl)
  have G_law := He.glo_ok X G (c.fact 23 (f := .glo "law") rfl)
  have B_str := He.free_ok X G (c.fact 24 (f := .free "str") rfl)
  have B_isinstance := He.free_ok X G (c.fact 25 (f := .free "isinstance") rfl)
  have B_bool := He.free_ok X G (c.fact 26 (f := .free "bool") rfl)
  have B_int := He.free_ok X G (c.fact 27 (f := .free "int") rfl)
  have B_tuple := He.free_ok X G (c.fact 28 (f := .free "tuple") rfl)
  have B_list := He.free_ok X G (c.fact 29 (f := .free "list") rfl)
  have B_len := He.free_ok X G (c.fact 30 (f := .free "len") rfl)
  have B_range := He.free_ok X G (c.fact 31 (f := .free "range") rfl)
  have eLaw := hfa.symm.trans G_law
  cases eLaw
  have b_word_of := FunD.bindsN (ps := ["part"]) D_word_of fun _ _ _ _ _ _ us hl => match us, hl with | [_], _ => rfl
  have b_line_of := FunD.bindsN (ps := ["row"]) D_line_of fun _ _ _ _ _ _ us hl => match us, hl with | [_], _ => rfl
  have b_listing := FunD.bindsN (ps := ["code"]) D_listing fun _ _ _ _ _ _ us hl => match us, hl with | [_], _ => rfl
  have b_law_take := FunD.bindsN (ps := ["_law_box", "_law_many"]) D_law_take fun _ _ _ _ _ _ us hl => match us, hl with | [_, _], _ => rfl
  have b_law_alike := FunD.bindsN (ps := ["_law_found", "_law_due"]) D_law_alike fun _ _ _ _ _ _ us hl => match us, hl with | [_, _], _ => rfl
  have b_law_part := FunD.bindsN (ps := ["_law_box", "_law_deep"]) D_law_part fun _ _ _ _ _ _ us hl => match us, hl with | [_, _], _ => rfl
  have b_law_kinds := FunD.bindsN (ps := ["_law_box", "_law_most"]) D_law_kinds fun _ _ _ _ _ _ us hl => match us, hl with | [_, _], _ => rfl
  have b_law_call := FunD.bindsN (ps := ["_law_box", "_law_shape"]) D_law_call fun _ _ _ _ _ _ us hl => match us, hl with | [_, _], _ => rfl
  have b_law_simple := FunD.bindsN (ps := ["_law_box", "_law_shape", "_law_turn", "_law_handler_here"]) D_law_simple fun _ _ _ _ _ _ us hl => match us, hl with | [_, _, _, _], _ => rfl
  have b_law_handler := FunD.bindsN (ps := ["_law_box", "_law_shape", "_law_deep", "_law_turn"]) D_law_handler fun _ _ _ _ _ _ us hl => match us, hl with | [_, _, _, _], _ => rfl
  have b_law_statement := FunD.bindsN (ps := ["_law_box", "_law_shape", "_law_deep", "_law_turn", "_law_handler_here"]) D_law_statement fun _ _ _ _ _ _ us hl => match us, hl with | [_, _, _, _, _], _ => rfl
  have b_law_program := FunD.bindsN (ps := ["_law_box"]) D_law_program fun _ _ _ _ _ _ us hl => match us, hl with | [_], _ => rfl
  have b_law_part_code := FunD.bindsN (ps := ["_law_part_here"]) D_law_part_code fun _ _ _ _ _ _ us hl => match us, hl with | [_], _ => rfl
  have b_law_loop_code := FunD.bindsN (ps := ["_law_one", "_law_base", "_law_depth"]) D_law_loop_code fun _ _ _ _ _ _ us hl => match us, hl with | [_, _, _], _ => rfl
  have b_law_try_code := FunD.bindsN (ps := ["_law_one", "_law_base", "_law_depth", "_law_turn"]) D_law_try_code fun _ _ _ _ _ _ us hl => match us, hl with | [_, _, _, _], _ => rfl
  have b_law_if_code := FunD.bindsN (ps := ["_law_one", "_law_base", "_law_depth", "_law_turn"]) D_law_if_code fun _ _ _ _ _ _ us hl => match us, hl with | [_, _, _, _], _ => rfl
  have b_law_clean_code := FunD.bindsN (ps := ["_law_one", "_law_base", "_law_depth", "_law_turn"]) D_law_clean_code fun _ _ _ _ _ _ us hl => match us, hl with | [_, _, _, _], _ => rfl
  have b_law_plain_code := FunD.bindsN (ps := ["_law_one", "_law_turn"]) D_law_plain_code fun _ _ _ _ _ _ us hl => match us, hl with | [_, _], _ => rfl
  have b_law_code := FunD.bindsN (ps := ["_law_one", "_law_base", "_law_depth", "_law_turn"]) D_law_code fun _ _ _ _ _ _ us hl => match us, hl with | [_, _, _, _], _ => rfl
  have b_law_table := FunD.bindsN (ps := ["_law_rows"]) D_law_table fun _ _ _ _ _ _ us hl => match us, hl with | [_], _ => rfl
  have b_law_coded := FunD.bindsN (ps := ["_law_program_here"]) D_law_coded fun _ _ _ _ _ _ us hl => match us, hl with | [_], _ => rfl
  have b_law_word := FunD.bindsN (ps := ["_law_part_here"]) D_law_word fun _ _ _ _ _ _ us hl => match us, hl with | [_], _ => rfl
  have b_law_listed := FunD.bindsN (ps := ["_law_code_here"]) D_law_listed fun _ _ _ _ _ _ us hl => match us, hl with | [_], _ => rfl
  have b_law := FunD.bindsA (ps := ["_law_script"]) D_law fun _ _ _ _ _ _ us hl => match us, hl with | [_], _ => rfl
  refine ⟨fd_law, fun s v => b_law s [v] rfl, fun base _ _ => ?_⟩
  have c_word_of : Cal PySem.Challenge.pw_leaps_k17_listed w K mg base 1 "word_of" ["part"] (KL.spWord K) := ⟨_, _, ok_word_of (k := 0) D_word_of B_str (fun vs H Q E h => by obtain ⟨_, _, rfl, _⟩ := h; rfl) KL.rd_word, b_word_of, D_word_of.kp, G_word_of⟩
  have c_line_of : Cal PySem.Challenge.pw_leaps_k17_listed w K mg base 2 "line_of" ["row"] (KL.spLine K) := ⟨_, _, ok_line_of (k := 1) D_line_of (c_word_of.mono (by decide)) (fun vs H Q E h => by obtain ⟨_, _, rfl, _⟩ := h; rfl) KL.rd_line, b_line_of, D_line_of.kp, G_line_of⟩
  have c_listing : Cal PySem.Challenge.pw_leaps_k17_listed w K mg base 3 "listing" ["code"] (KL.spList K) := ⟨_, _, ok_listing (k := 2) D_listing B_str (c_line_of.mono (by decide)) (fun vs H Q E h => by obtain ⟨_, _, rfl, _⟩ := h; rfl) KL.rd_listing, b_listing, D_listing.kp, G_listing⟩
  have c_law_take : Cal PySem.Challenge.pw_leaps_k17_listed w K mg base 1 "_law_take" ["_law_box", "_law_many"] spTake := ⟨_, _, ok_law_take (k := 0) D_law_take  (fun vs H Q E h => by obtain ⟨_, _, _, rfl, _⟩ := h; rfl) rd_take, b_law_take, D_law_take.kp, G__law_take⟩
  have r_law_alike : ∀ n, Cal PySem.Challenge.pw_leaps_k17_listed w K mg base (0 + 1 * n) "_law_alike" ["_law_found", "_law_due"] (spAlike K n) := by
    intro n
    induction n with
    | zero => exact ⟨_, _, FnOk.zero spAlike_zero, b_law_alike, D_law_alike.kp, G__law_alike⟩
    | succ n c_law_alike =>
      have z : Cal PySem.Challenge.pw_leaps_k17_listed w K mg base (0 + 1 * n + 0 + 1) "_law_alike" ["_law_found", "_law_due"] (spAlike K (n + 1)) := ⟨_, _, ok_law_alike (k := 0 + 1 * n + 0) D_law_alike B_isinstance B_bool B_int B_str B_tuple B_list B_len B_range (c_law_alike.mono (by omega)) (fun vs H Q E h => by obtain ⟨_, _, _, rfl, _⟩ := h; rfl) rd_alike, b_law_alike, D_law_alike.kp, G__law_alike⟩
      exact z.mono (by omega)
  have c_law_alike : Cal PySem.Challenge.pw_leaps_k17_listed w K mg base (5) "_law_alike" ["_law_found", "_law_due"] (spAlike K 5) := r_law_alike 5
  have r_law_part : ∀ n, Cal PySem.Challenge.pw_leaps_k17_listed w K mg base (1 + 1 * n) "_law_part" ["_law_box", "_law_deep"] (spPart K n) := by
    intro n
    induction n with
    | zero => exact ⟨_, _, FnOk.zero spPart_zero, b_law_part, D_law_part.kp, G__law_part⟩
    | succ n c_law_part =>
      have z : Cal PySem.Challenge.pw_leaps_k17_listed w K mg base (1 + 1 * n + 0 + 1) "_law_part" ["_law_box", "_law_deep"] (spPart K (n + 1)) := ⟨_, _, ok_law_part (k := 1 + 1 * n + 0) D_law_part (c_law_take.mono (by omega)) (c_law_part.mono (by omega)) (fun vs H Q E h => by obtain ⟨_, _, _, rfl, _⟩ := h; rfl) rd_law_part, b_law_part, D_law_part.kp, G__law_part⟩
      exact z.mono (by omega)
  have c_law_part : Cal PySem.Challenge.pw_leaps_k17_listed w K mg base (6) "_law_part" ["_law_box", "_law_deep"] (spPart K 5) := r_law_part 5
  have c_law_kinds : Cal PySem.Challenge.pw_leaps_k17_listed w K mg base 2 "_law_kinds" ["_law_box", "_law_most"] spKinds := ⟨_, _, ok_law_kinds (k := 1) D_law_kinds B_range (c_law_take.mono (by decide)) B_int B_tuple (fun vs H Q E h => by obtain ⟨_, _, _, rfl, _⟩ := h; rfl) rd_kinds, b_law_kinds, D_law_kinds.kp, G__law_kinds⟩
  have c_law_call : Cal PySem.Challenge.pw_leaps_k17_listed w K mg base 7 "_law_call" ["_law_box", "_law_shape"] (spCallS K) := ⟨_, _, ok_law_call (k := 6) D_law_call (c_law_take.mono (by decide)) B_len B_range (c_law_part.mono (by decide)) B_tuple (fun vs H Q E h => by obtain ⟨_, _, _, _, _, rfl, _⟩ := h; rfl) rd_law_call, b_law_call, D_law_call.kp, G__law_call⟩
  have c_law_simple : Cal PySem.Challenge.pw_leaps_k17_listed w K mg base 8 "_law_simple" ["_law_box", "_law_shape", "_law_turn", "_law_handler_here"] (spSimple K) := ⟨_, _, ok_law_simple (k := 7) D_law_simple (c_law_take.mono (by decide)) (c_law_call.mono (by decide)) (c_law_part.mono (by decide)) (fun vs H Q E h => by obtain ⟨_, _, _, _, _, _, _, rfl, _⟩ := h; rfl) rd_law_simple, b_law_simple, D_law_simple.kp, G__law_simple⟩
  have r_law_statement : ∀ n, Cal PySem.Challenge.pw_leaps_k17_listed w K mg base (8 + 2 * n) "_law_statement" ["_law_box", "_law_shape", "_law_deep", "_law_turn", "_law_handler_here"] (spStmt K n) := by
    intro n
    induction n with
    | zero => exact ⟨_, _, FnOk.zero spStmt_zero, b_law_statement, D_law_statement.kp, G__law_statement⟩
    | succ n c_law_statement =>
      have c_law_handler : Cal PySem.Challenge.pw_leaps_k17_listed w K mg base (8 + 2 * n + 0 + 1) "_law_handler" ["_law_box", "_law_shape", "_law_deep", "_law_turn"] (spHandler K n) := ⟨_, _, ok_law_handler (k := 8 + 2 * n + 0) D_law_handler (c_law_take.mono (by omega)) (c_law_statement.mono (by omega)) (fun vs H Q E h => by obtain ⟨_, _, _, _, _, _, _, rfl, _⟩ := h; rfl) rd_law_handler, b_law_handler, D_law_handler.kp, G__law_handler⟩
      have z : Cal PySem.Challenge.pw_leaps_k17_listed w K mg base (8 + 2 * n + 1 + 1) "_law_statement" ["_law_box", "_law_shape", "_law_deep", "_law_turn", "_law_handler_here"] (spStmt K (n + 1)) := ⟨_, _, ok_law_statement (k := 8 + 2 * n + 1) D_law_statement (c_law_take.mono (by omega)) (c_law_simple.mono (by omega)) B_tuple B_range (c_law_statement.mono (by omega)) (c_law_part.mono (by omega)) (c_law_handler.mono (by omega)) (fun vs H Q E h => by obtain ⟨_, _, _, _, _, _, _, _, rfl, _⟩ := h; rfl) rd_law_statement, b_law_statement, D_law_statement.kp, G__law_statement⟩
      exact z.mono (by omega)
  have c_law_statement : Cal PySem.Challenge.pw_leaps_k17_listed w K mg base (16) "_law_statement" ["_law_box", "_law_shape", "_law_deep", "_law_turn", "_law_handler_here"] (spStmt K 4) := r_law_statement 4
  have c_law_program : Cal PySem.Challenge.pw_leaps_k17_listed w K mg base 17 "_law_program" ["_law_box"] (spProgram K) := ⟨_, _, ok_law_program (k := 16) D_law_program (c_law_kinds.mono (by decide)) B_range (c_law_take.mono (by decide)) B_len (c_law_statement.mono (by decide)) B_tuple (fun vs H Q E h => by obtain ⟨_, _, rfl, _⟩ := h; rfl) rd_law_program, b_law_program, D_law_program.kp, G__law_program⟩
  have r_law_part_code : ∀ n, Cal PySem.Challenge.pw_leaps_k17_listed w K mg base (0 + 1 * n) "_law_part_code" ["_law_part_here"] (spPartCode K n) := by
    intro n
    induction n with
    | zero => exact ⟨_, _, FnOk.zero spPartCode_zero, b_law_part_code, D_law_part_code.kp, G__law_part_code⟩
    | succ n c_law_part_code =>
      have z : Cal PySem.Challenge.pw_leaps_k17_listed w K mg base (0 + 1 * n + 0 + 1) "_law_part_code" ["_law_part_here"] (spPartCode K (n + 1)) := ⟨_, _, ok_law_part_code (k := 0 + 1 * n + 0) D_law_part_code (c_law_part_code.mono (by omega)) (fun vs H Q E h => by obtain ⟨_, _, rfl, _⟩ := h; rfl) rd_part_code, b_law_part_code, D_law_part_code.kp, G__law_part_code⟩
      exact z.mono (by omega)
  have c_law_part_code : Cal PySem.Challenge.pw_leaps_k17_listed w K mg base (6) "_law_part_code" ["_law_part_here"] (spPartCode K 6) := r_law_part_code 6
  have c_law_plain_code : Cal PySem.Challenge.pw_leaps_k17_listed w K mg base 7 "_law_plain_code" ["_law_one", "_law_turn"] (spPlainCode (K := K)) := ⟨_, _, ok_law_plain_code (k := 6) D_law_plain_code (c_law_part_code.mono (by decide)) B_len (fun vs H Q E h => by obtain ⟨_, _, _, _, _, _, _, rfl, _⟩ := h; rfl) rd_plain_code, b_law_plain_code, D_law_plain_code.kp, G__law_plain_code⟩
  have r_law_code : ∀ n, Cal PySem.Challenge.pw_leaps_k17_listed w K mg base (7 + 2 * n) "_law_code" ["_law_one", "_law_base", "_law_depth", "_law_turn"] (spCode (K := K) n) := by
    intro n
    induction n with
    | zero => exact ⟨_, _, FnOk.zero spCode_zero, b_law_code, D_law_code.kp, G__law_code⟩
    | succ n c_law_code =>
      have c_law_loop_code : Cal PySem.Challenge.pw_leaps_k17_listed w K mg base (7 + 2 * n + 0 + 1) "_law_loop_code" ["_law_one", "_law_base", "_law_depth"] (spLoopCode (K := K) n) := ⟨_, _, ok_law_loop_code (k := 7 + 2 * n + 0) D_law_loop_code (c_law_part_code.mono (by omega)) B_len (c_law_code.mono (by omega)) B_int (fun vs H Q E h => by obtain ⟨_, _, _, _, _, _, rfl, _⟩ := h; rfl) rd_loop_code, b_law_loop_code, D_law_loop_code.kp, G__law_loop_code⟩
      have c_law_try_code : Cal PySem.Challenge.pw_leaps_k17_listed w K mg base (7 + 2 * n + 0 + 1) "_law_try_code" ["_law_one", "_law_base", "_law_depth", "_law_turn"] (spTryCode (K := K) n) := ⟨_, _, ok_law_try_code (k := 7 + 2 * n + 0) D_law_try_code (c_law_code.mono (by omega)) B_len B_int (fun vs H Q E h => by obtain ⟨_, _, _, _, _, _, _, rfl, _⟩ := h; rfl) rd_try_code, b_law_try_code, D_law_try_code.kp, G__law_try_code⟩
      have c_law_if_code : Cal PySem.Challenge.pw_leaps_k17_listed w K mg base (7 + 2 * n + 0 + 1) "_law_if_code" ["_law_one", "_law_base", "_law_depth", "_law_turn"] (spIfCode (K := K) n) := ⟨_, _, ok_law_if_code (k := 7 + 2 * n + 0) D_law_if_code (c_law_part_code.mono (by omega)) (c_law_code.mono (by omega)) B_len (fun vs H Q E h => by obtain ⟨_, _, _, _, _, _, _, _, rfl, _⟩ := h; rfl) rd_if_code, b_law_if_code, D_law_if_code.kp, G__law_if_code⟩
      have c_law_clean_code : Cal PySem.Challenge.pw_leaps_k17_listed w K mg base (7 + 2 * n + 0 + 1) "_law_clean_code" ["_law_one", "_law_base", "_law_depth", "_law_turn"] (spCleanCode (K := K) n) := ⟨_, _, ok_law_clean_code (k := 7 + 2 * n + 0) D_law_clean_code (c_law_code.mono (by omega)) B_len (fun vs H Q E h => by obtain ⟨_, _, _, _, _, _, _, rfl, _⟩ := h; rfl) rd_clean_code, b_law_clean_code, D_law_clean_code.kp, G__law_clean_code⟩
      have z : Cal PySem.Challenge.pw_leaps_k17_listed w K mg base (7 + 2 * n + 1 + 1) "_law_code" ["_law_one", "_law_base", "_law_depth", "_law_turn"] (spCode (K := K) (n + 1)) := ⟨_, _, ok_law_code (k := 7 + 2 * n + 1) D_law_code (c_law_code.mono (by omega)) B_len (c_law_if_code.mono (by omega)) (c_law_loop_code.mono (by omega)) (c_law_try_code.mono (by omega)) (c_law_clean_code.mono (by omega)) (c_law_plain_code.mono (by omega)) (fun vs H Q E h => by obtain ⟨_, _, _, _, _, _, rfl, _⟩ := h; rfl) rd_code, b_law_code, D_law_code.kp, G__law_code⟩
      exact z.mono (by omega)
  have c_law_code : Cal PySem.Challenge.pw_leaps_k17_listed w K mg base (17) "_law_code" ["_law_one", "_law_base", "_law_depth", "_law_turn"] (spCode (K := K) 5) := r_law_code 5
  have c_law_table : Cal PySem.Challenge.pw_leaps_k17_listed w K mg base 1 "_law_table" ["_law_rows"] (spTable (K := K)) := ⟨_, _, ok_law_table (k := 0) D_law_table B_range B_len B_tuple (fun vs H Q E h => by obtain ⟨_, _, rfl, _⟩ := h; rfl) rd_table, b_law_table, D_law_table.kp, G__law_table⟩
  have c_law_coded : Cal PySem.Challenge.pw_leaps_k17_listed w K mg base 18 "_law_coded" ["_law_program_here"] (spCodedL (K := K) 5) := ⟨_, _, ok_law_coded (k := 17) D_law_coded B_tuple (c_law_code.mono (by decide)) (c_law_table.mono (by decide)) (fun vs H Q E h => by obtain ⟨_, _, rfl, _⟩ := h; rfl) rd_law_coded, b_law_coded, D_law_coded.kp, G__law_coded⟩
  have c_law_word : Cal PySem.Challenge.pw_leaps_k17_listed w K mg base 1 "_law_word" ["_law_part_here"] (KL.spWord K) := ⟨_, _, ok_law_word (k := 0) D_law_word B_str (fun vs H Q E h => by obtain ⟨_, _, rfl, _⟩ := h; rfl) KL.rd_law_word, b_law_word, D_law_word.kp, G__law_word⟩
  have c_law_listed : Cal PySem.Challenge.pw_leaps_k17_listed w K mg base 2 "_law_listed" ["_law_code_here"] (KL.spList K) := ⟨_, _, ok_law_listed (k := 1) D_law_listed B_str (c_law_word.mono (by decide)) (fun vs H Q E h => by obtain ⟨_, _, rfl, _⟩ := h; rfl) KL.rd_law_listed, b_law_listed, D_law_listed.kp, G__law_listed⟩
  exact ok_law (k := 18) D_law B_list (c_law_coded.mono (by decide)) (c_law_program.mono (by decide)) (c_law_alike.mono (by decide)) (c_listing.mono (by decide)) (c_law_listed.mono (by decide)) (fun vs H Q E h => by obtain ⟨_, _, rfl, _⟩ := h; rfl) rd_law
end Lr
open PySem PySem.W PySem.Calls PyProof.Rows
set_option maxRecDepth 100000 in
set_option maxHeartbeats 0 in
theorem PySem.Challenge.cw_leaps_k17_listed_holds : PySem.Challenge.rw_leaps_k17_listed.Holds := by
  w_on; o_law
  refine HandSHeadRun.head_any (r := OpenLaw.row PySem.Challenge.rw_leaps_k17_listed) (q := view (OpenLaw.row PySem.Challenge.rw_leaps_k17_listed).prog [26]) (H := Lr.hk) (ob := Lr.ob) (M := 2000) (loose := Lr.loose) (d := HandSHeadRun.topDef (OpenLaw.row PySem.Challenge.rw_leaps_k17_listed).prog 26) (kwd := []) Lr.ob_eq
    (by kernel_rfl) (fun s => by kernel_rfl) Lr.run (by kernel_rfl) (by kernel_rfl) (by kernel_rfl) (by rfl) (by first | assumption | decide +kernel) (by decide +kernel) ⟨rfl, rfl, rfl, rfl, rfl, by decide +kernel⟩ ?hw ?hc
  case hw => w_witness2
  case hc =>
    refine L2.walk_ofE (l := PySem.Challenge.rw_leaps_k17_listed) (n := 63) (k := 19) (x := "_law_script") (CX := L2.CX0) rfl (by decide) (by kernel_rfl) ⟨rfl, by decide, by decide⟩ ?F (fun _ _ _ _ z => z)
    intro w mg fa h Y G hmg0
    obtain ⟨K, KX, c⟩ := Y
    have hmg : mg ("law" : PySem.Str) = some (.ref fa) := by
      have e : (HandSHeadRun.topDef (OpenLaw.row PySem.Challenge.rw_leaps_k17_listed).prog 26).name = ("law" : PySem.Str) := by kernel_rfl
      rw [← e]
      exact hmg0
    obtain ⟨fd, hb, hF⟩ := Lr.facts (w := w) KX G hmg c
    exact ⟨K, fd, Lr.spLaw K, KX, hb, fun H a ns hl _ hS => ⟨a, ns, rfl, hS, hl, fun _ => rfl⟩, hF⟩
