import PyProof.Rows.All
import Wide.All
import OpenK.AllK
import Wide.FinOn
import HandS.ForMost
import HandS.IsInst
import HandS.Wide
import HandS.TupAny
import HandS.Walk
import HandS.Evl
import KE.KStateDown
import HandS.WordsExc
import HandS.Defaults
import HandS.Head0
import HandS.Head1
import HandS.Head2
import HandS.HeadEnd
import HandS.HeadHook1
import HandS.HeadHook2
import PySem.Challenge.RW_leaps_k02_values
set_option Elab.async false
set_option linter.all false
set_option maxRecDepth 100000
set_option maxHeartbeats 4000000
/-! Lb: what every leaps law leans on: callees by name, the growing heap, data at values. -/
namespace Lp
open PySem PySem.Spec PyProof.Rows L2

/-! ### callees -/
/-- a def of the module, by its name, with its promise -/
def Cal (P : Program) (w : World) (K : PySem.W.Frag) (mg : Str → Option Value) (base : Heap) (k : Nat) (x : Str) (ps : List Str) (sp : Sp) : Prop :=
  ∃ f fd, FnOk P w K mg base CX0 k f fd ps sp ∧ Binds K fd ps [] ∧ PySem.W.keepIn K (.ref f) = true ∧ mg x = some (.ref f)
/-- a method of the class at C -/
def CalM (P : Program) (w : World) (K : PySem.W.Frag) (mg : Str → Option Value) (base : Heap) (k : Nat) (C : Addr) (m : Str) (ps : List Str) (sp : Sp) : Prop :=
  ∃ f fd, FnOk P w K mg base CX0 k f fd ps sp ∧ Binds K fd ps [] ∧ Cls K C ∧ Meth K C m f
/-- a class of the module that is made by its own __init__ -/
def CalC (P : Program) (w : World) (K : PySem.W.Frag) (mg : Str → Option Value) (base : Heap) (k : Nat) (x : Str) (C : Addr) (ps : List Str) (sp : Sp) : Prop :=
  ∃ f fd, FnOk P w K mg base CX0 k f fd ps sp ∧ Binds K fd ps [] ∧ Mk K C f ∧ mg x = some (.ref C)
section
variable {P : Program} {w : World} {K : PySem.W.Frag} {mg : Str → Option Value} {base : Heap} {j k : Nat} {x m : Str} {C : Addr} {ps : List Str} {sp sp' : Sp}
theorem Cal.mono (c : Cal P w K mg base j x ps sp) (h : j ≤ k) : Cal P w K mg base k x ps sp :=
  let ⟨f, fd, F, r⟩ := c; ⟨f, fd, F.mono h, r⟩
theorem Cal.imp (c : Cal P w K mg base j x ps sp) (h : ∀ vs H Q E, sp' vs H Q E → sp vs H Q E) : Cal P w K mg base j x ps sp' :=
  let ⟨f, fd, F, r⟩ := c; ⟨f, fd, F.imp h, r⟩
theorem CalM.mono (c : CalM P w K mg base j C m ps sp) (h : j ≤ k) : CalM P w K mg base k C m ps sp :=
  let ⟨f, fd, F, r⟩ := c; ⟨f, fd, F.mono h, r⟩
theorem CalM.imp (c : CalM P w K mg base j C m ps sp) (h : ∀ vs H Q E, sp' vs H Q E → sp vs H Q E) : CalM P w K mg base j C m ps sp' :=
  let ⟨f, fd, F, r⟩ := c; ⟨f, fd, F.imp h, r⟩
theorem CalC.mono (c : CalC P w K mg base j x C ps sp) (h : j ≤ k) : CalC P w K mg base k x C ps sp :=
  let ⟨f, fd, F, r⟩ := c; ⟨f, fd, F.mono h, r⟩
end
section
variable {X : Cx} {k : Nat} {C : Addr} {x m : Str} {ps : List Str} {sp : Sp} {p pos apos : Pos} {e o : Expr} {es : List Expr} {ta : TE} {t : TA}
theorem pc (c : Cal X.prog X.w X.K X.mg X.base k x ps sp) (hr : Room k X.A) (ha : PA X (e :: es) t) (hg : Gl X x := by rfl) (hdb : (x == ("__debug__" : Str)) = false := by decide)
    (he : starEach (e :: es) X.env = (false, eval e X.env) :: starEach es X.env := by rfl) (hpl : (backTo pos (starEach es X.env)).any (·.1) = false := by rfl) : PE X (.Call (.Name x p) (e :: es) [] pos) (tCall sp [] E0 t) := by
  obtain ⟨f, fd, F, b, kp, hm⟩ := c
  exact pe_call F hr hg hm kp b .nil pass0 ha hdb he hpl
theorem pc0 (c : Cal X.prog X.w X.K X.mg X.base k x ps sp) (hr : Room k X.A) (hg : Gl X x := by rfl) (hdb : (x == ("__debug__" : Str)) = false := by decide) : PE X (.Call (.Name x p) [] [] pos) (tCall sp [] E0 tNil) := by
  obtain ⟨f, fd, F, b, kp, hm⟩ := c
  exact pe_call0 F hr hg hm kp b .nil pass0 hdb
theorem pm {pl : Sem Bool} (c : CalM X.prog X.w X.K X.mg X.base k C m ps sp) (hr : Room k X.A) (he : PE X o ta) (ha : PA X (e :: es) t)
    (hst : starEach (e :: es) X.env = (false, eval e X.env) :: starEach es X.env := by rfl) (hpl : (backTo pos (starEach es X.env)).any (·.1) = false := by rfl)
    (ht : eval (.Call (.Attribute o m apos) (e :: es) [] pos) X.env = (do
      let ov ← eval o X.env
      standAt apos.atName
      let (f, first) ← holding [ov] (getMethod ov m pl)
      callWith pos f first (backTo pos (starEach (e :: es) X.env)) (backToKw pos (keywordEach [] X.env))) := by rfl) :
    PE X (.Call (.Attribute o m apos) (e :: es) [] pos) (tMeth C m sp [] E0 ta t) := by
  obtain ⟨f, fd, F, b, cl, hm⟩ := c
  exact pe_meth he cl hm F hr b .nil pass0 ha hst hpl ht
theorem pm0 {pl : Sem Bool} (c : CalM X.prog X.w X.K X.mg X.base k C m ps sp) (hr : Room k X.A) (he : PE X o ta)
    (ht : eval (.Call (.Attribute o m apos) [] [] pos) X.env = (do
      let ov ← eval o X.env
      standAt apos.atName
      let (f, first) ← holding [ov] (getMethod ov m pl)
      callWith pos f first (backTo pos (starEach [] X.env)) (backToKw pos (keywordEach [] X.env))) := by rfl) :
    PE X (.Call (.Attribute o m apos) [] [] pos) (tMeth C m sp [] E0 ta tNil) := by
  obtain ⟨f, fd, F, b, cl, hm⟩ := c
  exact pe_meth0 he cl hm F hr b .nil pass0 ht
theorem pk (c : CalC X.prog X.w X.K X.mg X.base k x C ps sp) (hr : Room (k + 1) X.A) (ha : PA X (e :: es) t) (hg : Gl X x := by rfl) (hdb : (x == ("__debug__" : Str)) = false := by decide)
    (he : starEach (e :: es) X.env = (false, eval e X.env) :: starEach es X.env := by rfl) (hpl : (backTo pos (starEach es X.env)).any (·.1) = false := by rfl) : PE X (.Call (.Name x p) (e :: es) [] pos) (tMake C sp [] E0 t) := by
  obtain ⟨f, fd, F, b, M, hm⟩ := c
  exact pe_make M F hr hg hm b .nil pass0 ha hdb he hpl
theorem pk0 (c : CalC X.prog X.w X.K X.mg X.base k x C ps sp) (hr : Room (k + 1) X.A) (hg : Gl X x := by rfl) (hdb : (x == ("__debug__" : Str)) = false := by decide) : PE X (.Call (.Name x p) [] [] pos) (tMake C sp [] E0 tNil) := by
  obtain ⟨f, fd, F, b, M, hm⟩ := c
  exact pe_make0 M F hr hg hm b .nil pass0 hdb
end

/-! ### short names of readings -/
abbrev rAdI : R2 := rI0 fun i j => .int (i + j)
abbrev rSbI : R2 := rI0 fun i j => .int (i - j)
abbrev rMlI : R2 := rI CMul fun i j => .int (i * j)
abbrev rDvW : R2 := rI CDivW fun i j => .int (i / j)
abbrev rMdI : R2 := rI (fun _ j => 0 < j) fun i j => .int (i % j)
abbrev rLt : R2 := rI0 fun i j => .bl (decide (i < j))
abbrev rLe : R2 := rI0 fun i j => .bl (decide (i ≤ j))
abbrev rGt : R2 := rI0 fun i j => .bl (decide (j < i))
abbrev rGe : R2 := rI0 fun i j => .bl (decide (j ≤ i))
abbrev rIsN : R2 := fun x y H Q => y = .non ∧ Q (.bl (decide (x = .non))) H
abbrev rNtN : R2 := fun x y H Q => y = .non ∧ Q (.bl (!decide (x = .non))) H
abbrev rNeg : V → Hp → VK → Prop := rU fun i => .int (-i)
abbrev rCatS : R2 := fun x y H Q => ∃ i j, x = .str i ∧ y = .str j ∧ i.length + j.length ≤ sizeLine ∧ Q (.str (i ++ j)) H
abbrev rInt1 : List V → Hp → VK → Prop := fun xs H Q => (∃ i, xs = [.int i] ∧ Q (.int i) H) ∨ ∃ k, xs = [.bl k] ∧ Q (.int (if k then 1 else 0)) H
abbrev rLenQ (K : PySem.W.Frag) : List V → Hp → VK → Prop := fun xs H Q => ∃ p ys, xs = [.ref p] ∧ (SqL K H p ys ∨ SqT K H p ys) ∧ Q (.int ys.length) H
abbrev rTupOf (K : PySem.W.Frag) : List V → Hp → VK → Prop := fun xs H Q => ∃ p ys, xs = [.ref p] ∧ ((SqL K H p ys ∧ ∀ l, H l = none → Q (.ref l) (upd H l (.tup ys))) ∨ (SqT K H p ys ∧ Q (.ref p) H))
abbrev rLstOf (K : PySem.W.Frag) : List V → Hp → VK → Prop := fun xs H Q => ∃ p ys, xs = [.ref p] ∧ (SqL K H p ys ∨ SqT K H p ys) ∧ ∀ l, H l = none → Q (.ref l) (upd H l (.lst ys))

/-! ### the heap grows: all but the objects in B stands as it stood -/
def Kp (B : Addr → Prop) (H H' : Hp) : Prop := ∀ a o, H a = some o → ¬ B a → H' a = some o
theorem Kp.refl (B : Addr → Prop) (H : Hp) : Kp B H H := fun _ _ h _ => h
theorem Kp.trans {B : Addr → Prop} {H H1 H2 : Hp} (a : Kp B H H1) (b : Kp B H1 H2) : Kp B H H2 := fun x o h n => b x o (a x o h n) n
theorem Kp.mono {B B' : Addr → Prop} {H H' : Hp} (a : Kp B H H') (h : ∀ x, B x → B' x) : Kp B' H H' := fun x o e n => a x o e fun z => n (h x z)
theorem Kp.same {B : Addr → Prop} {H H' : Hp} (a : Same H H') : Kp B H H' := fun x o e _ => a x o e
theorem Kp.new {B : Addr → Prop} {H : Hp} {p : Addr} {o : HO} (h : H p = none) : Kp B H (upd H p o) := fun x u e _ => by rw [upd_ne (ne_of_none e h)]; exact e
theorem Kp.upd {B : Addr → Prop} {H : Hp} {p : Addr} {o : HO} (h : B p) : Kp B H (upd H p o) := fun x u e n => by
  rw [upd_ne (fun z => n (by rw [z]; exact h))]; exact e
/-- behind a change of what was not there at the start -/
theorem Kp.late {B : Addr → Prop} {H H1 : Hp} {p : Addr} {o : HO} (a : Kp B H H1) (h : H p = none) : Kp B H (L2.upd H1 p o) := fun x u e n => by
  rw [upd_ne (ne_of_none e h)]; exact a x u e n
theorem Kp.at {B : Addr → Prop} {H H' : Hp} {a : Addr} {o : HO} (k : Kp B H H') (h : H a = some o) (n : ¬ B a) : H' a = some o := k a o h n
/-- a place that is free behind was free ahead (unless in B) -/
theorem Kp.free {B : Addr → Prop} {H H' : Hp} (k : Kp B H H') {l : Addr} (h : H' l = none) (n : ¬ B l) : H l = none := by
  cases q : H l with
  | none => rfl
  | some o => rw [k l o q n] at h; cases h
/-- only what may change stands in B -/
def NoTup (B : Addr → Prop) (H : Hp) : Prop := ∀ a, B a → ∃ o, H a = some o ∧ (∀ xs, o ≠ .tup xs) ∧ ∀ ob u, o ≠ .frz ob u
theorem Kp.sqT {B : Addr → Prop} {K : PySem.W.Frag} {H H' : Hp} {a : Addr} {xs : List V} (k : Kp B H H') (nt : NoTup B H) (h : SqT K H a xs) : SqT K H' a xs := by
  rcases h with (h | ⟨o, h⟩) | h
  · refine .inl (.inl (k _ _ h fun z => ?_))
    obtain ⟨u, e, n, _⟩ := nt a z
    rw [h] at e; cases e; exact n _ rfl
  · refine .inl (.inr ⟨o, k _ _ h fun z => ?_⟩)
    obtain ⟨u, e, _, n⟩ := nt a z
    rw [h] at e; cases e; exact n _ _ rfl
  · exact .inr h
theorem Kp.sqL {B : Addr → Prop} {K : PySem.W.Frag} {H H' : Hp} {a : Addr} {xs : List V} (k : Kp B H H') (n : ¬ B a) (h : SqL K H a xs) : SqL K H' a xs := by
  rcases h with (h | ⟨o, h⟩) | h
  · exact .inl (.inl (k _ _ h n))
  · exact .inl (.inr ⟨o, k _ _ h n⟩)
  · exact .inr h

/-! ### decided tests -/
theorem ifT {A B : Prop} {c : Bool} (e : c = true) (h : A) : if c = true then A else B := by rw [if_pos e]; exact h
theorem ifF {A B : Prop} {c : Bool} (e : c = false) (h : B) : if c = true then A else B := by rw [if_neg (by rw [e]; decide)]; exact h
theorem ifB {A B : Prop} {c : Bool} (h1 : c = true → A) (h2 : c = false → B) : if c = true then A else B := by
  cases e : c with
  | true => exact ifT rfl (h1 e)
  | false => exact ifF rfl (h2 e)
theorem dT {p : Prop} [Decidable p] (h : p) : decide p = true := decide_eq_true h
theorem dF {p : Prop} [Decidable p] (h : ¬ p) : decide p = false := decide_eq_false h
end Lp

/-! L1: take, kinds, above, under. -/
namespace Lp
open PySem PySem.Spec PyProof.Rows L2
def t_law_take (K : PySem.W.Frag) : TS :=
  tSeq (tIfS (tTest (tOp (rEqD K) (tVar 0) (tLst (tNil)))) (tRet (tC (.int 0))) (tNext)) (tSeq (tAsg (tOp (rIxL K) (tVar 0) (tC (.int 0))) (gName 2)) (tSeq (tAsg (tOp rDvW (tVar 2) (tVar 1)) (gSub (tVar 0) (tC (.int 0)) rSetL)) (tSeq (tIfS (tOr (tTest (tOp rEq (tOp (rIxL K) (tVar 0) (tC (.int 0))) (tC (.int 0)))) (tTest (tOp rEq (tOp (rIxL K) (tVar 0) (tC (.int 0))) (tUn rNeg (tC (.int 1)))))) (tDrop (tBM K "list" rPopAt (tVar 0) (tCons (tC (.int 0)) (tNil)))) (tNext)) (tRet (tOp rMdI (tVar 2) (tVar 1))))))

def t_law_kinds (K : PySem.W.Frag) (sp_law_take : Sp) : TS :=
  tSeq (tAsg (tLst (tNil)) (gName 2)) (tSeq (tFor (iRng1 (tCons (tOp rAdI (tC (.int 1)) (tCall sp_law_take [] E0 (tCons (tVar 0) (tCons (tVar 1) (tNil))))) (tNil))) (gName 3) (tSeq (tAsg (tCall sp_law_take [] E0 (tCons (tVar 0) (tCons (tOp rAdI (tVar 3) (tC (.int 1))) (tNil)))) (gName 4)) (tDrop (tBM K "list" rAppend (tVar 2) (tCons (tOp (rIxL K) (tLst (tCons (tC .non) (tCons (tOp rSbI (tVar 4) (tC (.int 1))) (tNil)))) (tCB rInt1 (tCons (tOp rGt (tVar 4) (tC (.int 0))) (tNil)))) (tNil)))))) (tRet (tCB (rTupOf K) (tCons (tVar 2) (tNil)))))

def t_law_above (K : PySem.W.Frag) : TS :=
  tSeq (tAsg (tLst (tCons (tVar 1) (tNil))) (gName 2)) (tSeq (tFor (iRng1 (tCons (tCB (rLenQ K) (tCons (tVar 0) (tNil))) (tNil))) (gName 3) (tSeq (tAsg (tOp (rIxT K) (tVar 0) (tOp (rIxL K) (tVar 2) (tUn rNeg (tC (.int 1))))) (gName 4)) (tIfS (tTest (tOp rNtN (tVar 4) (tC .non))) (tDrop (tBM K "list" rAppend (tVar 2) (tCons (tVar 4) (tNil)))) (tNext)))) (tRet (tVar 2)))

def t_under (K : PySem.W.Frag) : TS :=
  tSeq (tWhile (tAnd (tTest (tOp rNtN (tVar 1) (tC .non))) (tTest (tOp rNe (tVar 1) (tVar 2)))) (tAsg (tOp (rIxT K) (tVar 0) (tVar 1)) (gName 1))) (tRet (tOp rNtN (tVar 1) (tC .non)))

theorem sz_lt1 {n : Nat} (h : n < 1000000) : n < sizeLine := Nat.lt_of_lt_of_le h (by decide)
theorem sz_le1 {n : Nat} (h : n ≤ 1000000) : n ≤ sizeLine := Nat.le_trans h (by decide)
abbrev N_law_take : List Str := ["_law_box", "_law_many", "_law_number"]

theorem dp_ints {K : PySem.W.Frag} {H : Hp} : ∀ l : List Int, DpAll K H (l.map V.int) (l.map PyData.int)
  | [] => .nil
  | i :: r => .cons (.int i) (dp_ints r)
theorem lay_ints : ∀ l : List Int, PyData.canLayAll0 (l.map PyData.int) = true
  | [] => rfl
  | i :: r => by simp [PyData.canLayAll0, PyData.canLay0, lay_ints r]
theorem dep_ints : ∀ l : List Int, PyData.depthAll (l.map PyData.int) ≤ 1
  | [] => by simp [PyData.depthAll]
  | i :: r => by have := dep_ints r; simp [PyData.depthAll, PyData.depth]; omega
theorem shaped_ints (l : List Int) : SeqAt.shaped (.list (l.map PyData.int)) = true := by
  have := dep_ints l
  simp [SeqAt.shaped, PyData.canLay0, lay_ints, PyData.depth]
  omega
theorem eqv_ints_nil (l : List Int) : PyData.eqv (.list (l.map PyData.int)) (.list []) = l.isEmpty := by
  cases l <;> simp [PyData.eqv, PyData.eqvAll]

theorem ixN_n {n j : Nat} (hj : j < n) : ixN n (j : Int) = some j := by
  unfold ixN
  rw [if_pos (by omega), if_pos (by omega)]
  simp
theorem seq0 {n : Nat} : seqIndex? 0 (n + 1) = some 0 := by
  unfold seqIndex?
  simp
/-- the box: a list of ints at b -/
def spTake : Sp := fun vs H Q _ => ∃ (b : Addr) (l : List Int) (m : Int), vs = [.ref b, .int m] ∧ H b = some (.lst (l.map V.int)) ∧ 0 < m ∧ m ≤ 2000000 ∧
  ∀ (r : Int) (l' : List Int) (H' : Hp), 0 ≤ r → r < m → H' b = some (.lst (l'.map V.int)) → Kp (fun x => x = b) H H' → Q (.int r) H'

theorem rd_take {K : PySem.W.Frag} (vs : List V) (H : Hp) (Q : VK) (E : XK) (h : spTake vs H Q E) : t_law_take K { nx := fun _ H' => Q .non H', rt := Q } (start N_law_take vs) H := by
  obtain ⟨b, l, m, rfl, hb, hm, hm2, k⟩ := h
  refine ⟨_, rfl, (by show (0 : Nat) ≤ sizeLine; decide), fun p hp => ?_⟩
  have hb1 : L2.upd H p (.lst []) b = some (.lst (l.map V.int)) := by rw [upd_ne (ne_of_none hb hp)]; exact hb
  refine ⟨_, _, .lst (SqL.of hb1) (dp_ints l), .lst (SqL.of upd_same) .nil, shaped_ints l, rfl, _, rfl, ?_⟩
  rw [eqv_ints_nil]
  refine ifB (fun e => ?_) (fun e => ?_)
  · exact k 0 l _ (by omega) hm hb1 (Kp.new hp)
  · cases l with
    | nil => cases e
    | cons x r =>
      refine ⟨_, rfl, b, _, 0, .int x, rfl, rfl, SqL.of hb1, atI_nat (j := 0) rfl, ?_⟩
      refine ⟨_, rfl, _, rfl, x, m, rfl, rfl, wide_div (b := 30) hm (by omega) (by decide) (by decide), ?_⟩
      refine ⟨_, rfl, b, _, 0, 0, rfl, rfl, hb1, ixN_n (j := 0) (Nat.succ_pos _), ?_⟩
      have hb2 : L2.upd (L2.upd H p (.lst [])) b (.lst ((V.int (x / m)) :: r.map V.int)) b = some (.lst ((V.int (x / m)) :: r.map V.int)) := upd_same
      have kp : Kp (fun y => y = b) H (L2.upd (L2.upd H p (.lst [])) b (.lst ((V.int (x / m)) :: r.map V.int))) := (Kp.new hp).trans (Kp.upd rfl)
      have fin : ∀ H', ((∃ l' : List Int, H' b = some (.lst (l'.map V.int))) ∧ Kp (fun y => y = b) H H') → (tRet (tOp rMdI (tVar 2) (tVar 1))) { nx := fun _ H' => Q .non H', rt := Q } [some (.ref b), some (.int m), some (.int x)] H' := by
        intro H' ⟨⟨l', e⟩, kp'⟩
        exact ⟨_, rfl, _, rfl, x, m, rfl, rfl, hm, k _ l' H' (Int.emod_nonneg _ (by omega)) (Int.emod_lt_of_pos _ hm) e kp'⟩
      have pop : (tSeq (tDrop (tBM K "list" rPopAt (tVar 0) (tCons (tC (.int 0)) tNil))) (tRet (tOp rMdI (tVar 2) (tVar 1)))) { nx := fun _ H' => Q .non H', rt := Q } [some (.ref b), some (.int m), some (.int x)] (L2.upd (L2.upd H p (.lst [])) b (.lst ((V.int (x / m)) :: r.map V.int))) := by
        refine ⟨_, rfl, .inl ⟨rfl, _, SqL.of hb2⟩, b, _, 0, 0, _, rfl, rfl, hb2, by decide, by decide, seq0, rfl, ?_⟩
        exact fin _ ⟨⟨r, upd_same⟩, kp.trans (Kp.upd rfl)⟩
      have go : (tRet (tOp rMdI (tVar 2) (tVar 1))) { nx := fun _ H' => Q .non H', rt := Q } [some (.ref b), some (.int m), some (.int x)] (L2.upd (L2.upd H p (.lst [])) b (.lst ((V.int (x / m)) :: r.map V.int))) := fin _ ⟨⟨(x / m) :: r, hb2⟩, kp⟩
      refine ⟨_, rfl, b, _, 0, _, rfl, rfl, SqL.of hb2, atI_nat (j := 0) rfl, rfl, _, rfl, ifB (fun _ => pop) fun _ => ?_⟩
      refine ⟨_, rfl, b, _, 0, _, rfl, rfl, SqL.of hb2, atI_nat (j := 0) rfl, _, rfl, rfl, _, rfl, ifB (fun _ => pop) fun _ => go⟩

/-! ### heaps that grow alone -/
theorem _root_.L2.Same.sqT {K : PySem.W.Frag} {H H' : Hp} {a : Addr} {xs : List V} (e : Same H H') (h : SqT K H a xs) : SqT K H' a xs := by
  rcases h with (h | ⟨o, h⟩) | h
  · exact .inl (.inl (e _ _ h))
  · exact .inl (.inr ⟨o, e _ _ h⟩)
  · exact .inr h
/-! ### kinds -/
def kindV : Option Nat → V
  | none => .non
  | some j => .int (j : Int)
def WfK (ks : List (Option Nat)) : Prop := ∀ (i j : Nat), ks[i]? = some (some j) → j < i
abbrev N_law_kinds : List Str := ["_law_box", "_law_most", "_law_kinds_here", "_law_k", "_law_above_here"]
def spKinds : Sp := fun vs H Q _ => ∃ (b : Addr) (l : List Int) (m : Int), vs = [.ref b, .int m] ∧ H b = some (.lst (l.map V.int)) ∧ 0 < m ∧ m ≤ 1000 ∧
  ∀ (a : Addr) (ks : List (Option Nat)) (l' : List Int) (H' : Hp), WfK ks → 0 < ks.length → (ks.length : Int) ≤ m → H' a = some (.tup (ks.map kindV)) → H a = none → H' b = some (.lst (l'.map V.int)) → Kp (fun x => x = b) H H' → Q (.ref a) H'
theorem WfK.snoc {ks : List (Option Nat)} (w : WfK ks) {o : Option Nat} (h : ∀ j, o = some j → j < ks.length) : WfK (ks ++ [o]) := by
  intro i j e
  by_cases hi : i < ks.length
  · rw [List.getElem?_append_left hi] at e
    exact w i j e
  · rw [List.getElem?_append_right (by omega)] at e
    have hi2 : i = ks.length := by
      have := (List.getElem?_eq_some_iff.mp e).1
      simp at this
      omega
    subst hi2
    simp at e
    exact h j e
theorem rd_kinds {K : PySem.W.Frag} (vs : List V) (H : Hp) (Q : VK) (E : XK) (h : spKinds vs H Q E) : t_law_kinds K spTake { nx := fun _ H' => Q .non H', rt := Q } (start N_law_kinds vs) H := by
  obtain ⟨b, l, m, rfl, hb, hm, hm2, k⟩ := h
  refine ⟨(by show (0 : Nat) ≤ sizeLine; decide), fun p hp => ?_⟩
  have hb1 : L2.upd H p (.lst []) b = some (.lst (l.map V.int)) := by rw [upd_ne (ne_of_none hb hp)]; exact hb
  refine ⟨_, rfl, _, rfl, b, l, m, rfl, hb1, hm, by omega, fun r l1 H1 h0 h1 hb2 kp1 => ?_⟩
  have kpH : Kp (fun x => x = b) H H1 := (Kp.new hp).trans kp1
  have pb : p ≠ b := fun e => by rw [e, hb] at hp; cases hp
  refine ⟨_, _, rfl, rfl, _, rfl, by omega, by omega, for_range (lo := 0) (n := (1 + r).toNat) (fun i σ H2 => ∃ (ks : List (Option Nat)) (l2 : List Int) (v3 v4 : Option V), σ = [some (.ref b), some (.int m), some (.ref p), v3, v4] ∧
      ks.length = i ∧ WfK ks ∧ H2 p = some (.lst (ks.map kindV)) ∧ H2 b = some (.lst (l2.map V.int)) ∧ Kp (fun x => x = b) H H2)
    ⟨[], l1, none, none, rfl, rfl, (by intro i j e; simp at e), kp1 p _ upd_same pb, hb2, kpH⟩ ?_ ?_⟩
  · rintro i σ H2 hi ⟨ks, l2, v3, v4, rfl, hl, wf, hp2, hb3, kp2⟩
    refine ⟨_, rfl, _, rfl, _, _, rfl, rfl, b, l2, _, rfl, hb3, by omega, by omega, fun x l3 H3 x0 x1 hb4 kp3 => ?_⟩
    have hp3 := kp3 p _ hp2 pb
    refine ⟨_, rfl, .inl ⟨rfl, _, SqL.of hp3⟩, _, rfl, _, _, rfl, rfl, (by show (2 : Nat) ≤ sizeLine; decide), fun q hq => ?_⟩
    have pq : p ≠ q := ne_of_none hp3 hq
    have bq : b ≠ q := ne_of_none hb4 hq
    have fin : ∀ (o : Option Nat), (∀ j, o = some j → j < ks.length) → (0 : Nat) < 1 → ks.length < sizeLine ∧ (∃ (ks' : List (Option Nat)) (l2 : List Int) (v3 v4 : Option V), [some (V.ref b), some (.int m), some (.ref p), some (.int (0 + (i : Int))), some (.int x)] = [some (.ref b), some (.int m), some (.ref p), v3, v4] ∧
      ks'.length = i + 1 ∧ WfK ks' ∧ (L2.upd (L2.upd H3 q (.lst [.non, .int (x - 1)])) p (.lst (ks.map kindV ++ [kindV o]))) p = some (.lst (ks'.map kindV)) ∧ (L2.upd (L2.upd H3 q (.lst [.non, .int (x - 1)])) p (.lst (ks.map kindV ++ [kindV o]))) b = some (.lst (l2.map V.int)) ∧ Kp (fun x => x = b) H (L2.upd (L2.upd H3 q (.lst [.non, .int (x - 1)])) p (.lst (ks.map kindV ++ [kindV o])))) := by
      intro o ho _
      refine ⟨sz_lt1 (by omega), ks ++ [o], l3, _, _, rfl, by simp; omega, wf.snoc ho, by rw [upd_same, List.map_append]; rfl, by rw [upd_ne pb.symm, upd_ne bq]; exact hb4, ?_⟩
      exact ((kp2.trans kp3).trans (Kp.new hq)).late hp
    refine ⟨_, rfl, _, _, rfl, rfl, .inr ⟨_, rfl, ?_⟩⟩
    by_cases hx : 0 < x
    · have e1 : (if decide ((0 : Int) < x) = true then (1 : Int) else 0) = 1 := by rw [if_pos (decide_eq_true hx)]
      rw [e1]
      obtain ⟨z1, z2⟩ := fin (some (x - 1).toNat) (fun j e => by cases e; omega) (by decide)
      have e2 : V.int (x - 1) = kindV (some (x - 1).toNat) := by show V.int (x - 1) = V.int ((x - 1).toNat : Int); rw [Int.toNat_of_nonneg (by omega)]
      refine ⟨q, _, 1, .int (x - 1), rfl, rfl, SqL.of upd_same, atI_nat (j := 1) rfl, p, ks.map kindV, _, rfl, rfl, by rw [upd_ne pq]; exact hp3, by rw [List.length_map]; exact z1, ?_⟩
      rw [← e2] at z2
      exact z2
    · have e1 : (if decide ((0 : Int) < x) = true then (1 : Int) else 0) = 0 := by rw [if_neg (by rw [decide_eq_false hx]; decide)]
      rw [e1]
      obtain ⟨z1, z2⟩ := fin none (fun j e => by cases e) (by decide)
      exact ⟨q, _, 0, .non, rfl, rfl, SqL.of upd_same, atI_nat (j := 0) rfl, p, ks.map kindV, _, rfl, rfl, by rw [upd_ne pq]; exact hp3, by rw [List.length_map]; exact z1, z2⟩
  · rintro σ H2 ⟨ks, l2, v3, v4, rfl, hl, wf, hp2, hb3, kp2⟩
    refine ⟨_, rfl, p, _, rfl, .inl ⟨SqL.of hp2, fun q hq => ?_⟩⟩
    have bq : b ≠ q := ne_of_none hb3 hq
    exact k q ks l2 _ wf (by omega) (by omega) upd_same (kp2.free hq fun e => bq e.symm) (by rw [upd_ne bq]; exact hb3) (kp2.trans (Kp.new hq))
/-! ### above, under -/
/-- the kinds that one comes to by going up -/
def chain (ks : List (Option Nat)) : Nat → Nat → List Nat
  | 0, _ => []
  | f + 1, k => k :: (match ks[k]? with
    | some (some j) => chain ks f j
    | _ => [])
theorem chain_fuel {ks : List (Option Nat)} (w : WfK ks) : ∀ (f g k : Nat), k < f → k < g → chain ks f k = chain ks g k
  | 0, _, _, h, _ => absurd h (Nat.not_lt_zero _)
  | _, 0, _, _, h => absurd h (Nat.not_lt_zero _)
  | f + 1, g + 1, k, hf, hg => by
    unfold chain
    cases e : ks[k]? with
    | none => rfl
    | some o =>
      cases o with
      | none => rfl
      | some j =>
        have := w k j e
        show k :: chain ks f j = k :: chain ks g j
        rw [chain_fuel w f g j (by omega) (by omega)]
/-- kind k is other, or lies under it -/
def under (ks : List (Option Nat)) (k o : Nat) : Bool := decide (o ∈ chain ks (k + 1) k)
theorem under_eq {ks : List (Option Nat)} (w : WfK ks) (k o : Nat) : under ks k o = (decide (k = o) || match ks[k]? with
    | some (some j) => under ks j o
    | _ => false) := by
  unfold under
  conv => lhs; unfold chain
  cases e : ks[k]? with
  | none => simp [eq_comm]
  | some q =>
    cases q with
    | none => simp [eq_comm]
    | some j =>
      have := w k j e
      show decide (o ∈ k :: chain ks k j) = (decide (k = o) || decide (o ∈ chain ks (j + 1) j))
      rw [chain_fuel w k (j + 1) j (by omega) (by omega)]
      simp [eq_comm]
/-- under(kinds, kind, other): kinds at a -/
def spUnder (K : PySem.W.Frag) : Sp := fun vs H Q _ => ∃ (a : Addr) (ks : List (Option Nat)) (k o : Nat), vs = [.ref a, .int (k : Int), .int (o : Int)] ∧ SqT K H a (ks.map kindV) ∧ WfK ks ∧ k < ks.length ∧ Q (.bl (under ks k o)) H
abbrev N_under : List Str := ["kinds", "kind", "other"]
theorem rd_under {K : PySem.W.Frag} (vs : List V) (H : Hp) (Q : VK) (E : XK) (h : spUnder K vs H Q E) : t_under K { nx := fun _ H' => Q .non H', rt := Q } (start N_under vs) H := by
  obtain ⟨a, ks, k, o, rfl, hS, wf, hk, q⟩ := h
  refine ⟨fun m σ H' => H' = H ∧ ∃ c : Option Nat, σ = [some (.ref a), some (kindV c), some (.int (o : Int))] ∧ (∀ j, c = some j → j < ks.length ∧ under ks j o = under ks k o) ∧ (c = none → under ks k o = false) ∧ m = (match c with
      | some j => j + 1
      | none => 0), ⟨_, rfl, some k, rfl, (fun j e => by cases e; exact ⟨hk, rfl⟩), (fun e => by cases e), rfl⟩, ?_⟩
  rintro m σ H' ⟨rfl, c, rfl, h1, h2, rfl⟩
  refine ⟨_, rfl, rfl, _, rfl, ?_⟩
  cases c with
  | none =>
    refine ifF rfl (ifF rfl ?_)
    refine ⟨_, rfl, rfl, ?_⟩
    show Q (.bl (!decide (V.non = V.non))) H'
    rw [dT rfl, ← show under ks k o = !true from h2 rfl]
    exact q
  | some j =>
    obtain ⟨hj, ej⟩ := h1 j rfl
    refine ifT rfl ⟨_, rfl, _, rfl, rfl, _, rfl, ?_⟩
    refine ifB (fun e => ?_) (fun e => ?_)
    · have ne : j ≠ o := fun z => by
        rw [z] at e
        simp [kindV] at e
      cases e2 : ks[j]? with
      | none => exact absurd (List.getElem?_eq_none_iff.mp e2) (by omega)
      | some d =>
        refine ⟨fun σ' H2 => ∃ m', m' < j + 1 ∧ (H2 = H' ∧ ∃ c : Option Nat, σ' = [some (.ref a), some (kindV c), some (.int (o : Int))] ∧ (∀ j, c = some j → j < ks.length ∧ under ks j o = under ks k o) ∧ (c = none → under ks k o = false) ∧ m' = (match c with
          | some j => j + 1
          | none => 0)), fun _ _ z => z, ?_⟩
        have eu := under_eq wf j o
        rw [ej, e2, decide_eq_false ne, Bool.false_or] at eu
        refine ⟨_, rfl, _, rfl, a, _, _, kindV d, rfl, rfl, hS, atI_nat (j := j) (by rw [List.getElem?_map, e2]; rfl), ?_⟩
        cases d with
        | none => exact ⟨0, by omega, rfl, none, rfl, (fun _ z => by cases z), (fun _ => eu), rfl⟩
        | some d =>
          have := wf j d e2
          exact ⟨d + 1, by omega, rfl, some d, rfl, (fun _ z => by cases z; exact ⟨by omega, eu.symm⟩), (fun z => by cases z), rfl⟩
    · have eo : j = o := by
        simp [kindV] at e
        omega
      subst eo
      have eu := under_eq wf j j
      rw [ej, dT rfl, Bool.true_or] at eu
      refine ⟨_, rfl, rfl, ?_⟩
      show Q (.bl (!decide (kindV (some j) = V.non))) H'
      rw [dF (by intro z; cases z)]
      rw [eu] at q
      exact q
/-- _law_above(kinds, kind) -/
def spAbove (K : PySem.W.Frag) : Sp := fun vs H Q _ => ∃ (a : Addr) (ks : List (Option Nat)) (k : Nat), vs = [.ref a, .int (k : Int)] ∧ SqT K H a (ks.map kindV) ∧ WfK ks ∧ k < ks.length ∧ ks.length ≤ 1000 ∧
  ∀ (r : Addr) (row : List Nat) (H' : Hp), (∀ o, o ∈ row ↔ under ks k o = true) → H r = none → H' r = some (.lst (row.map fun n : Nat => V.int (n : Int))) → Same H H' → Q (.ref r) H'
abbrev N_law_above : List Str := ["_law_kinds_here", "_law_kind", "_law_row", "_law_k", "_law_last"]
theorem rd_above {K : PySem.W.Frag} (vs : List V) (H : Hp) (Q : VK) (E : XK) (h : spAbove K vs H Q E) : t_law_above K { nx := fun _ H' => Q .non H', rt := Q } (start N_law_above vs) H := by
  obtain ⟨a, ks, k, rfl, hS, wf, hk, hz, q⟩ := h
  refine ⟨_, rfl, (by show (1 : Nat) ≤ sizeLine; decide), fun p hp => ?_⟩
  have s0 : ∀ {o : HO}, Same H (L2.upd H p o) := fun b u e => by rw [upd_ne (ne_of_none e hp)]; exact e
  refine ⟨_, rfl, a, _, rfl, .inr (s0.sqT hS), _, rfl, by omega, by rw [List.length_map]; omega, ?_⟩
  rw [List.length_map, Int.toNat_natCast]
  refine for_range (lo := 0) (n := ks.length) (fun i σ H2 => ∃ (row : List Nat) (c : Nat) (v3 v4 : Option V), σ = [some (.ref a), some (.int (k : Int)), some (.ref p), v3, v4] ∧
      H2 p = some (.lst ((row ++ [c]).map fun n : Nat => V.int (n : Int))) ∧ Same H H2 ∧ c < ks.length ∧ row.length ≤ i ∧ (∀ o, under ks k o = true ↔ (o ∈ row ∨ under ks c o = true)) ∧ (ks[c]? = some none ∨ c + i < ks.length))
    ⟨[], k, none, none, rfl, upd_same, s0, hk, Nat.le_refl _, by simp, .inr (by omega)⟩ ?_ ?_
  · rintro i σ H2 hi ⟨row, c, v3, v4, rfl, hp2, s2, hc, hl, hu, ht⟩
    have hp2' : H2 p = some (.lst (row.map (fun n : Nat => V.int (n : Int)) ++ [V.int (c : Int)])) := by rw [hp2, List.map_append]; rfl
    cases e : ks[c]? with
    | none => exact absurd (List.getElem?_eq_none_iff.mp e) (by omega)
    | some d =>
      refine ⟨_, rfl, _, rfl, _, rfl, p, _, -1, .int (c : Int), rfl, rfl, SqL.of hp2', atI_last _ _, a, _, _, kindV d, rfl, rfl, s2.sqT hS, atI_nat (j := c) (by rw [List.getElem?_map, e]; rfl), ?_⟩
      refine ⟨_, rfl, rfl, _, rfl, ?_⟩
      have eu := fun o => under_eq wf c o
      cases d with
      | none =>
        refine ifF rfl ?_
        exact ⟨row, c, _, _, rfl, hp2, s2, hc, by omega, hu, .inl e⟩
      | some d =>
        have hd := wf c d e
        refine ifT rfl ⟨_, rfl, .inl ⟨rfl, _, SqL.of hp2⟩, _, rfl, p, _, _, rfl, rfl, hp2, sz_lt1 (by simp; omega), ?_⟩
        refine ⟨row ++ [c], d, _, _, rfl, by rw [upd_same]; simp [kindV], fun b u z => by rw [upd_ne (ne_of_none z hp)]; exact s2 b u z, by omega, by simp; omega, fun o => ?_, ?_⟩
        · have e1 := eu o
          rw [e] at e1
          rw [hu o, e1]
          simp only [Bool.or_eq_true, decide_eq_true_eq, List.mem_append, List.mem_singleton]
          constructor
          · rintro (z | z | z)
            · exact .inl (.inl z)
            · exact .inl (.inr z.symm)
            · exact .inr z
          · rintro ((z | z) | z)
            · exact .inl z
            · exact .inr (.inl z.symm)
            · exact .inr (.inr z)
        · rcases ht with ht | ht
          · rw [e] at ht; cases ht
          · exact .inr (by omega)
  · rintro σ H2 ⟨row, c, v3, v4, rfl, hp2, s2, hc, hl, hu, ht⟩
    have hroot : ks[c]? = some none := by
      rcases ht with ht | ht
      · exact ht
      · omega
    refine ⟨_, rfl, q p (row ++ [c]) H2 (fun o => ?_) hp hp2 s2⟩
    have eu := under_eq wf c o
    rw [hroot] at eu
    rw [hu o, eu]
    simp only [Bool.or_false, decide_eq_true_eq, List.mem_append, List.mem_singleton, eq_comm (a := o)]
end Lp

/-! Ld: data that is tuples throughout, and stays; expressions. -/
namespace Lp
open PySem PySem.Spec PyProof.Rows L2

/-! ### what stays by itself: tuples, and what is locked -/
structure Tk (H H' : Hp) : Prop where
  tup : ∀ a xs, H a = some (.tup xs) → H' a = some (.tup xs)
  frz : ∀ a o u, H a = some (.frz o u) → H' a = some (.frz o u)
theorem Tk.refl (H : Hp) : Tk H H := ⟨fun _ _ h => h, fun _ _ _ h => h⟩
theorem Tk.trans {H H1 H2 : Hp} (a : Tk H H1) (b : Tk H1 H2) : Tk H H2 := ⟨fun x xs h => b.tup x xs (a.tup x xs h), fun x o u h => b.frz x o u (a.frz x o u h)⟩
theorem Tk.same {H H' : Hp} (s : Same H H') : Tk H H' := ⟨fun a _ h => s a _ h, fun a _ _ h => s a _ h⟩
theorem Tk.new {H : Hp} {p : Addr} {o : HO} (h : H p = none) : Tk H (upd H p o) := ⟨fun a xs e => by rw [upd_ne (ne_of_none e h)]; exact e, fun a o u e => by rw [upd_ne (ne_of_none e h)]; exact e⟩
theorem Tk.lst {H : Hp} {p : Addr} {xs : List V} {o : HO} (h : H p = some (.lst xs)) : Tk H (upd H p o) :=
  ⟨fun a ys e => by rw [upd_ne (ne_of e h (by intro z; cases z))]; exact e, fun a o u e => by rw [upd_ne (ne_of e h (by intro z; cases z))]; exact e⟩
theorem Tk.ins {H : Hp} {p C dx : Addr} {fs : List (Str × V)} {o : HO} (h : H p = some (.ins C dx fs)) : Tk H (upd H p o) :=
  ⟨fun a ys e => by rw [upd_ne (ne_of e h (by intro z; cases z))]; exact e, fun a o u e => by rw [upd_ne (ne_of e h (by intro z; cases z))]; exact e⟩
/-- of a change of listed things that are lists or instances -/
theorem Kp.tk {B : Addr → Prop} {H H' : Hp} (k : Kp B H H') (nt : NoTup B H) : Tk H H' :=
  ⟨fun a xs e => k a _ e fun z => by obtain ⟨u, e2, n, _⟩ := nt a z; rw [e] at e2; cases e2; exact n _ rfl, fun a o u e => k a _ e fun z => by obtain ⟨v, e2, _, n⟩ := nt a z; rw [e] at e2; cases e2; exact n _ _ rfl⟩
theorem noTup1 {H : Hp} {b : Addr} {xs : List V} (h : H b = some (.lst xs)) : NoTup (fun x => x = b) H := fun a e => by
  cases (show a = b from e)
  exact ⟨.lst xs, h, (fun _ z => by cases z), (fun _ _ z => by cases z)⟩
theorem Kp.tk1 {H H' : Hp} {b : Addr} {xs : List V} (k : Kp (fun x => x = b) H H') (h : H b = some (.lst xs)) : Tk H H' := k.tk (noTup1 h)
theorem Tk.sqT {K : PySem.W.Frag} {H H' : Hp} {a : Addr} {xs : List V} (k : Tk H H') (h : SqT K H a xs) : SqT K H' a xs := by
  rcases h with (h | ⟨o, h⟩) | h
  · exact .inl (.inl (k.tup _ _ h))
  · exact .inl (.inr ⟨o, k.frz _ _ _ h⟩)
  · exact .inr h

/-! ### data of tuples -/
mutual
inductive Tp (K : PySem.W.Frag) (H : Hp) : V → PyData → Prop
  | non : Tp K H .non .none
  | bl (b : Bool) : Tp K H (.bl b) (.bool b)
  | int (i : Int) : Tp K H (.int i) (.int i)
  | str (x : Str) : Tp K H (.str x) (.str x)
  | tup {a : Addr} {xs : List V} {ds : List PyData} : SqT K H a xs → TpAll K H xs ds → Tp K H (.ref a) (.tuple ds)
inductive TpAll (K : PySem.W.Frag) (H : Hp) : List V → List PyData → Prop
  | nil : TpAll K H [] []
  | cons {v : V} {vs : List V} {d : PyData} {ds : List PyData} : Tp K H v d → TpAll K H vs ds → TpAll K H (v :: vs) (d :: ds)
end
section
variable {K : PySem.W.Frag} {H H' : Hp}
mutual
theorem Tp.tk (k : Tk H H') : ∀ (d : PyData) (v : V), Tp K H v d → Tp K H' v d
  | .none, _, h => by cases h; exact .non
  | .bool _, _, h => by cases h; exact .bl _
  | .int _, _, h => by cases h; exact .int _
  | .str _, _, h => by cases h; exact .str _
  | .tuple ds, _, h => by
    cases h with
    | tup hs ha => exact .tup (k.sqT hs) (TpAll.tk k ds _ ha)
  | .list _, _, h => by cases h
  | .dict _, _, h => by cases h
theorem TpAll.tk (k : Tk H H') : ∀ (ds : List PyData) (vs : List V), TpAll K H vs ds → TpAll K H' vs ds
  | [], _, h => by cases h; exact .nil
  | d :: ds, _, h => by
    cases h with
    | cons h1 h2 => exact .cons (Tp.tk k d _ h1) (TpAll.tk k ds _ h2)
end
mutual
theorem Tp.dp : ∀ (d : PyData) (v : V), Tp K H v d → Dp K H v d
  | .none, _, h => by cases h; exact .non
  | .bool _, _, h => by cases h; exact .bl _
  | .int _, _, h => by cases h; exact .int _
  | .str _, _, h => by cases h; exact .str _
  | .tuple ds, _, h => by
    cases h with
    | tup hs ha => exact .tup hs (TpAll.dp ds _ ha)
  | .list _, _, h => by cases h
  | .dict _, _, h => by cases h
theorem TpAll.dp : ∀ (ds : List PyData) (vs : List V), TpAll K H vs ds → DpAll K H vs ds
  | [], _, h => by cases h; exact .nil
  | d :: ds, _, h => by
    cases h with
    | cons h1 h2 => exact .cons (Tp.dp d _ h1) (TpAll.dp ds _ h2)
end
theorem Tp.mono {v : V} {d : PyData} (h : Tp K H v d) (k : Tk H H') : Tp K H' v d := Tp.tk k d v h
theorem TpAll.mono {vs : List V} {ds : List PyData} (h : TpAll K H vs ds) (k : Tk H H') : TpAll K H' vs ds := TpAll.tk k ds vs h
theorem Tp.intE {v : V} {i : Int} (h : Tp K H v (.int i)) : v = .int i := by cases h; rfl
theorem Tp.strE {v : V} {x : Str} (h : Tp K H v (.str x)) : v = .str x := by cases h; rfl
theorem Tp.nonE {v : V} (h : Tp K H v .none) : v = .non := by cases h; rfl
theorem Tp.tupE {v : V} {ds : List PyData} (h : Tp K H v (.tuple ds)) : ∃ a xs, v = .ref a ∧ SqT K H a xs ∧ TpAll K H xs ds := by
  cases h with
  | tup hs ha => exact ⟨_, _, rfl, hs, ha⟩
theorem TpAll.nilE {vs : List V} (h : TpAll K H vs []) : vs = [] := by cases h; rfl
theorem TpAll.consE {vs : List V} {d : PyData} {ds : List PyData} (h : TpAll K H vs (d :: ds)) : ∃ v r, vs = v :: r ∧ Tp K H v d ∧ TpAll K H r ds := by
  cases h with
  | cons h1 h2 => exact ⟨_, _, rfl, h1, h2⟩
theorem TpAll.length : ∀ {vs : List V} {ds : List PyData}, TpAll K H vs ds → vs.length = ds.length
  | _, [], h => by cases h; rfl
  | _, d :: ds, h => by
    cases h with
    | cons h1 h2 => simp [h2.length]
theorem TpAll.get : ∀ {vs : List V} {ds : List PyData} {i : Nat} {v : V}, TpAll K H vs ds → vs[i]? = some v → ∃ d, ds[i]? = some d ∧ Tp K H v d
  | _, [], i, v, h, e => by cases h; simp at e
  | _, d :: ds, 0, v, h, e => by
    cases h with
    | cons h1 h2 => simp at e; subst e; exact ⟨d, rfl, h1⟩
  | _, d :: ds, i + 1, v, h, e => by
    cases h with
    | cons h1 h2 =>
      obtain ⟨d', e', t⟩ := h2.get (i := i) (v := v) (by simpa using e)
      exact ⟨d', by simpa using e', t⟩
theorem TpAll.get' : ∀ {vs : List V} {ds : List PyData} {i : Nat} {d : PyData}, TpAll K H vs ds → ds[i]? = some d → ∃ v, vs[i]? = some v ∧ Tp K H v d
  | _, [], i, d, h, e => by simp at e
  | _, d0 :: ds, 0, d, h, e => by
    cases h with
    | cons h1 h2 => simp at e; subst e; exact ⟨_, rfl, h1⟩
  | _, d0 :: ds, i + 1, d, h, e => by
    cases h with
    | cons h1 h2 =>
      obtain ⟨v, e', t⟩ := h2.get' (i := i) (d := d) (by simpa using e)
      exact ⟨v, by simpa using e', t⟩
theorem TpAll.snoc : ∀ {vs : List V} {ds : List PyData} {v : V} {d : PyData}, TpAll K H vs ds → Tp K H v d → TpAll K H (vs ++ [v]) (ds ++ [d])
  | _, [], v, d, h, t => by cases h; exact .cons t .nil
  | _, d0 :: ds, v, d, h, t => by
    cases h with
    | cons h1 h2 => exact .cons h1 (h2.snoc t)
theorem TpAll.app : ∀ {vs us : List V} {ds es : List PyData}, TpAll K H vs ds → TpAll K H us es → TpAll K H (vs ++ us) (ds ++ es)
  | _, _, [], _, h, t => by cases h; exact t
  | _, _, d0 :: ds, _, h, t => by
    cases h with
    | cons h1 h2 => exact .cons h1 (h2.app t)
/-- two, three, four, five places -/
theorem Tp.tup1 {v : V} {d0 : PyData} (h : Tp K H v (.tuple [d0])) : ∃ a x0, v = .ref a ∧ SqT K H a [x0] ∧ Tp K H x0 d0 := by
  obtain ⟨a, xs, rfl, hs, ha⟩ := h.tupE
  obtain ⟨x0, r0, rfl, h0, ha⟩ := ha.consE
  cases ha.nilE
  exact ⟨a, x0, rfl, hs, h0⟩
theorem Tp.tup2 {v : V} {d0 d1 : PyData} (h : Tp K H v (.tuple [d0, d1])) : ∃ a x0 x1, v = .ref a ∧ SqT K H a [x0, x1] ∧ Tp K H x0 d0 ∧ Tp K H x1 d1 := by
  obtain ⟨a, xs, rfl, hs, ha⟩ := h.tupE
  obtain ⟨x0, r0, rfl, h0, ha⟩ := ha.consE
  obtain ⟨x1, r1, rfl, h1, ha⟩ := ha.consE
  cases ha.nilE
  exact ⟨a, x0, x1, rfl, hs, h0, h1⟩
theorem Tp.tup3 {v : V} {d0 d1 d2 : PyData} (h : Tp K H v (.tuple [d0, d1, d2])) : ∃ a x0 x1 x2, v = .ref a ∧ SqT K H a [x0, x1, x2] ∧ Tp K H x0 d0 ∧ Tp K H x1 d1 ∧ Tp K H x2 d2 := by
  obtain ⟨a, xs, rfl, hs, ha⟩ := h.tupE
  obtain ⟨x0, r0, rfl, h0, ha⟩ := ha.consE
  obtain ⟨x1, r1, rfl, h1, ha⟩ := ha.consE
  obtain ⟨x2, r2, rfl, h2, ha⟩ := ha.consE
  cases ha.nilE
  exact ⟨a, x0, x1, x2, rfl, hs, h0, h1, h2⟩
theorem Tp.tup4 {v : V} {d0 d1 d2 d3 : PyData} (h : Tp K H v (.tuple [d0, d1, d2, d3])) : ∃ a x0 x1 x2 x3, v = .ref a ∧ SqT K H a [x0, x1, x2, x3] ∧ Tp K H x0 d0 ∧ Tp K H x1 d1 ∧ Tp K H x2 d2 ∧ Tp K H x3 d3 := by
  obtain ⟨a, xs, rfl, hs, ha⟩ := h.tupE
  obtain ⟨x0, r0, rfl, h0, ha⟩ := ha.consE
  obtain ⟨x1, r1, rfl, h1, ha⟩ := ha.consE
  obtain ⟨x2, r2, rfl, h2, ha⟩ := ha.consE
  obtain ⟨x3, r3, rfl, h3, ha⟩ := ha.consE
  cases ha.nilE
  exact ⟨a, x0, x1, x2, x3, rfl, hs, h0, h1, h2, h3⟩
theorem Tp.tup5 {v : V} {d0 d1 d2 d3 d4 : PyData} (h : Tp K H v (.tuple [d0, d1, d2, d3, d4])) : ∃ a x0 x1 x2 x3 x4, v = .ref a ∧ SqT K H a [x0, x1, x2, x3, x4] ∧ Tp K H x0 d0 ∧ Tp K H x1 d1 ∧ Tp K H x2 d2 ∧ Tp K H x3 d3 ∧ Tp K H x4 d4 := by
  obtain ⟨a, xs, rfl, hs, ha⟩ := h.tupE
  obtain ⟨x0, r0, rfl, h0, ha⟩ := ha.consE
  obtain ⟨x1, r1, rfl, h1, ha⟩ := ha.consE
  obtain ⟨x2, r2, rfl, h2, ha⟩ := ha.consE
  obtain ⟨x3, r3, rfl, h3, ha⟩ := ha.consE
  obtain ⟨x4, r4, rfl, h4, ha⟩ := ha.consE
  cases ha.nilE
  exact ⟨a, x0, x1, x2, x3, x4, rfl, hs, h0, h1, h2, h3, h4⟩
/-- a new tuple -/
theorem Tp.mk {p : Addr} {xs : List V} {ds : List PyData} (hp : H p = none) (h : TpAll K H xs ds) : Tp K (upd H p (.tup xs)) (.ref p) (.tuple ds) := .tup (.inl (.inl upd_same)) (h.mono (Tk.new hp))
end

/-! ### expressions -/
inductive BOp where | add | sub | mul | less
  deriving DecidableEq
def BOp.s : BOp → Str
  | .add => "add" | .sub => "sub" | .mul => "mul" | .less => "less"
def BOp.ap : BOp → Int → Int → Int
  | .add, i, j => (i + j) % 10007
  | .sub, i, j => (i - j) % 10007
  | .mul, i, j => i * j % 10007
  | .less, i, j => if i < j then 1 else 0
inductive Ex where
  | num (n : Int)
  | var (k : Nat)
  | bin (o : BOp) (a b : Ex)
  deriving DecidableEq
def Ex.d : Ex → PyData
  | .num n => .tuple [.str "num", .int n]
  | .var k => .tuple [.str "var", .int (k : Int)]
  | .bin o a b => .tuple [.str o.s, a.d, b.d]
def Ex.val (σ : List Int) : Ex → Int
  | .num n => n
  | .var k => σ.getD k 0
  | .bin o a b => o.ap (a.val σ) (b.val σ)
def Ex.Wf : Ex → Prop
  | .num n => 0 ≤ n ∧ n < 1000
  | .var k => k < 8
  | .bin _ a b => a.Wf ∧ b.Wf
def Ex.dep : Ex → Nat
  | .num _ => 1
  | .var _ => 1
  | .bin _ a b => max a.dep b.dep + 1
/-- eight numbers from 0 to 10006 -/
def InR (σ : List Int) : Prop := σ.length = 8 ∧ ∀ n ∈ σ, 0 ≤ n ∧ n < 10007
theorem BOp.ap_in (o : BOp) (i j : Int) : 0 ≤ o.ap i j ∧ o.ap i j < 10007 := by
  cases o with
  | less => unfold BOp.ap; split <;> omega
  | _ => exact ⟨Int.emod_nonneg _ (by decide), Int.emod_lt_of_pos _ (by decide)⟩
theorem Ex.val_in {σ : List Int} (r : InR σ) : ∀ {e : Ex}, e.Wf → 0 ≤ e.val σ ∧ e.val σ < 10007
  | .num n, w => by
    have : 0 ≤ n ∧ n < 1000 := w
    show 0 ≤ n ∧ n < 10007
    omega
  | .var k, w => by
    have hk : k < σ.length := by rw [r.1]; exact w
    show 0 ≤ σ.getD k 0 ∧ σ.getD k 0 < 10007
    rw [List.getD_eq_getElem?_getD, List.getElem?_eq_getElem hk]
    exact r.2 _ (List.getElem_mem hk)
  | .bin o a b, _ => o.ap_in _ _
theorem BOp.ne {o : BOp} : (V.str o.s ≠ V.str "num") ∧ (V.str o.s ≠ V.str "var") := by cases o <;> decide
end Lp

/-! L2v: values of expressions: joined, value_of, the law's own, and its drawing of expressions. -/
namespace Lp
open PySem PySem.Spec PyProof.Rows L2
def t_joined (K : PySem.W.Frag) : TS :=
  tSeq (tIfS (tTest (tOp rEq (tVar 0) (tC (.str "add")))) (tRet (tOp rMdI (tOp rAdI (tVar 1) (tVar 2)) (tC (.int 10007)))) (tNext)) (tSeq (tIfS (tTest (tOp rEq (tVar 0) (tC (.str "sub")))) (tRet (tOp rMdI (tOp rSbI (tVar 1) (tVar 2)) (tC (.int 10007)))) (tNext)) (tSeq (tIfS (tTest (tOp rEq (tVar 0) (tC (.str "mul")))) (tRet (tOp rMdI (tOp rMlI (tVar 1) (tVar 2)) (tC (.int 10007)))) (tNext)) (tRet (tCB rInt1 (tCons (tOp rLt (tVar 1) (tVar 2)) (tNil))))))

def t_value_of (K : PySem.W.Frag) (sp_joined : Sp) (sp_value_of : Sp) : TS :=
  tSeq (tIfS (tTest (tOp rEq (tOp (rIxT K) (tVar 0) (tC (.int 0))) (tC (.str "num")))) (tRet (tOp (rIxT K) (tVar 0) (tC (.int 1)))) (tNext)) (tSeq (tIfS (tTest (tOp rEq (tOp (rIxT K) (tVar 0) (tC (.int 0))) (tC (.str "var")))) (tRet (tOp (rIxL K) (tVar 1) (tOp (rIxT K) (tVar 0) (tC (.int 1))))) (tNext)) (tRet (tCall sp_joined [] E0 (tCons (tOp (rIxT K) (tVar 0) (tC (.int 0))) (tCons (tCall sp_value_of [] E0 (tCons (tOp (rIxT K) (tVar 0) (tC (.int 1))) (tCons (tVar 1) (tNil)))) (tCons (tCall sp_value_of [] E0 (tCons (tOp (rIxT K) (tVar 0) (tC (.int 2))) (tCons (tVar 1) (tNil)))) (tNil)))))))

def t_law_part (K : PySem.W.Frag) (sp_law_take : Sp) (sp_law_part : Sp) : TS :=
  tSeq (tAsg (tCall sp_law_take [] E0 (tCons (tVar 0) (tCons (tC (.int 8)) (tNil)))) (gName 2)) (tSeq (tIfS (tTest (tOp rLt (tVar 2) (tC (.int 2)))) (tRet (tTup (tCons (tC (.str "num")) (tCons (tCall sp_law_take [] E0 (tCons (tVar 0) (tCons (tC (.int 1000)) (tNil)))) (tNil))))) (tNext)) (tSeq (tIfS (tOr (tTest (tOp rEq (tVar 1) (tC (.int 0)))) (tTest (tOp rEq (tVar 2) (tC (.int 2))))) (tRet (tTup (tCons (tC (.str "num")) (tCons (tCall sp_law_take [] E0 (tCons (tVar 0) (tCons (tC (.int 3)) (tNil)))) (tNil))))) (tNext)) (tSeq (tIfS (tTest (tOp rLt (tVar 2) (tC (.int 5)))) (tRet (tTup (tCons (tC (.str "var")) (tCons (tCall sp_law_take [] E0 (tCons (tVar 0) (tCons (tC (.int 8)) (tNil)))) (tNil))))) (tNext)) (tSeq (tAsg (tOp (rIxL K) (tLst (tCons (tC (.str "add")) (tCons (tC (.str "sub")) (tCons (tC (.str "mul")) (tCons (tC (.str "less")) (tNil)))))) (tCall sp_law_take [] E0 (tCons (tVar 0) (tCons (tC (.int 4)) (tNil))))) (gName 3)) (tSeq (tAsg (tCall sp_law_part [] E0 (tCons (tVar 0) (tCons (tOp rSbI (tVar 1) (tC (.int 1))) (tNil)))) (gName 4)) (tRet (tTup (tCons (tVar 3) (tCons (tVar 4) (tCons (tCall sp_law_part [] E0 (tCons (tVar 0) (tCons (tOp rSbI (tVar 1) (tC (.int 1))) (tNil)))) (tNil)))))))))))

def t_law_value (K : PySem.W.Frag) (sp_law_value : Sp) : TS :=
  tSeq (tAsg (tOp (rIxT K) (tVar 0) (tC (.int 0))) (gName 2)) (tSeq (tIfS (tTest (tOp rEq (tVar 2) (tC (.str "num")))) (tRet (tOp (rIxT K) (tVar 0) (tC (.int 1)))) (tNext)) (tSeq (tIfS (tTest (tOp rEq (tVar 2) (tC (.str "var")))) (tRet (tOp (rIxL K) (tVar 1) (tOp (rIxT K) (tVar 0) (tC (.int 1))))) (tNext)) (tSeq (tAsg (tCall sp_law_value [] E0 (tCons (tOp (rIxT K) (tVar 0) (tC (.int 1))) (tCons (tVar 1) (tNil)))) (gName 3)) (tSeq (tAsg (tCall sp_law_value [] E0 (tCons (tOp (rIxT K) (tVar 0) (tC (.int 2))) (tCons (tVar 1) (tNil)))) (gName 4)) (tSeq (tIfS (tTest (tOp rEq (tVar 2) (tC (.str "less")))) (tRet (tCB rInt1 (tCons (tOp rLt (tVar 3) (tVar 4)) (tNil)))) (tNext)) (tSeq (tIfS (tTest (tOp rEq (tVar 2) (tC (.str "add")))) (tRet (tOp rMdI (tOp rAdI (tVar 3) (tVar 4)) (tC (.int 10007)))) (tNext)) (tSeq (tIfS (tTest (tOp rEq (tVar 2) (tC (.str "sub")))) (tRet (tOp rMdI (tOp rSbI (tOp rAdI (tVar 3) (tOp rMlI (tC (.int 10007)) (tC (.int 10007)))) (tVar 4)) (tC (.int 10007)))) (tNext)) (tRet (tOp rMdI (tOp rMlI (tVar 3) (tVar 4)) (tC (.int 10007)))))))))))

/-! ### items -/
section
variable {K : PySem.W.Frag} {σ : L2.St} {H : Hp} {i j : Nat} {p : Addr} {xs : List V} {v : V} {Q : VK}
theorem rd_ixT (hs : σ[i]? = some (some (.ref p))) (h : SqT K H p xs) (e : xs[j]? = some v) (q : Q v H) : tOp (rIxT K) (tVar i) (tC (.int (j : Int))) σ H Q := ⟨_, hs, p, xs, _, v, rfl, rfl, h, atI_nat e, q⟩
theorem rd_ixL (hs : σ[i]? = some (some (.ref p))) (h : SqL K H p xs) (e : xs[j]? = some v) (q : Q v H) : tOp (rIxL K) (tVar i) (tC (.int (j : Int))) σ H Q := ⟨_, hs, p, xs, _, v, rfl, rfl, h, atI_nat e, q⟩
end
section
variable {P : Program} {w : World} {K : PySem.W.Frag} {mg : Str → Option Value} {base : Heap} {j : Nat} {x m : Str} {C : Addr} {ps : List Str} {f : Addr} {fd : FuncData}
/-- a def that calls itself: at 0 it can't be asked -/
theorem FnOk.zero {k : Nat} {sp : Sp} (z : ∀ vs H Q E, ¬ sp vs H Q E) : FnOk P w K mg base CX0 k f fd ps sp :=
  ⟨fun vs H Q E h => absurd h (z vs H Q E), fun A outer s H args us vs Q E _ _ _ _ h => absurd h (z vs H Q E)⟩
theorem Cal.rec {sp : Nat → Sp} (b : Binds K fd ps []) (kp : PySem.W.keepIn K (.ref f) = true) (hm : mg x = some (.ref f)) (z : ∀ vs H Q E, ¬ sp 0 vs H Q E)
    (step : ∀ n, Cal P w K mg base (j + n) x ps (sp n) → FnOk P w K mg base CX0 (j + n + 1) f fd ps (sp (n + 1))) : ∀ n, Cal P w K mg base (j + n) x ps (sp n)
  | 0 => ⟨f, fd, FnOk.zero z, b, kp, hm⟩
  | n + 1 => ⟨f, fd, step n (Cal.rec b kp hm z step n), b, kp, hm⟩
end
section
variable {X : Cx} {x : Str} {i : Int} {z : Str} {pos : Pos}
theorem pgi (h : ∃ t, X.mg x = some (.int i t)) (hg : Gl X x := by rfl) (hd : (x == ("__debug__" : Str)) = false := by decide) : PE X (.Name x pos) (tC (.int i)) := by
  obtain ⟨t, e⟩ := h
  exact pe_glob hg e ⟨t, rfl⟩ hd
theorem pgs (h : ∃ t, X.mg x = some (.str z t)) (hg : Gl X x := by rfl) (hd : (x == ("__debug__" : Str)) = false := by decide) : PE X (.Name x pos) (tC (.str z)) := by
  obtain ⟨t, e⟩ := h
  exact pe_glob hg e ⟨t, rfl⟩ hd
end
theorem pos7 : (0 : Int) < 10007 := by decide
theorem cmul_small {i j : Int} (h : 0 ≤ i ∧ i < 100000000) : CMul i j := .inl ⟨by omega, by omega⟩

/-! ### joined -/
def spJoined : Sp := fun vs H Q _ => ∃ (o : BOp) (i j : Int), vs = [.str o.s, .int i, .int j] ∧ 0 ≤ i ∧ i < 10007 ∧ 0 ≤ j ∧ j < 10007 ∧ Q (.int (o.ap i j)) H
abbrev N_joined : List Str := ["word", "one", "two"]
theorem rd_joined {K : PySem.W.Frag} (vs : List V) (H : Hp) (Q : VK) (E : XK) (h : spJoined vs H Q E) : t_joined K { nx := fun _ H' => Q .non H', rt := Q } (start N_joined vs) H := by
  obtain ⟨o, i, j, rfl, h1, h2, h3, h4, q⟩ := h
  cases o with
  | add =>
    refine ⟨_, rfl, rfl, _, rfl, ifT rfl ?_⟩
    exact ⟨_, rfl, _, rfl, _, _, rfl, rfl, _, _, rfl, rfl, pos7, q⟩
  | sub =>
    refine ⟨_, rfl, rfl, _, rfl, ifF rfl ⟨_, rfl, rfl, _, rfl, ifT rfl ?_⟩⟩
    exact ⟨_, rfl, _, rfl, _, _, rfl, rfl, _, _, rfl, rfl, pos7, q⟩
  | mul =>
    refine ⟨_, rfl, rfl, _, rfl, ifF rfl ⟨_, rfl, rfl, _, rfl, ifF rfl ⟨_, rfl, rfl, _, rfl, ifT rfl ?_⟩⟩⟩
    exact ⟨_, rfl, _, rfl, _, _, rfl, rfl, cmul_small ⟨by omega, by omega⟩, _, _, rfl, rfl, pos7, q⟩
  | less =>
    refine ⟨_, rfl, rfl, _, rfl, ifF rfl ⟨_, rfl, rfl, _, rfl, ifF rfl ⟨_, rfl, rfl, _, rfl, ifF rfl ?_⟩⟩⟩
    refine ⟨_, rfl, _, rfl, _, _, rfl, rfl, .inr ⟨_, rfl, ?_⟩⟩
    have e : (if decide (i < j) = true then (1 : Int) else 0) = BOp.less.ap i j := by
      show (if decide (i < j) = true then (1 : Int) else 0) = if i < j then 1 else 0
      by_cases c : i < j
      · rw [if_pos c, if_pos (dT c)]
      · rw [if_neg c, if_neg (by rw [dF c]; decide)]
    rw [e]
    exact q
/-! ### value_of -/
def spVal (K : PySem.W.Frag) (n : Nat) : Sp := fun vs H Q _ => ∃ (v : V) (s : Addr) (e : Ex) (σ : List Int), vs = [v, .ref s] ∧ Tp K H v e.d ∧ e.Wf ∧ e.dep ≤ n ∧ SqL K H s (σ.map V.int) ∧ InR σ ∧ Q (.int (e.val σ)) H
theorem spVal_zero {K : PySem.W.Frag} (vs : List V) (H : Hp) (Q : VK) (E : XK) : ¬ spVal K 0 vs H Q E := by
  rintro ⟨v, s, e, σ, _, _, _, h, _⟩
  cases e <;> simp [Ex.dep] at h
abbrev N_value_of : List Str := ["part", "slots"]
theorem slot_get {σ : List Int} {k : Nat} (r : InR σ) (h : k < 8) : (σ.map V.int)[k]? = some (.int (σ.getD k 0)) := by
  have hk : k < σ.length := by rw [r.1]; exact h
  rw [List.getElem?_map, List.getD_eq_getElem?_getD, List.getElem?_eq_getElem hk]
  rfl
theorem rd_value_of {K : PySem.W.Frag} {n : Nat} (vs : List V) (H : Hp) (Q : VK) (E : XK) (h : spVal K (n + 1) vs H Q E) : t_value_of K spJoined (spVal K n) { nx := fun _ H' => Q .non H', rt := Q } (start N_value_of vs) H := by
  obtain ⟨v, s, e, σ, rfl, ht, wf, hd, hs, hr, q⟩ := h
  cases e with
  | num k =>
    obtain ⟨a, x0, x1, rfl, hT, h0, h1⟩ := ht.tup2
    cases h0.strE; cases h1.intE
    refine rd_ixT (j := 0) rfl hT rfl ⟨rfl, _, rfl, ifT rfl ?_⟩
    exact rd_ixT (j := 1) rfl hT rfl q
  | var k =>
    obtain ⟨a, x0, x1, rfl, hT, h0, h1⟩ := ht.tup2
    cases h0.strE; cases h1.intE
    refine rd_ixT (j := 0) rfl hT rfl ⟨rfl, _, rfl, ifF rfl ?_⟩
    refine rd_ixT (j := 0) rfl hT rfl ⟨rfl, _, rfl, ifT rfl ?_⟩
    refine ⟨_, rfl, rd_ixT (j := 1) rfl hT rfl ⟨s, _, _, _, rfl, rfl, hs, atI_nat (slot_get hr wf), q⟩⟩
  | bin o e1 e2 =>
    obtain ⟨a, x0, x1, x2, rfl, hT, h0, h1, h2⟩ := ht.tup3
    cases h0.strE
    have hd' : max e1.dep e2.dep + 1 ≤ n + 1 := hd
    obtain ⟨w1, w2⟩ : e1.Wf ∧ e2.Wf := wf
    obtain ⟨a1, a2⟩ := Ex.val_in hr w1
    obtain ⟨b1, b2⟩ := Ex.val_in hr w2
    refine rd_ixT (j := 0) rfl hT rfl ⟨rfl, _, rfl, ifF (dF BOp.ne.1) ?_⟩
    refine rd_ixT (j := 0) rfl hT rfl ⟨rfl, _, rfl, ifF (dF BOp.ne.2) ?_⟩
    refine rd_ixT (j := 0) rfl hT rfl ?_
    refine rd_ixT (j := 1) rfl hT rfl ⟨_, rfl, x1, s, e1, σ, rfl, h1, w1, by omega, hs, hr, ?_⟩
    refine rd_ixT (j := 2) rfl hT rfl ⟨_, rfl, x2, s, e2, σ, rfl, h2, w2, by omega, hs, hr, ?_⟩
    exact ⟨o, _, _, rfl, a1, a2, b1, b2, q⟩
/-! ### _law_value -/
abbrev N_law_value : List Str := ["_law_part_here", "_law_slots", "_law_word", "_law_one", "_law_two"]
theorem rd_law_value {K : PySem.W.Frag} {n : Nat} (vs : List V) (H : Hp) (Q : VK) (E : XK) (h : spVal K (n + 1) vs H Q E) : t_law_value K (spVal K n) { nx := fun _ H' => Q .non H', rt := Q } (start N_law_value vs) H := by
  obtain ⟨v, s, e, σ, rfl, ht, wf, hd, hs, hr, q⟩ := h
  cases e with
  | num k =>
    obtain ⟨a, x0, x1, rfl, hT, h0, h1⟩ := ht.tup2
    cases h0.strE; cases h1.intE
    refine rd_ixT (j := 0) rfl hT rfl ⟨_, rfl, rfl, _, rfl, ifT rfl ?_⟩
    exact rd_ixT (j := 1) rfl hT rfl q
  | var k =>
    obtain ⟨a, x0, x1, rfl, hT, h0, h1⟩ := ht.tup2
    cases h0.strE; cases h1.intE
    refine rd_ixT (j := 0) rfl hT rfl ⟨_, rfl, rfl, _, rfl, ifF rfl ⟨_, rfl, rfl, _, rfl, ifT rfl ?_⟩⟩
    refine ⟨_, rfl, rd_ixT (j := 1) rfl hT rfl ⟨s, _, _, _, rfl, rfl, hs, atI_nat (slot_get hr wf), q⟩⟩
  | bin o e1 e2 =>
    obtain ⟨a, x0, x1, x2, rfl, hT, h0, h1, h2⟩ := ht.tup3
    cases h0.strE
    have hd' : max e1.dep e2.dep + 1 ≤ n + 1 := hd
    obtain ⟨w1, w2⟩ : e1.Wf ∧ e2.Wf := wf
    obtain ⟨a1, a2⟩ := Ex.val_in hr w1
    obtain ⟨b1, b2⟩ := Ex.val_in hr w2
    refine rd_ixT (j := 0) rfl hT rfl ⟨_, rfl, rfl, _, rfl, ifF (dF BOp.ne.1) ⟨_, rfl, rfl, _, rfl, ifF (dF BOp.ne.2) ?_⟩⟩
    refine rd_ixT (j := 1) rfl hT rfl ⟨_, rfl, x1, s, e1, σ, rfl, h1, w1, by omega, hs, hr, ?_⟩
    refine rd_ixT (j := 2) rfl hT rfl ⟨_, rfl, x2, s, e2, σ, rfl, h2, w2, by omega, hs, hr, ?_⟩
    cases o with
    | less =>
      refine ⟨_, rfl, rfl, _, rfl, ifT rfl ⟨_, rfl, _, rfl, _, _, rfl, rfl, .inr ⟨_, rfl, ?_⟩⟩⟩
      have e : (if decide (e1.val σ < e2.val σ) = true then (1 : Int) else 0) = BOp.less.ap (e1.val σ) (e2.val σ) := by
        show (if decide (e1.val σ < e2.val σ) = true then (1 : Int) else 0) = if e1.val σ < e2.val σ then 1 else 0
        by_cases c : e1.val σ < e2.val σ
        · rw [if_pos c, if_pos (dT c)]
        · rw [if_neg c, if_neg (by rw [dF c]; decide)]
      rw [e]
      exact q
    | add =>
      refine ⟨_, rfl, rfl, _, rfl, ifF rfl ⟨_, rfl, rfl, _, rfl, ifT rfl ?_⟩⟩
      exact ⟨_, rfl, _, rfl, _, _, rfl, rfl, _, _, rfl, rfl, pos7, q⟩
    | sub =>
      refine ⟨_, rfl, rfl, _, rfl, ifF rfl ⟨_, rfl, rfl, _, rfl, ifF rfl ⟨_, rfl, rfl, _, rfl, ifT rfl ?_⟩⟩⟩
      refine ⟨_, rfl, _, _, rfl, rfl, cmul_small ⟨by decide, by decide⟩, _, _, rfl, rfl, _, rfl, _, _, rfl, rfl, _, _, rfl, rfl, pos7, ?_⟩
      have e : (e1.val σ + 10007 * 10007 - e2.val σ) % 10007 = (e1.val σ - e2.val σ) % 10007 := by omega
      show Q (.int ((e1.val σ + 10007 * 10007 - e2.val σ) % 10007)) H
      rw [e]
      exact q
    | mul =>
      refine ⟨_, rfl, rfl, _, rfl, ifF rfl ⟨_, rfl, rfl, _, rfl, ifF rfl ⟨_, rfl, rfl, _, rfl, ifF rfl ?_⟩⟩⟩
      exact ⟨_, rfl, _, rfl, _, _, rfl, rfl, cmul_small ⟨by omega, by omega⟩, _, _, rfl, rfl, pos7, q⟩
/-! ### _law_part: some expression, as deep at the most -/
def spPart (K : PySem.W.Frag) (n : Nat) : Sp := fun vs H Q _ => ∃ (b : Addr) (l : List Int) (d : Nat), vs = [.ref b, .int (d : Int)] ∧ H b = some (.lst (l.map V.int)) ∧ d < n ∧
  ∀ (v : V) (e : Ex) (l' : List Int) (H' : Hp), e.Wf → e.dep ≤ d + 1 → Tp K H' v e.d → H' b = some (.lst (l'.map V.int)) → Kp (fun x => x = b) H H' → Q v H'
theorem spPart_zero {K : PySem.W.Frag} (vs : List V) (H : Hp) (Q : VK) (E : XK) : ¬ spPart K 0 vs H Q E := by
  rintro ⟨b, l, d, _, _, h, _⟩
  omega
abbrev N_law_part : List Str := ["_law_box", "_law_deep", "_law_kind", "_law_word", "_law_one"]
theorem bd {b : Addr} {d : Nat} (h : 0 < d) : [V.ref b, V.int ((d : Int) - 1)] = [V.ref b, V.int ((d - 1 : Nat) : Int)] := by
  rw [show ((d : Int) - 1) = ((d - 1 : Nat) : Int) by omega]
theorem opw {r : Int} (h0 : 0 ≤ r) (h4 : r < 4) : ∃ o : BOp, atI ([.str "add", .str "sub", .str "mul", .str "less"] : List V) r = some (.str o.s) := by
  have : r = 0 ∨ r = 1 ∨ r = 2 ∨ r = 3 := by omega
  rcases this with rfl | rfl | rfl | rfl
  · exact ⟨.add, rfl⟩
  · exact ⟨.sub, rfl⟩
  · exact ⟨.mul, rfl⟩
  · exact ⟨.less, rfl⟩
theorem rd_law_part {K : PySem.W.Frag} {n : Nat} (vs : List V) (H : Hp) (Q : VK) (E : XK) (h : spPart K (n + 1) vs H Q E) : t_law_part K spTake (spPart K n) { nx := fun _ H' => Q .non H', rt := Q } (start N_law_part vs) H := by
  obtain ⟨b, l, d, rfl, hb, hd, q⟩ := h
  refine ⟨_, rfl, b, l, 8, rfl, hb, by decide, by decide, fun r l1 H1 r0 r1 hb1 kp1 => ?_⟩
  have small : ∀ (m : Int), 0 < m → m ≤ 1000 → (tRet (tTup (tCons (tC (.str "num")) (tCons (tCall spTake [] E0 (tCons (tVar 0) (tCons (tC (.int m)) (tNil)))) (tNil))))) { nx := fun _ H' => Q .non H', rt := Q } [some (.ref b), some (.int (d : Int)), some (.int r), none, none] H1 := by
    intro m m0 m1
    refine ⟨_, rfl, b, l1, m, rfl, hb1, m0, by omega, fun x l2 H2 x0 x1 hb2 kp2 => ⟨(by show 2 ≤ sizeLine; decide), fun p hp => ?_⟩⟩
    refine q (.ref p) (.num x) l2 _ ⟨x0, by omega⟩ (by show 1 ≤ d + 1; omega) (Tp.mk hp (.cons (.str _) (.cons (.int _) .nil))) (by rw [upd_ne (ne_of_none hb2 hp)]; exact hb2) ((kp1.trans kp2).trans (Kp.new hp))
  refine ⟨_, rfl, _, _, rfl, rfl, _, rfl, ifB (fun _ => small 1000 (by decide) (by decide)) fun _ => ?_⟩
  refine ⟨_, rfl, rfl, _, rfl, ifB (fun _ => small 3 (by decide) (by decide)) fun d0 => ?_⟩
  refine ⟨_, rfl, rfl, _, rfl, ifB (fun _ => small 3 (by decide) (by decide)) fun _ => ?_⟩
  have hd0 : 0 < d := by
    have := of_decide_eq_false d0
    by_cases z : d = 0
    · subst z; exact absurd rfl this
    · omega
  refine ⟨_, rfl, _, _, rfl, rfl, _, rfl, ifB (fun _ => ?_) fun _ => ?_⟩
  · refine ⟨_, rfl, b, l1, 8, rfl, hb1, by decide, by decide, fun x l2 H2 x0 x1 hb2 kp2 => ⟨(by show 2 ≤ sizeLine; decide), fun p hp => ?_⟩⟩
    obtain ⟨k, rfl⟩ : ∃ k : Nat, x = (k : Int) := ⟨x.toNat, by omega⟩
    exact q (.ref p) (.var k) l2 _ (by show k < 8; omega) (by show 1 ≤ d + 1; omega) (Tp.mk hp (.cons (.str _) (.cons (.int _) .nil))) (by rw [upd_ne (ne_of_none hb2 hp)]; exact hb2) ((kp1.trans kp2).trans (Kp.new hp))
  · refine ⟨(by show 4 ≤ sizeLine; decide), fun p hp => ?_⟩
    have hb2 : L2.upd H1 p (.lst [.str "add", .str "sub", .str "mul", .str "less"]) b = some (.lst (l1.map V.int)) := by rw [upd_ne (ne_of_none hb1 hp)]; exact hb1
    refine ⟨_, rfl, b, l1, 4, rfl, hb2, by decide, by decide, fun x l2 H2 x0 x1 hb3 kp3 => ?_⟩
    have pb : p ≠ b := fun e => by rw [e, hb1] at hp; cases hp
    obtain ⟨o, ho⟩ := opw x0 x1
    refine ⟨p, _, x, _, rfl, rfl, SqL.of (kp3 p _ upd_same pb), ho, ?_⟩
    have kpA := (kp1.trans (Kp.new hp)).trans kp3
    refine ⟨_, rfl, _, rfl, _, _, rfl, rfl, b, l2, d - 1, bd hd0, hb3, by omega, fun v1 e1 l3 H3 w1 p1 t1 hb4 kp4 => ?_⟩
    refine ⟨_, rfl, _, rfl, _, rfl, _, rfl, _, _, rfl, rfl, b, l3, d - 1, bd hd0, hb4, by omega, fun v2 e2 l4 H4 w2 p2 t2 hb5 kp5 => ?_⟩
    refine ⟨(by show 3 ≤ sizeLine; decide), fun u hu => ?_⟩
    refine q (.ref u) (.bin o e1 e2) l4 _ ⟨w1, w2⟩ (by show max e1.dep e2.dep + 1 ≤ d + 1; omega) (Tp.mk hu (.cons (.str _) (.cons (t1.mono (kp5.tk1 hb4)) (.cons t2 .nil)))) (by rw [upd_ne (ne_of_none hb5 hu)]; exact hb5) (((kpA.trans kp4).trans kp5).trans (Kp.new hu))
end Lp

namespace Lr
open PySem PySem.Spec PyProof.Rows L2 Lp
def topS (i : Nat) : Stmt := PySem.Challenge.pw_leaps_k02_values.main.body.getD i (.Pass ⟨0, 0, 0, 0⟩)
def spLaw (K : PySem.W.Frag) : Sp := fun vs H Q _ => ∃ (a : Addr) (ns : List Int), vs = [.ref a] ∧ SqL K H a (ns.map V.int) ∧ ns.length ≤ 63 ∧ ∀ H', Q (.bl true) H'
def t_law (K : PySem.W.Frag) (sp_law_take : Sp) (sp_law_part : Sp) (sp_value_of : Sp) (sp_law_value : Sp) : TS :=
  tSeq (tAsg (tCB (rLstOf K) (tCons (tVar 0) (tNil))) (gName 1)) (tSeq (tAsg (tLc (iRng1 (tCons (tC (.int 8)) (tNil))) (gName 3) (tYes) (tCall sp_law_take [] E0 (tCons (tVar 1) (tCons (tC (.int 10007)) (tNil)))) [3]) (gName 2)) (tSeq (tAsg (tCall sp_law_part [] E0 (tCons (tVar 1) (tCons (tC (.int 4)) (tNil)))) (gName 4)) (tSeq (tAsg (tCB (rLstOf K) (tCons (tVar 2) (tNil))) (gName 5)) (tSeq (tAsg (tCall sp_value_of [] E0 (tCons (tVar 4) (tCons (tVar 2) (tNil)))) (gName 6)) (tSeq (tIfS (tOr (tNot (tB (tCB (rIsi K) (tCons (tVar 6) (tCons (tC (.ty "int")) (tNil)))))) (tB (tCB (rIsi K) (tCons (tVar 6) (tCons (tC (.ty "bool")) (tNil)))))) (tRet (tC (.bl false))) (tNext)) (tRet (tAndV (tOp rEq (tVar 6) (tCall sp_law_value [] E0 (tCons (tVar 4) (tCons (tVar 5) (tNil))))) (tOp (rEqD K) (tVar 2) (tVar 5)))))))))

theorem kii {K : PySem.W.Frag} : PySem.W.kitOne K (.type "int") (.type "int") = some true := kit_ty (by decide +kernel)
theorem kib {K : PySem.W.Frag} : PySem.W.kitOne K (.type "int") (.type "bool") = some false := kit_ty (by decide +kernel)
theorem rd_law {K : PySem.W.Frag} (vs : List V) (H : Hp) (Q : VK) (E : XK) (h : spLaw K vs H Q E) : t_law K spTake (spPart K 5) (spVal K 5) (spVal K 5) { nx := fun _ H' => Q .non H', rt := Q } (start ["_law_script", "_law_box", "_law_slots", "_law_k", "_law_part_here", "_law_kept", "_law_told"] vs) H := by
  obtain ⟨a, ns, rfl, hS, hlen, q⟩ := h
  refine ⟨_, rfl, a, _, rfl, .inl hS, fun b hb => ?_⟩
  refine ⟨8, rfl, by decide, by decide, fun s hs => lc_range (lo := 0) (n := 8) (fun i H' => ∃ σ l : List Int, σ.length = i ∧ (∀ n ∈ σ, 0 ≤ n ∧ n < 10007) ∧ H' s = some (.lst (σ.map V.int)) ∧ H' b = some (.lst (l.map V.int)))
    ⟨[], ns, rfl, (by simp), upd_same, by rw [upd_ne (ne_of_none upd_same hs)]; exact upd_same⟩ ?_ ?_⟩
  · rintro i H1 hi ⟨σ, l, hl, hr, h1, h2⟩
    have sb : s ≠ b := fun e => by rw [e, upd_same] at hs; cases hs
    refine ⟨rfl, _, rfl, b, l, 10007, rfl, h2, by decide, by decide, fun r l' H2 r0 r1 hb2 kp => ⟨_, kp s _ h1 sb, by rw [List.length_map]; exact sz_lt1 (by omega), σ ++ [r], l', by simp [hl], ?_, ?_, ?_⟩⟩
    · intro n hn
      rcases List.mem_append.mp hn with z | z
      · exact hr n z
      · have e : n = r := by simpa using z
        rw [e]; exact ⟨r0, r1⟩
    · rw [upd_same, List.map_append]; rfl
    · rw [upd_ne sb.symm]; exact hb2
  · rintro H1 ⟨σ, l, hl, hr, h1, h2⟩
    have inr : InR σ := ⟨hl, hr⟩
    have sb : s ≠ b := fun e => by rw [e, upd_same] at hs; cases hs
    refine ⟨_, rfl, b, l, 4, rfl, h2, by decide, fun v e l2 H2 we de te hb2 kp2 => ?_⟩
    have h3 := kp2 s _ h1 sb
    refine ⟨_, rfl, s, _, rfl, .inl (SqL.of h3), fun c hc => ?_⟩
    have h4 : L2.upd H2 c (.lst (σ.map V.int)) s = some (.lst (σ.map V.int)) := by rw [upd_ne (ne_of_none h3 hc)]; exact h3
    have te4 := te.mono (Tk.new (o := .lst (σ.map V.int)) hc)
    refine ⟨_, rfl, _, rfl, v, s, e, σ, rfl, te4, we, de, SqL.of h4, inr, ?_⟩
    refine ⟨_, rfl, .int _, .ty "int", _, _, true, rfl, .ty _, .base (.int _), kii, _, rfl, ifF rfl ⟨_, rfl, .int _, .ty "bool", _, _, false, rfl, .ty _, .base (.int _), kib, _, rfl, ifF rfl ?_⟩⟩
    refine ⟨_, rfl, _, rfl, _, rfl, v, c, e, σ, rfl, te4, we, de, SqL.of upd_same, inr, ⟨rfl, true, by rw [dT rfl], ?_⟩⟩
    refine ifT rfl ⟨_, rfl, _, rfl, _, _, .lst (SqL.of h4) (dp_ints σ), .lst (SqL.of upd_same) (dp_ints σ), shaped_ints σ, shaped_ints σ, ?_⟩
    rw [SeqAt.eqv_refl (.list (σ.map PyData.int)) (SeqAt.canLay_of_shaped (shaped_ints σ))]
    exact q _
section
variable {P : Program} {w : World} {K : PySem.W.Frag} {mg : Str → Option Value} {base : Heap} {k : Nat}
abbrev s_joined : Stmt := topS 2
abbrev N_joined : List Str := ["word", "one", "two"]
theorem sc_joined : FnScope N_joined ["word", "one", "two"] (defScope s_joined) := ⟨rfl, rfl, rfl, by decide +kernel, rfl, by decide +kernel, by decide +kernel⟩
theorem ok_joined  {f : Addr} {fd : FuncData} (D : FunD K "joined" "joined" (defArgs s_joined) (defBody s_joined) (defScope s_joined) [] [] f fd) (Gc_MODULE : ∃ t, mg "MODULE" = some (.int 10007 t)) (B_int : mg "int" = none) {sp : Sp}
    (len : ∀ vs H Q E, sp vs H Q E → vs.length = 3)
    (rd : ∀ vs H Q E, sp vs H Q E → t_joined K { nx := fun _ H' => Q .non H', rt := Q } (start N_joined vs) H) : FnOk P w K mg base CX0 (k + 1) f fd ["word", "one", "two"] sp := by
  refine D.ok sc_joined len (fun cdv A outer s H vs Q E hr h => ⟨t_joined K, PSs.nox ?_, rd vs H Q E h⟩)
  · unfold t_joined
    exact pss_cons (ps_if (pt_cmpR op_eq (pv 0) (pe_str) (nomark _)) (pss_one (ps_ret (pe_op op_mod (pe_op op_add (pv 1) (pv 2)) (pgi Gc_MODULE)))) (pss_nil))
        (pss_cons (ps_if (pt_cmpR op_eq (pv 0) (pe_str) (nomark _)) (pss_one (ps_ret (pe_op op_mod (pe_op op_sub (pv 1) (pv 2)) (pgi Gc_MODULE)))) (pss_nil))
        (pss_cons (ps_if (pt_cmpR op_eq (pv 0) (pe_str) (nomark _)) (pss_one (ps_ret (pe_op op_mod (pe_op op_mul (pv 1) (pv 2)) (pgi Gc_MODULE)))) (pss_nil))
        (pss_one (ps_ret (pe_callTy call_int1 (by rfl) B_int (by decide +kernel) (pa_cons (pe_cmpR op_lt (pv 1) (pv 2) (nomark _)) (pa_nil)))))))

abbrev s_value_of : Stmt := topS 3
abbrev N_value_of : List Str := ["part", "slots"]
theorem sc_value_of : FnScope N_value_of ["part", "slots"] (defScope s_value_of) := ⟨rfl, rfl, rfl, by decide +kernel, rfl, by decide +kernel, by decide +kernel⟩
theorem ok_value_of {sp_joined : Sp} {sp_value_of : Sp} {f : Addr} {fd : FuncData} (D : FunD K "value_of" "value_of" (defArgs s_value_of) (defBody s_value_of) (defScope s_value_of) [] [] f fd) (c_joined : Cal P w K mg base k "joined" ["word", "one", "two"] sp_joined) (c_value_of : Cal P w K mg base k "value_of" ["part", "slots"] sp_value_of) {sp : Sp}
    (len : ∀ vs H Q E, sp vs H Q E → vs.length = 2)
    (rd : ∀ vs H Q E, sp vs H Q E → t_value_of K sp_joined sp_value_of { nx := fun _ H' => Q .non H', rt := Q } (start N_value_of vs) H) : FnOk P w K mg base CX0 (k + 1) f fd ["part", "slots"] sp := by
  refine D.ok sc_value_of len (fun cdv A outer s H vs Q E hr h => ⟨t_value_of K sp_joined sp_value_of, PSs.nox ?_, rd vs H Q E h⟩)
  · unfold t_value_of
    exact pss_cons (ps_if (pt_cmpR op_eq (pe_ix ix_tup (pv 0) (pe_int) (fun _ _ => rfl)) (pe_str) (nomark _)) (pss_one (ps_ret (pe_ix ix_tup (pv 0) (pe_int) (fun _ _ => rfl)))) (pss_nil))
        (pss_cons (ps_if (pt_cmpR op_eq (pe_ix ix_tup (pv 0) (pe_int) (fun _ _ => rfl)) (pe_str) (nomark _)) (pss_one (ps_ret (pe_ix ix_list (pv 1) (pe_ix ix_tup (pv 0) (pe_int) (fun _ _ => rfl)) (fun _ _ => rfl)))) (pss_nil))
        (pss_one (ps_ret (pc c_joined hr (pa_cons (pe_ix ix_tup (pv 0) (pe_int) (fun _ _ => rfl)) (pa_cons (pc c_value_of hr (pa_cons (pe_ix ix_tup (pv 0) (pe_int) (fun _ _ => rfl)) (pa_cons (pv 1) (pa_nil)))) (pa_cons (pc c_value_of hr (pa_cons (pe_ix ix_tup (pv 0) (pe_int) (fun _ _ => rfl)) (pa_cons (pv 1) (pa_nil)))) (pa_nil))))))))

abbrev s_law_take : Stmt := topS 5
abbrev N_law_take : List Str := ["_law_box", "_law_many", "_law_number"]
theorem sc_law_take : FnScope N_law_take ["_law_box", "_law_many"] (defScope s_law_take) := ⟨rfl, rfl, rfl, by decide +kernel, rfl, by decide +kernel, by decide +kernel⟩
theorem ok_law_take  {f : Addr} {fd : FuncData} (D : FunD K "_law_take" "_law_take" (defArgs s_law_take) (defBody s_law_take) (defScope s_law_take) [] [] f fd)  {sp : Sp}
    (len : ∀ vs H Q E, sp vs H Q E → vs.length = 2)
    (rd : ∀ vs H Q E, sp vs H Q E → t_law_take K { nx := fun _ H' => Q .non H', rt := Q } (start N_law_take vs) H) : FnOk P w K mg base CX0 (k + 1) f fd ["_law_box", "_law_many"] sp := by
  refine D.ok sc_law_take len (fun cdv A outer s H vs Q E hr h => ⟨t_law_take K, PSs.nox ?_, rd vs H Q E h⟩)
  · unfold t_law_take
    exact pss_cons (ps_if (pt_cmpR (op_eqD hr.units) (pv 0) (pe_lst (pa_nil)) (nomark _)) (pss_one (ps_ret (pe_int))) (pss_nil))
        (pss_cons (ps_set (i := 2) sc_law_take.nd rfl (by first | exact Or.inl rfl | exact Or.inr rfl) (pe_ix ix_list (pv 0) (pe_int) (fun _ _ => rfl)))
        (pss_cons (ps_asg (pe_op op_fdivW (pv 2) (pv 1)) (pg_sub (pv 0) (pe_int) set_list))
        (pss_cons (ps_if (PW.pt (pw_or (pt_cmpR op_eq (pe_ix ix_list (pv 0) (pe_int) (fun _ _ => rfl)) (pe_int) (nomark _)) (pw_or1 (pt_cmpR op_eq (pe_ix ix_list (pv 0) (pe_int) (fun _ _ => rfl)) (pe_un un_neg (pe_int)) (nomark _))))) (pss_one (ps_expr (pe_bm PySem.F.plainAttrs_list PySem.F.slot_list_pop PySem.F.type_list_pop mt_popAt (pv 0) (pa_cons (pe_int) (pa_nil))))) (pss_nil))
        (pss_one (ps_ret (pe_op op_mod (pv 2) (pv 1)))))))

abbrev s_law_part : Stmt := topS 6
abbrev N_law_part : List Str := ["_law_box", "_law_deep", "_law_kind", "_law_word", "_law_one"]
theorem sc_law_part : FnScope N_law_part ["_law_box", "_law_deep"] (defScope s_law_part) := ⟨rfl, rfl, rfl, by decide +kernel, rfl, by decide +kernel, by decide +kernel⟩
theorem ok_law_part {sp_law_take : Sp} {sp_law_part : Sp} {f : Addr} {fd : FuncData} (D : FunD K "_law_part" "_law_part" (defArgs s_law_part) (defBody s_law_part) (defScope s_law_part) [] [] f fd) (c_law_take : Cal P w K mg base k "_law_take" ["_law_box", "_law_many"] sp_law_take) (c_law_part : Cal P w K mg base k "_law_part" ["_law_box", "_law_deep"] sp_law_part) {sp : Sp}
    (len : ∀ vs H Q E, sp vs H Q E → vs.length = 2)
    (rd : ∀ vs H Q E, sp vs H Q E → t_law_part K sp_law_take sp_law_part { nx := fun _ H' => Q .non H', rt := Q } (start N_law_part vs) H) : FnOk P w K mg base CX0 (k + 1) f fd ["_law_box", "_law_deep"] sp := by
  refine D.ok sc_law_part len (fun cdv A outer s H vs Q E hr h => ⟨t_law_part K sp_law_take sp_law_part, PSs.nox ?_, rd vs H Q E h⟩)
  · unfold t_law_part
    exact pss_cons (ps_set (i := 2) sc_law_part.nd rfl (by first | exact Or.inl rfl | exact Or.inr rfl) (pc c_law_take hr (pa_cons (pv 0) (pa_cons (pe_int) (pa_nil)))))
        (pss_cons (ps_if (pt_cmpR op_lt (pv 2) (pe_int) (nomark _)) (pss_one (ps_ret (pe_tup (pa_cons (pe_str) (pa_cons (pc c_law_take hr (pa_cons (pv 0) (pa_cons (pe_int) (pa_nil)))) (pa_nil)))))) (pss_nil))
        (pss_cons (ps_if (PW.pt (pw_or (pt_cmpR op_eq (pv 1) (pe_int) (nomark _)) (pw_or1 (pt_cmpR op_eq (pv 2) (pe_int) (nomark _))))) (pss_one (ps_ret (pe_tup (pa_cons (pe_str) (pa_cons (pc c_law_take hr (pa_cons (pv 0) (pa_cons (pe_int) (pa_nil)))) (pa_nil)))))) (pss_nil))
        (pss_cons (ps_if (pt_cmpR op_lt (pv 2) (pe_int) (nomark _)) (pss_one (ps_ret (pe_tup (pa_cons (pe_str) (pa_cons (pc c_law_take hr (pa_cons (pv 0) (pa_cons (pe_int) (pa_nil)))) (pa_nil)))))) (pss_nil))
        (pss_cons (ps_set (i := 3) sc_law_part.nd rfl (by first | exact Or.inl rfl | exact Or.inr rfl) (pe_ix ix_list (pe_lst (pa_cons (pe_str) (pa_cons (pe_str) (pa_cons (pe_str) (pa_cons (pe_str) (pa_nil)))))) (pc c_law_take hr (pa_cons (pv 0) (pa_cons (pe_int) (pa_nil)))) (fun _ _ => rfl)))
        (pss_cons (ps_set (i := 4) sc_law_part.nd rfl (by first | exact Or.inl rfl | exact Or.inr rfl) (pc c_law_part hr (pa_cons (pv 0) (pa_cons (pe_op op_sub (pv 1) (pe_int)) (pa_nil)))))
        (pss_one (ps_ret (pe_tup (pa_cons (pv 3) (pa_cons (pv 4) (pa_cons (pc c_law_part hr (pa_cons (pv 0) (pa_cons (pe_op op_sub (pv 1) (pe_int)) (pa_nil)))) (pa_nil))))))))))))

abbrev s_law_value : Stmt := topS 7
abbrev N_law_value : List Str := ["_law_part_here", "_law_slots", "_law_word", "_law_one", "_law_two"]
theorem sc_law_value : FnScope N_law_value ["_law_part_here", "_law_slots"] (defScope s_law_value) := ⟨rfl, rfl, rfl, by decide +kernel, rfl, by decide +kernel, by decide +kernel⟩
theorem ok_law_value {sp_law_value : Sp} {f : Addr} {fd : FuncData} (D : FunD K "_law_value" "_law_value" (defArgs s_law_value) (defBody s_law_value) (defScope s_law_value) [] [] f fd) (c_law_value : Cal P w K mg base k "_law_value" ["_law_part_here", "_law_slots"] sp_law_value) (B_int : mg "int" = none) {sp : Sp}
    (len : ∀ vs H Q E, sp vs H Q E → vs.length = 2)
    (rd : ∀ vs H Q E, sp vs H Q E → t_law_value K sp_law_value { nx := fun _ H' => Q .non H', rt := Q } (start N_law_value vs) H) : FnOk P w K mg base CX0 (k + 1) f fd ["_law_part_here", "_law_slots"] sp := by
  refine D.ok sc_law_value len (fun cdv A outer s H vs Q E hr h => ⟨t_law_value K sp_law_value, PSs.nox ?_, rd vs H Q E h⟩)
  · unfold t_law_value
    exact pss_cons (ps_set (i := 2) sc_law_value.nd rfl (by first | exact Or.inl rfl | exact Or.inr rfl) (pe_ix ix_tup (pv 0) (pe_int) (fun _ _ => rfl)))
        (pss_cons (ps_if (pt_cmpR op_eq (pv 2) (pe_str) (nomark _)) (pss_one (ps_ret (pe_ix ix_tup (pv 0) (pe_int) (fun _ _ => rfl)))) (pss_nil))
        (pss_cons (ps_if (pt_cmpR op_eq (pv 2) (pe_str) (nomark _)) (pss_one (ps_ret (pe_ix ix_list (pv 1) (pe_ix ix_tup (pv 0) (pe_int) (fun _ _ => rfl)) (fun _ _ => rfl)))) (pss_nil))
        (pss_cons (ps_set (i := 3) sc_law_value.nd rfl (by first | exact Or.inl rfl | exact Or.inr rfl) (pc c_law_value hr (pa_cons (pe_ix ix_tup (pv 0) (pe_int) (fun _ _ => rfl)) (pa_cons (pv 1) (pa_nil)))))
        (pss_cons (ps_set (i := 4) sc_law_value.nd rfl (by first | exact Or.inl rfl | exact Or.inr rfl) (pc c_law_value hr (pa_cons (pe_ix ix_tup (pv 0) (pe_int) (fun _ _ => rfl)) (pa_cons (pv 1) (pa_nil)))))
        (pss_cons (ps_if (pt_cmpR op_eq (pv 2) (pe_str) (nomark _)) (pss_one (ps_ret (pe_callTy call_int1 (by rfl) B_int (by decide +kernel) (pa_cons (pe_cmpR op_lt (pv 3) (pv 4) (nomark _)) (pa_nil))))) (pss_nil))
        (pss_cons (ps_if (pt_cmpR op_eq (pv 2) (pe_str) (nomark _)) (pss_one (ps_ret (pe_op op_mod (pe_op op_add (pv 3) (pv 4)) (pe_int)))) (pss_nil))
        (pss_cons (ps_if (pt_cmpR op_eq (pv 2) (pe_str) (nomark _)) (pss_one (ps_ret (pe_op op_mod (pe_op op_sub (pe_op op_add (pv 3) (pe_op op_mul (pe_int) (pe_int))) (pv 4)) (pe_int)))) (pss_nil))
        (pss_one (ps_ret (pe_op op_mod (pe_op op_mul (pv 3) (pv 4)) (pe_int)))))))))))

abbrev s_law : Stmt := topS 8
abbrev N_law : List Str := ["_law_script", "_law_box", "_law_slots", "_law_k", "_law_part_here", "_law_kept", "_law_told"]
theorem sc_law : FnScope N_law ["_law_script"] (defScope s_law) := ⟨rfl, rfl, rfl, by decide +kernel, rfl, by decide +kernel, by decide +kernel⟩
theorem ok_law {sp_law_take : Sp} {sp_law_part : Sp} {sp_value_of : Sp} {sp_law_value : Sp} {f : Addr} {fd : FuncData} (D : FunD K "law" "law" (defArgs s_law) (defBody s_law) (defScope s_law) [] [] f fd) (B_list : mg "list" = none) (B_range : mg "range" = none) (c_law_take : Cal P w K mg base k "_law_take" ["_law_box", "_law_many"] sp_law_take) (c_law_part : Cal P w K mg base k "_law_part" ["_law_box", "_law_deep"] sp_law_part) (c_value_of : Cal P w K mg base k "value_of" ["part", "slots"] sp_value_of) (B_isinstance : mg "isinstance" = none) (B_int : mg "int" = none) (B_bool : mg "bool" = none) (c_law_value : Cal P w K mg base k "_law_value" ["_law_part_here", "_law_slots"] sp_law_value) {sp : Sp}
    (len : ∀ vs H Q E, sp vs H Q E → vs.length = 1)
    (rd : ∀ vs H Q E, sp vs H Q E → t_law K sp_law_take sp_law_part sp_value_of sp_law_value { nx := fun _ H' => Q .non H', rt := Q } (start N_law vs) H) : FnOk P w K mg base CX0 (k + 1) f fd ["_law_script"] sp := by
  refine D.ok sc_law len (fun cdv A outer s H vs Q E hr h => ⟨t_law K sp_law_take sp_law_part sp_value_of sp_law_value, PSs.nox ?_, rd vs H Q E h⟩)
  · unfold t_law
    exact pss_cons (ps_set (i := 1) sc_law.nd rfl (by first | exact Or.inl rfl | exact Or.inr rfl) (pe_callTy call_list_of (by rfl) B_list (by decide +kernel) (pa_cons (pv 0) (pa_nil))))
        (pss_cons (ps_setLc (i := 2) (own := [("_law_k", 3)]) (g := gName 3) rfl sc_law.nd rfl rfl (sw_true rfl rfl rfl (by decide +kernel)) (pi_range1 (by rfl) B_range (pa_cons (pe_int) (pa_nil))) (blkOk_by (own := [("_law_k", 3)]) (N := N_law) (sc := defScope s_law) (by decide +kernel)) (fun _ _ _ _ _ => pg_name (i := 3) sc_law.nd rfl (Or.inl rfl)) (fun _ _ _ _ _ => pts_nil) (fun _ _ _ _ _ => pc c_law_take hr (pa_cons (pv 1) (pa_cons (pe_int) (pa_nil)))))
        (pss_cons (ps_set (i := 4) sc_law.nd rfl (by first | exact Or.inl rfl | exact Or.inr rfl) (pc c_law_part hr (pa_cons (pv 1) (pa_cons (pe_int) (pa_nil)))))
        (pss_cons (ps_set (i := 5) sc_law.nd rfl (by first | exact Or.inl rfl | exact Or.inr rfl) (pe_callTy call_list_of (by rfl) B_list (by decide +kernel) (pa_cons (pv 2) (pa_nil))))
        (pss_cons (ps_set (i := 6) sc_law.nd rfl (by first | exact Or.inl rfl | exact Or.inr rfl) (pc c_value_of hr (pa_cons (pv 4) (pa_cons (pv 2) (pa_nil)))))
        (pss_cons (ps_if (PW.pt (pw_or (pt_not (pt_val (pe_callB call_isi (by rfl) B_isinstance (by decide +kernel) (pa_cons (pv 6) (pa_cons (pe_bltn (by rfl) B_int (by decide +kernel) rfl) (pa_nil)))))) (pw_or1 (pt_val (pe_callB call_isi (by rfl) B_isinstance (by decide +kernel) (pa_cons (pv 6) (pa_cons (pe_bltn (by rfl) B_bool (by decide +kernel) rfl) (pa_nil)))))))) (pss_one (ps_ret (pe_bl))) (pss_nil))
        (pss_one (ps_ret (pe_and (pe_cmpR op_eq (pv 6) (pc c_law_value hr (pa_cons (pv 4) (pa_cons (pv 5) (pa_nil)))) (nomark _)) (pe_one (pe_cmpR (op_eqD hr.units) (pv 2) (pv 5) (nomark _)))))))))))

end
def d_joined : He.DefD := ⟨("joined", none), "joined", "joined", defArgs s_joined, defBody s_joined, defScope s_joined, [], []⟩
def d_value_of : He.DefD := ⟨("value_of", none), "value_of", "value_of", defArgs s_value_of, defBody s_value_of, defScope s_value_of, [], []⟩
def d_law_take : He.DefD := ⟨("_law_take", none), "_law_take", "_law_take", defArgs s_law_take, defBody s_law_take, defScope s_law_take, [], []⟩
def d_law_part : He.DefD := ⟨("_law_part", none), "_law_part", "_law_part", defArgs s_law_part, defBody s_law_part, defScope s_law_part, [], []⟩
def d_law_value : He.DefD := ⟨("_law_value", none), "_law_value", "_law_value", defArgs s_law_value, defBody s_law_value, defScope s_law_value, [], []⟩
def d_law : He.DefD := ⟨("law", none), "law", "law", defArgs s_law, defBody s_law, defScope s_law, [], []⟩
def fn : List He.DefD := [d_joined, d_value_of, d_law_take, d_law_part, d_law_value, d_law]
def fa : List He.Fa := [.glo "joined", .glo "value_of", .glo "_law_take", .glo "_law_part", .glo "_law_value", .glo "law", .int "MODULE" 10007, .free "int", .free "list", .free "range", .free "isinstance", .free "bool"]
abbrev loose : List PySem.Str := ["MODULE", "joined", "value_of", "_law_take", "_law_part", "_law_value"]
abbrev R : PySem.W.OpenRow := PySem.W.OpenLaw.row PySem.Challenge.rw_leaps_k02_values
abbrev hk : PySem.W.Hook := He.hookD 5 fa fn
def ob (s : PySem.W.SharedT) : He.AlD := He.obsDG 5 fa fn (HandSHeadRun.getT s)
theorem ob_eq (s : PySem.W.SharedT) : ob s = hk.obs s.abs := He.obsDG_eq (HandSHeadRun.getT_eq s)
set_option maxHeartbeats 0 in
theorem run (w : World) : HandSHeadRun.RunEq R (PySem.W.view R.prog [8]) hk ob 800 loose w := by
  intro os
  kernel_rfl
theorem facts {w : World} {K : PySem.W.Frag} {h : Heap} {mg : Str → Option Value} {f : Addr} (X : K.In h) (G : h.Ns mainGlobals mg) (hfa : mg ("law" : Str) = some (.ref f)) (c : He.SaysD fa fn K) :
    ∃ fd : FuncData, (∀ (s : Shared) (v : Value), BindsTo s fd ⟨[v], []⟩ [("_law_script", v)]) ∧ ∀ base : Heap, K.In base → base.Ns mainGlobals mg → FnOk PySem.Challenge.pw_leaps_k02_values w K mg base CX0 7 f fd ["_law_script"] (spLaw K) := by
  obtain ⟨fd_joined, D_joined⟩ := c.def_ 0 (d := d_joined) rfl
  obtain ⟨fd_value_of, D_value_of⟩ := c.def_ 1 (d := d_value_of) rfl
  obtain ⟨fd_law_take, D_law_take⟩ := c.def_ 2 (d := d_law_take) rfl
  obtain ⟨fd_law_part, D_law_part⟩ := c.def_ 3 (d := d_law_part) rfl
  obtain ⟨fd_law_value, D_law_value⟩ := c.def_ 4 (d := d_law_value) rfl
  obtain ⟨fd_law, D_law⟩ := c.def_ 5 (d := d_law) rfl
  have G_joined := He.glo_ok X G (c.fact 0 (f := .glo "joined") rfl)
  have G_value_of := He.glo_ok X G (c.fact 1 (f := .glo "value_of") rfl)
  have G__law_take := He.glo_ok X G (c.fact 2 (f := .glo "_law_take") rfl)
  have G__law_part := He.glo_ok X G (c.fact 3 (f := .glo "_law_part") rfl)
  have G__law_value := He.glo_ok X G (c.fact 4 (f := .glo "_law_value") rfl)
  have G_law := He.glo_ok X G (c.fact 5 (f := .glo "law") rfl)
  have Gc_MODULE := He.int_ok X G (c.fact 6 (f := .int "MODULE" 10007) rfl)
  have B_int := He.free_ok X G (c.fact 7 (f := .free "int") rfl)
  have B_list := He.free_ok X G (c.fact 8 (f := .free "list") rfl)
  have B_range := He.free_ok X G (c.fact 9 (f := .free "range") rfl)
  have B_isinstance := He.free_ok X G (c.fact 10 (f := .free "isinstance") rfl)
  have B_bool := He.free_ok X G (c.fact 11 (f := .free "bool") rfl)
  have eLaw := hfa.symm.trans G_law
  cases eLaw
  have b_joined := FunD.bindsN (ps := ["word", "one", "two"]) D_joined fun _ _ _ _ _ _ us hl => match us, hl with | [_, _, _], _ => rfl
  have b_value_of := FunD.bindsN (ps := ["part", "slots"]) D_value_of fun _ _ _ _ _ _ us hl => match us, hl with | [_, _], _ => rfl
  have b_law_take := FunD.bindsN (ps := ["_law_box", "_law_many"]) D_law_take fun _ _ _ _ _ _ us hl => match us, hl with | [_, _], _ => rfl
  have b_law_part := FunD.bindsN (ps := ["_law_box", "_law_deep"]) D_law_part fun _ _ _ _ _ _ us hl => match us, hl with | [_, _], _ => rfl
  have b_law_value := FunD.bindsN (ps := ["_law_part_here", "_law_slots"]) D_law_value fun _ _ _ _ _ _ us hl => match us, hl with | [_, _], _ => rfl
  have b_law := FunD.bindsA (ps := ["_law_script"]) D_law fun _ _ _ _ _ _ us hl => match us, hl with | [_], _ => rfl
  refine ⟨fd_law, fun s v => b_law s [v] rfl, fun base _ _ => ?_⟩
  have c_joined : Cal PySem.Challenge.pw_leaps_k02_values w K mg base 1 "joined" ["word", "one", "two"] spJoined := ⟨_, _, ok_joined (k := 0) D_joined Gc_MODULE B_int (fun vs H Q E h => by obtain ⟨_, _, _, rfl, _⟩ := h; rfl) rd_joined, b_joined, D_joined.kp, G_joined⟩
  have c_value_of := Cal.rec (P := PySem.Challenge.pw_leaps_k02_values) (w := w) (base := base) (j := 1) (sp := spVal K) b_value_of D_value_of.kp G_value_of spVal_zero (fun n c => ok_value_of (k := 1 + n) D_value_of (c_joined.mono (by omega)) c (fun vs H Q E h => by obtain ⟨_, _, _, _, rfl, _⟩ := h; rfl) rd_value_of) 5
  have c_law_take : Cal PySem.Challenge.pw_leaps_k02_values w K mg base 1 "_law_take" ["_law_box", "_law_many"] spTake := ⟨_, _, ok_law_take (k := 0) D_law_take  (fun vs H Q E h => by obtain ⟨_, _, _, rfl, _⟩ := h; rfl) rd_take, b_law_take, D_law_take.kp, G__law_take⟩
  have c_law_part := Cal.rec (P := PySem.Challenge.pw_leaps_k02_values) (w := w) (base := base) (j := 1) (sp := spPart K) b_law_part D_law_part.kp G__law_part spPart_zero (fun n c => ok_law_part (k := 1 + n) D_law_part (c_law_take.mono (by omega)) c (fun vs H Q E h => by obtain ⟨_, _, _, rfl, _⟩ := h; rfl) rd_law_part) 5
  have c_law_value := Cal.rec (P := PySem.Challenge.pw_leaps_k02_values) (w := w) (base := base) (j := 0) (sp := spVal K) b_law_value D_law_value.kp G__law_value spVal_zero (fun n c => ok_law_value (k := 0 + n) D_law_value c B_int (fun vs H Q E h => by obtain ⟨_, _, _, _, rfl, _⟩ := h; rfl) rd_law_value) 5
  exact ok_law (k := 6) D_law B_list B_range (c_law_take.mono (by decide)) (c_law_part.mono (by decide)) (c_value_of.mono (by decide)) B_isinstance B_int B_bool (c_law_value.mono (by decide)) (fun vs H Q E h => by obtain ⟨_, _, rfl, _⟩ := h; rfl) rd_law
end Lr
open PySem PySem.W PySem.Calls PyProof.Rows
set_option maxRecDepth 100000 in
set_option maxHeartbeats 0 in
theorem PySem.Challenge.cw_leaps_k02_values_holds : PySem.Challenge.rw_leaps_k02_values.Holds := by
  w_on; o_law
  refine HandSHeadRun.head_any (r := OpenLaw.row PySem.Challenge.rw_leaps_k02_values) (q := view (OpenLaw.row PySem.Challenge.rw_leaps_k02_values).prog [8]) (H := Lr.hk) (ob := Lr.ob) (M := 800) (loose := Lr.loose) (d := HandSHeadRun.topDef (OpenLaw.row PySem.Challenge.rw_leaps_k02_values).prog 8) (kwd := []) Lr.ob_eq
    (by kernel_rfl) (fun s => by kernel_rfl) Lr.run (by kernel_rfl) (by kernel_rfl) (by kernel_rfl) (by rfl) (by first | assumption | decide +kernel) (by decide +kernel) ⟨rfl, rfl, rfl, rfl, rfl, by decide +kernel⟩ ?hw ?hc
  case hw => w_witness2
  case hc =>
    refine L2.walk_ofE (l := PySem.Challenge.rw_leaps_k02_values) (n := 63) (k := 7) (x := "_law_script") (CX := L2.CX0) rfl (by decide) (by kernel_rfl) ⟨rfl, by decide, by decide⟩ ?F (fun _ _ _ _ z => z)
    intro w mg fa h Y G hmg0
    obtain ⟨K, KX, c⟩ := Y
    have hmg : mg ("law" : PySem.Str) = some (.ref fa) := by
      have e : (HandSHeadRun.topDef (OpenLaw.row PySem.Challenge.rw_leaps_k02_values).prog 8).name = ("law" : PySem.Str) := by kernel_rfl
      rw [← e]
      exact hmg0
    obtain ⟨fd, hb, hF⟩ := Lr.facts (w := w) KX G hmg c
    exact ⟨K, fd, Lr.spLaw K, KX, hb, fun H a ns hl _ hS => ⟨a, ns, rfl, hS, hl, fun _ => rfl⟩, hF⟩
