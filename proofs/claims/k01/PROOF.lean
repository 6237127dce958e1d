import PyProof.Rows.All
import Wide.All
import OpenK.AllK
import Wide.FinOn
import HandS.ForMost
import HandS.IsInst
import HandS.Wide
import HandS.TupAny
import HandS.Walk
import HandS.Evl
import KE.KStateDown
import HandS.WordsExc
import HandS.Defaults
import HandS.Head0
import HandS.Head1
import HandS.Head2
import HandS.HeadEnd
import HandS.HeadHook1
import HandS.HeadHook2
import PySem.Challenge.RW_leaps_k01_kinds_under_kinds
set_option Elab.async false
set_option linter.all false
set_option maxRecDepth 100000
set_option maxHeartbeats 4000000
/-! Lb: what every leaps law leans on: callees by name, the growing heap, data at values. -/
namespace Lp
open PySem PySem.Spec PyProof.Rows L2

/-! ### callees -/
/-- a def of the module, by its name, with its promise -/
def Cal (P : Program) (w : World) (K : PySem.W.Frag) (mg : Str → Option Value) (base : Heap) (k : Nat) (x : Str) (ps : List Str) (sp : Sp) : Prop :=
  ∃ f fd, FnOk P w K mg base CX0 k f fd ps sp ∧ Binds K fd ps [] ∧ PySem.W.keepIn K (.ref f) = true ∧ mg x = some (.ref f)
/-- a method of the class at C -/
def CalM (P : Program) (w : World) (K : PySem.W.Frag) (mg : Str → Option Value) (base : Heap) (k : Nat) (C : Addr) (m : Str) (ps : List Str) (sp : Sp) : Prop :=
  ∃ f fd, FnOk P w K mg base CX0 k f fd ps sp ∧ Binds K fd ps [] ∧ Cls K C ∧ Meth K C m f
/-- a class of the module that is made by its own __init__ -/
def CalC (P : Program) (w : World) (K : PySem.W.Frag) (mg : Str → Option Value) (base : Heap) (k : Nat) (x : Str) (C : Addr) (ps : List Str) (sp : Sp) : Prop :=
  ∃ f fd, FnOk P w K mg base CX0 k f fd ps sp ∧ Binds K fd ps [] ∧ Mk K C f ∧ mg x = some (.ref C)
section
variable {P : Program} {w : World} {K : PySem.W.Frag} {mg : Str → Option Value} {base : Heap} {j k : Nat} {x m : Str} {C : Addr} {ps : List Str} {sp sp' : Sp}
theorem Cal.mono (c : Cal P w K mg base j x ps sp) (h : j ≤ k) : Cal P w K mg base k x ps sp :=
  let ⟨f, fd, F, r⟩ := c; ⟨f, fd, F.mono h, r⟩
theorem Cal.imp (c : Cal P w K mg base j x ps sp) (h : ∀ vs H Q E, sp' vs H Q E → sp vs H Q E) : Cal P w K mg base j x ps sp' :=
  let ⟨f, fd, F, r⟩ := c; ⟨f, fd, F.imp h, r⟩
theorem CalM.mono (c : CalM P w K mg base j C m ps sp) (h : j ≤ k) : CalM P w K mg base k C m ps sp :=
  let ⟨f, fd, F, r⟩ := c; ⟨f, fd, F.mono h, r⟩
theorem CalM.imp (c : CalM P w K mg base j C m ps sp) (h : ∀ vs H Q E, sp' vs H Q E → sp vs H Q E) : CalM P w K mg base j C m ps sp' :=
  let ⟨f, fd, F, r⟩ := c; ⟨f, fd, F.imp h, r⟩
theorem CalC.mono (c : CalC P w K mg base j x C ps sp) (h : j ≤ k) : CalC P w K mg base k x C ps sp :=
  let ⟨f, fd, F, r⟩ := c; ⟨f, fd, F.mono h, r⟩
end
section
variable {X : Cx} {k : Nat} {C : Addr} {x m : Str} {ps : List Str} {sp : Sp} {p pos apos : Pos} {e o : Expr} {es : List Expr} {ta : TE} {t : TA}
theorem pc (c : Cal X.prog X.w X.K X.mg X.base k x ps sp) (hr : Room k X.A) (ha : PA X (e :: es) t) (hg : Gl X x := by rfl) (hdb : (x == ("__debug__" : Str)) = false := by decide)
    (he : starEach (e :: es) X.env = (false, eval e X.env) :: starEach es X.env := by rfl) (hpl : (backTo pos (starEach es X.env)).any (·.1) = false := by rfl) : PE X (.Call (.Name x p) (e :: es) [] pos) (tCall sp [] E0 t) := by
  obtain ⟨f, fd, F, b, kp, hm⟩ := c
  exact pe_call F hr hg hm kp b .nil pass0 ha hdb he hpl
theorem pc0 (c : Cal X.prog X.w X.K X.mg X.base k x ps sp) (hr : Room k X.A) (hg : Gl X x := by rfl) (hdb : (x == ("__debug__" : Str)) = false := by decide) : PE X (.Call (.Name x p) [] [] pos) (tCall sp [] E0 tNil) := by
  obtain ⟨f, fd, F, b, kp, hm⟩ := c
  exact pe_call0 F hr hg hm kp b .nil pass0 hdb
theorem pm {pl : Sem Bool} (c : CalM X.prog X.w X.K X.mg X.base k C m ps sp) (hr : Room k X.A) (he : PE X o ta) (ha : PA X (e :: es) t)
    (hst : starEach (e :: es) X.env = (false, eval e X.env) :: starEach es X.env := by rfl) (hpl : (backTo pos (starEach es X.env)).any (·.1) = false := by rfl)
    (ht : eval (.Call (.Attribute o m apos) (e :: es) [] pos) X.env = (do
      let ov ← eval o X.env
      standAt apos.atName
      let (f, first) ← holding [ov] (getMethod ov m pl)
      callWith pos f first (backTo pos (starEach (e :: es) X.env)) (backToKw pos (keywordEach [] X.env))) := by rfl) :
    PE X (.Call (.Attribute o m apos) (e :: es) [] pos) (tMeth C m sp [] E0 ta t) := by
  obtain ⟨f, fd, F, b, cl, hm⟩ := c
  exact pe_meth he cl hm F hr b .nil pass0 ha hst hpl ht
theorem pm0 {pl : Sem Bool} (c : CalM X.prog X.w X.K X.mg X.base k C m ps sp) (hr : Room k X.A) (he : PE X o ta)
    (ht : eval (.Call (.Attribute o m apos) [] [] pos) X.env = (do
      let ov ← eval o X.env
      standAt apos.atName
      let (f, first) ← holding [ov] (getMethod ov m pl)
      callWith pos f first (backTo pos (starEach [] X.env)) (backToKw pos (keywordEach [] X.env))) := by rfl) :
    PE X (.Call (.Attribute o m apos) [] [] pos) (tMeth C m sp [] E0 ta tNil) := by
  obtain ⟨f, fd, F, b, cl, hm⟩ := c
  exact pe_meth0 he cl hm F hr b .nil pass0 ht
theorem pk (c : CalC X.prog X.w X.K X.mg X.base k x C ps sp) (hr : Room (k + 1) X.A) (ha : PA X (e :: es) t) (hg : Gl X x := by rfl) (hdb : (x == ("__debug__" : Str)) = false := by decide)
    (he : starEach (e :: es) X.env = (false, eval e X.env) :: starEach es X.env := by rfl) (hpl : (backTo pos (starEach es X.env)).any (·.1) = false := by rfl) : PE X (.Call (.Name x p) (e :: es) [] pos) (tMake C sp [] E0 t) := by
  obtain ⟨f, fd, F, b, M, hm⟩ := c
  exact pe_make M F hr hg hm b .nil pass0 ha hdb he hpl
theorem pk0 (c : CalC X.prog X.w X.K X.mg X.base k x C ps sp) (hr : Room (k + 1) X.A) (hg : Gl X x := by rfl) (hdb : (x == ("__debug__" : Str)) = false := by decide) : PE X (.Call (.Name x p) [] [] pos) (tMake C sp [] E0 tNil) := by
  obtain ⟨f, fd, F, b, M, hm⟩ := c
  exact pe_make0 M F hr hg hm b .nil pass0 hdb
end

/-! ### short names of readings -/
abbrev rAdI : R2 := rI0 fun i j => .int (i + j)
abbrev rSbI : R2 := rI0 fun i j => .int (i - j)
abbrev rMlI : R2 := rI CMul fun i j => .int (i * j)
abbrev rDvW : R2 := rI CDivW fun i j => .int (i / j)
abbrev rMdI : R2 := rI (fun _ j => 0 < j) fun i j => .int (i % j)
abbrev rLt : R2 := rI0 fun i j => .bl (decide (i < j))
abbrev rLe : R2 := rI0 fun i j => .bl (decide (i ≤ j))
abbrev rGt : R2 := rI0 fun i j => .bl (decide (j < i))
abbrev rGe : R2 := rI0 fun i j => .bl (decide (j ≤ i))
abbrev rIsN : R2 := fun x y H Q => y = .non ∧ Q (.bl (decide (x = .non))) H
abbrev rNtN : R2 := fun x y H Q => y = .non ∧ Q (.bl (!decide (x = .non))) H
abbrev rNeg : V → Hp → VK → Prop := rU fun i => .int (-i)
abbrev rCatS : R2 := fun x y H Q => ∃ i j, x = .str i ∧ y = .str j ∧ i.length + j.length ≤ sizeLine ∧ Q (.str (i ++ j)) H
abbrev rInt1 : List V → Hp → VK → Prop := fun xs H Q => (∃ i, xs = [.int i] ∧ Q (.int i) H) ∨ ∃ k, xs = [.bl k] ∧ Q (.int (if k then 1 else 0)) H
abbrev rLenQ (K : PySem.W.Frag) : List V → Hp → VK → Prop := fun xs H Q => ∃ p ys, xs = [.ref p] ∧ (SqL K H p ys ∨ SqT K H p ys) ∧ Q (.int ys.length) H
abbrev rTupOf (K : PySem.W.Frag) : List V → Hp → VK → Prop := fun xs H Q => ∃ p ys, xs = [.ref p] ∧ ((SqL K H p ys ∧ ∀ l, H l = none → Q (.ref l) (upd H l (.tup ys))) ∨ (SqT K H p ys ∧ Q (.ref p) H))
abbrev rLstOf (K : PySem.W.Frag) : List V → Hp → VK → Prop := fun xs H Q => ∃ p ys, xs = [.ref p] ∧ (SqL K H p ys ∨ SqT K H p ys) ∧ ∀ l, H l = none → Q (.ref l) (upd H l (.lst ys))

/-! ### the heap grows: all but the objects in B stands as it stood -/
def Kp (B : Addr → Prop) (H H' : Hp) : Prop := ∀ a o, H a = some o → ¬ B a → H' a = some o
theorem Kp.refl (B : Addr → Prop) (H : Hp) : Kp B H H := fun _ _ h _ => h
theorem Kp.trans {B : Addr → Prop} {H H1 H2 : Hp} (a : Kp B H H1) (b : Kp B H1 H2) : Kp B H H2 := fun x o h n => b x o (a x o h n) n
theorem Kp.mono {B B' : Addr → Prop} {H H' : Hp} (a : Kp B H H') (h : ∀ x, B x → B' x) : Kp B' H H' := fun x o e n => a x o e fun z => n (h x z)
theorem Kp.same {B : Addr → Prop} {H H' : Hp} (a : Same H H') : Kp B H H' := fun x o e _ => a x o e
theorem Kp.new {B : Addr → Prop} {H : Hp} {p : Addr} {o : HO} (h : H p = none) : Kp B H (upd H p o) := fun x u e _ => by rw [upd_ne (ne_of_none e h)]; exact e
theorem Kp.upd {B : Addr → Prop} {H : Hp} {p : Addr} {o : HO} (h : B p) : Kp B H (upd H p o) := fun x u e n => by
  rw [upd_ne (fun z => n (by rw [z]; exact h))]; exact e
/-- behind a change of what was not there at the start -/
theorem Kp.late {B : Addr → Prop} {H H1 : Hp} {p : Addr} {o : HO} (a : Kp B H H1) (h : H p = none) : Kp B H (L2.upd H1 p o) := fun x u e n => by
  rw [upd_ne (ne_of_none e h)]; exact a x u e n
theorem Kp.at {B : Addr → Prop} {H H' : Hp} {a : Addr} {o : HO} (k : Kp B H H') (h : H a = some o) (n : ¬ B a) : H' a = some o := k a o h n
/-- a place that is free behind was free ahead (unless in B) -/
theorem Kp.free {B : Addr → Prop} {H H' : Hp} (k : Kp B H H') {l : Addr} (h : H' l = none) (n : ¬ B l) : H l = none := by
  cases q : H l with
  | none => rfl
  | some o => rw [k l o q n] at h; cases h
/-- only what may change stands in B -/
def NoTup (B : Addr → Prop) (H : Hp) : Prop := ∀ a, B a → ∃ o, H a = some o ∧ (∀ xs, o ≠ .tup xs) ∧ ∀ ob u, o ≠ .frz ob u
theorem Kp.sqT {B : Addr → Prop} {K : PySem.W.Frag} {H H' : Hp} {a : Addr} {xs : List V} (k : Kp B H H') (nt : NoTup B H) (h : SqT K H a xs) : SqT K H' a xs := by
  rcases h with (h | ⟨o, h⟩) | h
  · refine .inl (.inl (k _ _ h fun z => ?_))
    obtain ⟨u, e, n, _⟩ := nt a z
    rw [h] at e; cases e; exact n _ rfl
  · refine .inl (.inr ⟨o, k _ _ h fun z => ?_⟩)
    obtain ⟨u, e, _, n⟩ := nt a z
    rw [h] at e; cases e; exact n _ _ rfl
  · exact .inr h
theorem Kp.sqL {B : Addr → Prop} {K : PySem.W.Frag} {H H' : Hp} {a : Addr} {xs : List V} (k : Kp B H H') (n : ¬ B a) (h : SqL K H a xs) : SqL K H' a xs := by
  rcases h with (h | ⟨o, h⟩) | h
  · exact .inl (.inl (k _ _ h n))
  · exact .inl (.inr ⟨o, k _ _ h n⟩)
  · exact .inr h

/-! ### decided tests -/
theorem ifT {A B : Prop} {c : Bool} (e : c = true) (h : A) : if c = true then A else B := by rw [if_pos e]; exact h
theorem ifF {A B : Prop} {c : Bool} (e : c = false) (h : B) : if c = true then A else B := by rw [if_neg (by rw [e]; decide)]; exact h
theorem ifB {A B : Prop} {c : Bool} (h1 : c = true → A) (h2 : c = false → B) : if c = true then A else B := by
  cases e : c with
  | true => exact ifT rfl (h1 e)
  | false => exact ifF rfl (h2 e)
theorem dT {p : Prop} [Decidable p] (h : p) : decide p = true := decide_eq_true h
theorem dF {p : Prop} [Decidable p] (h : ¬ p) : decide p = false := decide_eq_false h
end Lp

/-! L1: take, kinds, above, under. -/
namespace Lp
open PySem PySem.Spec PyProof.Rows L2
def t_law_take (K : PySem.W.Frag) : TS :=
  tSeq (tIfS (tTest (tOp (rEqD K) (tVar 0) (tLst (tNil)))) (tRet (tC (.int 0))) (tNext)) (tSeq (tAsg (tOp (rIxL K) (tVar 0) (tC (.int 0))) (gName 2)) (tSeq (tAsg (tOp rDvW (tVar 2) (tVar 1)) (gSub (tVar 0) (tC (.int 0)) rSetL)) (tSeq (tIfS (tOr (tTest (tOp rEq (tOp (rIxL K) (tVar 0) (tC (.int 0))) (tC (.int 0)))) (tTest (tOp rEq (tOp (rIxL K) (tVar 0) (tC (.int 0))) (tUn rNeg (tC (.int 1)))))) (tDrop (tBM K "list" rPopAt (tVar 0) (tCons (tC (.int 0)) (tNil)))) (tNext)) (tRet (tOp rMdI (tVar 2) (tVar 1))))))

def t_law_kinds (K : PySem.W.Frag) (sp_law_take : Sp) : TS :=
  tSeq (tAsg (tLst (tNil)) (gName 2)) (tSeq (tFor (iRng1 (tCons (tOp rAdI (tC (.int 1)) (tCall sp_law_take [] E0 (tCons (tVar 0) (tCons (tVar 1) (tNil))))) (tNil))) (gName 3) (tSeq (tAsg (tCall sp_law_take [] E0 (tCons (tVar 0) (tCons (tOp rAdI (tVar 3) (tC (.int 1))) (tNil)))) (gName 4)) (tDrop (tBM K "list" rAppend (tVar 2) (tCons (tOp (rIxL K) (tLst (tCons (tC .non) (tCons (tOp rSbI (tVar 4) (tC (.int 1))) (tNil)))) (tCB rInt1 (tCons (tOp rGt (tVar 4) (tC (.int 0))) (tNil)))) (tNil)))))) (tRet (tCB (rTupOf K) (tCons (tVar 2) (tNil)))))

def t_law_above (K : PySem.W.Frag) : TS :=
  tSeq (tAsg (tLst (tCons (tVar 1) (tNil))) (gName 2)) (tSeq (tFor (iRng1 (tCons (tCB (rLenQ K) (tCons (tVar 0) (tNil))) (tNil))) (gName 3) (tSeq (tAsg (tOp (rIxT K) (tVar 0) (tOp (rIxL K) (tVar 2) (tUn rNeg (tC (.int 1))))) (gName 4)) (tIfS (tTest (tOp rNtN (tVar 4) (tC .non))) (tDrop (tBM K "list" rAppend (tVar 2) (tCons (tVar 4) (tNil)))) (tNext)))) (tRet (tVar 2)))

def t_under (K : PySem.W.Frag) : TS :=
  tSeq (tWhile (tAnd (tTest (tOp rNtN (tVar 1) (tC .non))) (tTest (tOp rNe (tVar 1) (tVar 2)))) (tAsg (tOp (rIxT K) (tVar 0) (tVar 1)) (gName 1))) (tRet (tOp rNtN (tVar 1) (tC .non)))

theorem sz_lt1 {n : Nat} (h : n < 1000000) : n < sizeLine := Nat.lt_of_lt_of_le h (by decide)
theorem sz_le1 {n : Nat} (h : n ≤ 1000000) : n ≤ sizeLine := Nat.le_trans h (by decide)
abbrev N_law_take : List Str := ["_law_box", "_law_many", "_law_number"]

theorem dp_ints {K : PySem.W.Frag} {H : Hp} : ∀ l : List Int, DpAll K H (l.map V.int) (l.map PyData.int)
  | [] => .nil
  | i :: r => .cons (.int i) (dp_ints r)
theorem lay_ints : ∀ l : List Int, PyData.canLayAll0 (l.map PyData.int) = true
  | [] => rfl
  | i :: r => by simp [PyData.canLayAll0, PyData.canLay0, lay_ints r]
theorem dep_ints : ∀ l : List Int, PyData.depthAll (l.map PyData.int) ≤ 1
  | [] => by simp [PyData.depthAll]
  | i :: r => by have := dep_ints r; simp [PyData.depthAll, PyData.depth]; omega
theorem shaped_ints (l : List Int) : SeqAt.shaped (.list (l.map PyData.int)) = true := by
  have := dep_ints l
  simp [SeqAt.shaped, PyData.canLay0, lay_ints, PyData.depth]
  omega
theorem eqv_ints_nil (l : List Int) : PyData.eqv (.list (l.map PyData.int)) (.list []) = l.isEmpty := by
  cases l <;> simp [PyData.eqv, PyData.eqvAll]

theorem ixN_n {n j : Nat} (hj : j < n) : ixN n (j : Int) = some j := by
  unfold ixN
  rw [if_pos (by omega), if_pos (by omega)]
  simp
theorem seq0 {n : Nat} : seqIndex? 0 (n + 1) = some 0 := by
  unfold seqIndex?
  simp
/-- the box: a list of ints at b -/
def spTake : Sp := fun vs H Q _ => ∃ (b : Addr) (l : List Int) (m : Int), vs = [.ref b, .int m] ∧ H b = some (.lst (l.map V.int)) ∧ 0 < m ∧ m ≤ 2000000 ∧
  ∀ (r : Int) (l' : List Int) (H' : Hp), 0 ≤ r → r < m → H' b = some (.lst (l'.map V.int)) → Kp (fun x => x = b) H H' → Q (.int r) H'

theorem rd_take {K : PySem.W.Frag} (vs : List V) (H : Hp) (Q : VK) (E : XK) (h : spTake vs H Q E) : t_law_take K { nx := fun _ H' => Q .non H', rt := Q } (start N_law_take vs) H := by
  obtain ⟨b, l, m, rfl, hb, hm, hm2, k⟩ := h
  refine ⟨_, rfl, (by show (0 : Nat) ≤ sizeLine; decide), fun p hp => ?_⟩
  have hb1 : L2.upd H p (.lst []) b = some (.lst (l.map V.int)) := by rw [upd_ne (ne_of_none hb hp)]; exact hb
  refine ⟨_, _, .lst (SqL.of hb1) (dp_ints l), .lst (SqL.of upd_same) .nil, shaped_ints l, rfl, _, rfl, ?_⟩
  rw [eqv_ints_nil]
  refine ifB (fun e => ?_) (fun e => ?_)
  · exact k 0 l _ (by omega) hm hb1 (Kp.new hp)
  · cases l with
    | nil => cases e
    | cons x r =>
      refine ⟨_, rfl, b, _, 0, .int x, rfl, rfl, SqL.of hb1, atI_nat (j := 0) rfl, ?_⟩
      refine ⟨_, rfl, _, rfl, x, m, rfl, rfl, wide_div (b := 30) hm (by omega) (by decide) (by decide), ?_⟩
      refine ⟨_, rfl, b, _, 0, 0, rfl, rfl, hb1, ixN_n (j := 0) (Nat.succ_pos _), ?_⟩
      have hb2 : L2.upd (L2.upd H p (.lst [])) b (.lst ((V.int (x / m)) :: r.map V.int)) b = some (.lst ((V.int (x / m)) :: r.map V.int)) := upd_same
      have kp : Kp (fun y => y = b) H (L2.upd (L2.upd H p (.lst [])) b (.lst ((V.int (x / m)) :: r.map V.int))) := (Kp.new hp).trans (Kp.upd rfl)
      have fin : ∀ H', ((∃ l' : List Int, H' b = some (.lst (l'.map V.int))) ∧ Kp (fun y => y = b) H H') → (tRet (tOp rMdI (tVar 2) (tVar 1))) { nx := fun _ H' => Q .non H', rt := Q } [some (.ref b), some (.int m), some (.int x)] H' := by
        intro H' ⟨⟨l', e⟩, kp'⟩
        exact ⟨_, rfl, _, rfl, x, m, rfl, rfl, hm, k _ l' H' (Int.emod_nonneg _ (by omega)) (Int.emod_lt_of_pos _ hm) e kp'⟩
      have pop : (tSeq (tDrop (tBM K "list" rPopAt (tVar 0) (tCons (tC (.int 0)) tNil))) (tRet (tOp rMdI (tVar 2) (tVar 1)))) { nx := fun _ H' => Q .non H', rt := Q } [some (.ref b), some (.int m), some (.int x)] (L2.upd (L2.upd H p (.lst [])) b (.lst ((V.int (x / m)) :: r.map V.int))) := by
        refine ⟨_, rfl, .inl ⟨rfl, _, SqL.of hb2⟩, b, _, 0, 0, _, rfl, rfl, hb2, by decide, by decide, seq0, rfl, ?_⟩
        exact fin _ ⟨⟨r, upd_same⟩, kp.trans (Kp.upd rfl)⟩
      have go : (tRet (tOp rMdI (tVar 2) (tVar 1))) { nx := fun _ H' => Q .non H', rt := Q } [some (.ref b), some (.int m), some (.int x)] (L2.upd (L2.upd H p (.lst [])) b (.lst ((V.int (x / m)) :: r.map V.int))) := fin _ ⟨⟨(x / m) :: r, hb2⟩, kp⟩
      refine ⟨_, rfl, b, _, 0, _, rfl, rfl, SqL.of hb2, atI_nat (j := 0) rfl, rfl, _, rfl, ifB (fun _ => pop) fun _ => ?_⟩
      refine ⟨_, rfl, b, _, 0, _, rfl, rfl, SqL.of hb2, atI_nat (j := 0) rfl, _, rfl, rfl, _, rfl, ifB (fun _ => pop) fun _ => go⟩

/-! ### heaps that grow alone -/
theorem _root_.L2.Same.sqT {K : PySem.W.Frag} {H H' : Hp} {a : Addr} {xs : List V} (e : Same H H') (h : SqT K H a xs) : SqT K H' a xs := by
  rcases h with (h | ⟨o, h⟩) | h
  · exact .inl (.inl (e _ _ h))
  · exact .inl (.inr ⟨o, e _ _ h⟩)
  · exact .inr h
/-! ### kinds -/
def kindV : Option Nat → V
  | none => .non
  | some j => .int (j : Int)
def WfK (ks : List (Option Nat)) : Prop := ∀ (i j : Nat), ks[i]? = some (some j) → j < i
abbrev N_law_kinds : List Str := ["_law_box", "_law_most", "_law_kinds_here", "_law_k", "_law_above_here"]
def spKinds : Sp := fun vs H Q _ => ∃ (b : Addr) (l : List Int) (m : Int), vs = [.ref b, .int m] ∧ H b = some (.lst (l.map V.int)) ∧ 0 < m ∧ m ≤ 1000 ∧
  ∀ (a : Addr) (ks : List (Option Nat)) (l' : List Int) (H' : Hp), WfK ks → 0 < ks.length → (ks.length : Int) ≤ m → H' a = some (.tup (ks.map kindV)) → H a = none → H' b = some (.lst (l'.map V.int)) → Kp (fun x => x = b) H H' → Q (.ref a) H'
theorem WfK.snoc {ks : List (Option Nat)} (w : WfK ks) {o : Option Nat} (h : ∀ j, o = some j → j < ks.length) : WfK (ks ++ [o]) := by
  intro i j e
  by_cases hi : i < ks.length
  · rw [List.getElem?_append_left hi] at e
    exact w i j e
  · rw [List.getElem?_append_right (by omega)] at e
    have hi2 : i = ks.length := by
      have := (List.getElem?_eq_some_iff.mp e).1
      simp at this
      omega
    subst hi2
    simp at e
    exact h j e
theorem rd_kinds {K : PySem.W.Frag} (vs : List V) (H : Hp) (Q : VK) (E : XK) (h : spKinds vs H Q E) : t_law_kinds K spTake { nx := fun _ H' => Q .non H', rt := Q } (start N_law_kinds vs) H := by
  obtain ⟨b, l, m, rfl, hb, hm, hm2, k⟩ := h
  refine ⟨(by show (0 : Nat) ≤ sizeLine; decide), fun p hp => ?_⟩
  have hb1 : L2.upd H p (.lst []) b = some (.lst (l.map V.int)) := by rw [upd_ne (ne_of_none hb hp)]; exact hb
  refine ⟨_, rfl, _, rfl, b, l, m, rfl, hb1, hm, by omega, fun r l1 H1 h0 h1 hb2 kp1 => ?_⟩
  have kpH : Kp (fun x => x = b) H H1 := (Kp.new hp).trans kp1
  have pb : p ≠ b := fun e => by rw [e, hb] at hp; cases hp
  refine ⟨_, _, rfl, rfl, _, rfl, by omega, by omega, for_range (lo := 0) (n := (1 + r).toNat) (fun i σ H2 => ∃ (ks : List (Option Nat)) (l2 : List Int) (v3 v4 : Option V), σ = [some (.ref b), some (.int m), some (.ref p), v3, v4] ∧
      ks.length = i ∧ WfK ks ∧ H2 p = some (.lst (ks.map kindV)) ∧ H2 b = some (.lst (l2.map V.int)) ∧ Kp (fun x => x = b) H H2)
    ⟨[], l1, none, none, rfl, rfl, (by intro i j e; simp at e), kp1 p _ upd_same pb, hb2, kpH⟩ ?_ ?_⟩
  · rintro i σ H2 hi ⟨ks, l2, v3, v4, rfl, hl, wf, hp2, hb3, kp2⟩
    refine ⟨_, rfl, _, rfl, _, _, rfl, rfl, b, l2, _, rfl, hb3, by omega, by omega, fun x l3 H3 x0 x1 hb4 kp3 => ?_⟩
    have hp3 := kp3 p _ hp2 pb
    refine ⟨_, rfl, .inl ⟨rfl, _, SqL.of hp3⟩, _, rfl, _, _, rfl, rfl, (by show (2 : Nat) ≤ sizeLine; decide), fun q hq => ?_⟩
    have pq : p ≠ q := ne_of_none hp3 hq
    have bq : b ≠ q := ne_of_none hb4 hq
    have fin : ∀ (o : Option Nat), (∀ j, o = some j → j < ks.length) → (0 : Nat) < 1 → ks.length < sizeLine ∧ (∃ (ks' : List (Option Nat)) (l2 : List Int) (v3 v4 : Option V), [some (V.ref b), some (.int m), some (.ref p), some (.int (0 + (i : Int))), some (.int x)] = [some (.ref b), some (.int m), some (.ref p), v3, v4] ∧
      ks'.length = i + 1 ∧ WfK ks' ∧ (L2.upd (L2.upd H3 q (.lst [.non, .int (x - 1)])) p (.lst (ks.map kindV ++ [kindV o]))) p = some (.lst (ks'.map kindV)) ∧ (L2.upd (L2.upd H3 q (.lst [.non, .int (x - 1)])) p (.lst (ks.map kindV ++ [kindV o]))) b = some (.lst (l2.map V.int)) ∧ Kp (fun x => x = b) H (L2.upd (L2.upd H3 q (.lst [.non, .int (x - 1)])) p (.lst (ks.map kindV ++ [kindV o])))) := by
      intro o ho _
      refine ⟨sz_lt1 (by omega), ks ++ [o], l3, _, _, rfl, by simp; omega, wf.snoc ho, by rw [upd_same, List.map_append]; rfl, by rw [upd_ne pb.symm, upd_ne bq]; exact hb4, ?_⟩
      exact ((kp2.trans kp3).trans (Kp.new hq)).late hp
    refine ⟨_, rfl, _, _, rfl, rfl, .inr ⟨_, rfl, ?_⟩⟩
    by_cases hx : 0 < x
    · have e1 : (if decide ((0 : Int) < x) = true then (1 : Int) else 0) = 1 := by rw [if_pos (decide_eq_true hx)]
      rw [e1]
      obtain ⟨z1, z2⟩ := fin (some (x - 1).toNat) (fun j e => by cases e; omega) (by decide)
      have e2 : V.int (x - 1) = kindV (some (x - 1).toNat) := by show V.int (x - 1) = V.int ((x - 1).toNat : Int); rw [Int.toNat_of_nonneg (by omega)]
      refine ⟨q, _, 1, .int (x - 1), rfl, rfl, SqL.of upd_same, atI_nat (j := 1) rfl, p, ks.map kindV, _, rfl, rfl, by rw [upd_ne pq]; exact hp3, by rw [List.length_map]; exact z1, ?_⟩
      rw [← e2] at z2
      exact z2
    · have e1 : (if decide ((0 : Int) < x) = true then (1 : Int) else 0) = 0 := by rw [if_neg (by rw [decide_eq_false hx]; decide)]
      rw [e1]
      obtain ⟨z1, z2⟩ := fin none (fun j e => by cases e) (by decide)
      exact ⟨q, _, 0, .non, rfl, rfl, SqL.of upd_same, atI_nat (j := 0) rfl, p, ks.map kindV, _, rfl, rfl, by rw [upd_ne pq]; exact hp3, by rw [List.length_map]; exact z1, z2⟩
  · rintro σ H2 ⟨ks, l2, v3, v4, rfl, hl, wf, hp2, hb3, kp2⟩
    refine ⟨_, rfl, p, _, rfl, .inl ⟨SqL.of hp2, fun q hq => ?_⟩⟩
    have bq : b ≠ q := ne_of_none hb3 hq
    exact k q ks l2 _ wf (by omega) (by omega) upd_same (kp2.free hq fun e => bq e.symm) (by rw [upd_ne bq]; exact hb3) (kp2.trans (Kp.new hq))
/-! ### above, under -/
/-- the kinds that one comes to by going up -/
def chain (ks : List (Option Nat)) : Nat → Nat → List Nat
  | 0, _ => []
  | f + 1, k => k :: (match ks[k]? with
    | some (some j) => chain ks f j
    | _ => [])
theorem chain_fuel {ks : List (Option Nat)} (w : WfK ks) : ∀ (f g k : Nat), k < f → k < g → chain ks f k = chain ks g k
  | 0, _, _, h, _ => absurd h (Nat.not_lt_zero _)
  | _, 0, _, _, h => absurd h (Nat.not_lt_zero _)
  | f + 1, g + 1, k, hf, hg => by
    unfold chain
    cases e : ks[k]? with
    | none => rfl
    | some o =>
      cases o with
      | none => rfl
      | some j =>
        have := w k j e
        show k :: chain ks f j = k :: chain ks g j
        rw [chain_fuel w f g j (by omega) (by omega)]
/-- kind k is other, or lies under it -/
def under (ks : List (Option Nat)) (k o : Nat) : Bool := decide (o ∈ chain ks (k + 1) k)
theorem under_eq {ks : List (Option Nat)} (w : WfK ks) (k o : Nat) : under ks k o = (decide (k = o) || match ks[k]? with
    | some (some j) => under ks j o
    | _ => false) := by
  unfold under
  conv => lhs; unfold chain
  cases e : ks[k]? with
  | none => simp [eq_comm]
  | some q =>
    cases q with
    | none => simp [eq_comm]
    | some j =>
      have := w k j e
      show decide (o ∈ k :: chain ks k j) = (decide (k = o) || decide (o ∈ chain ks (j + 1) j))
      rw [chain_fuel w k (j + 1) j (by omega) (by omega)]
      simp [eq_comm]
/-- under(kinds, kind, other): kinds at a -/
def spUnder (K : PySem.W.Frag) : Sp := fun vs H Q _ => ∃ (a : Addr) (ks : List (Option Nat)) (k o : Nat), vs = [.ref a, .int (k : Int), .int (o : Int)] ∧ SqT K H a (ks.map kindV) ∧ WfK ks ∧ k < ks.length ∧ Q (.bl (under ks k o)) H
abbrev N_under : List Str := ["kinds", "kind", "other"]
theorem rd_under {K : PySem.W.Frag} (vs : List V) (H : Hp) (Q : VK) (E : XK) (h : spUnder K vs H Q E) : t_under K { nx := fun _ H' => Q .non H', rt := Q } (start N_under vs) H := by
  obtain ⟨a, ks, k, o, rfl, hS, wf, hk, q⟩ := h
  refine ⟨fun m σ H' => H' = H ∧ ∃ c : Option Nat, σ = [some (.ref a), some (kindV c), some (.int (o : Int))] ∧ (∀ j, c = some j → j < ks.length ∧ under ks j o = under ks k o) ∧ (c = none → under ks k o = false) ∧ m = (match c with
      | some j => j + 1
      | none => 0), ⟨_, rfl, some k, rfl, (fun j e => by cases e; exact ⟨hk, rfl⟩), (fun e => by cases e), rfl⟩, ?_⟩
  rintro m σ H' ⟨rfl, c, rfl, h1, h2, rfl⟩
  refine ⟨_, rfl, rfl, _, rfl, ?_⟩
  cases c with
  | none =>
    refine ifF rfl (ifF rfl ?_)
    refine ⟨_, rfl, rfl, ?_⟩
    show Q (.bl (!decide (V.non = V.non))) H'
    rw [dT rfl, ← show under ks k o = !true from h2 rfl]
    exact q
  | some j =>
    obtain ⟨hj, ej⟩ := h1 j rfl
    refine ifT rfl ⟨_, rfl, _, rfl, rfl, _, rfl, ?_⟩
    refine ifB (fun e => ?_) (fun e => ?_)
    · have ne : j ≠ o := fun z => by
        rw [z] at e
        simp [kindV] at e
      cases e2 : ks[j]? with
      | none => exact absurd (List.getElem?_eq_none_iff.mp e2) (by omega)
      | some d =>
        refine ⟨fun σ' H2 => ∃ m', m' < j + 1 ∧ (H2 = H' ∧ ∃ c : Option Nat, σ' = [some (.ref a), some (kindV c), some (.int (o : Int))] ∧ (∀ j, c = some j → j < ks.length ∧ under ks j o = under ks k o) ∧ (c = none → under ks k o = false) ∧ m' = (match c with
          | some j => j + 1
          | none => 0)), fun _ _ z => z, ?_⟩
        have eu := under_eq wf j o
        rw [ej, e2, decide_eq_false ne, Bool.false_or] at eu
        refine ⟨_, rfl, _, rfl, a, _, _, kindV d, rfl, rfl, hS, atI_nat (j := j) (by rw [List.getElem?_map, e2]; rfl), ?_⟩
        cases d with
        | none => exact ⟨0, by omega, rfl, none, rfl, (fun _ z => by cases z), (fun _ => eu), rfl⟩
        | some d =>
          have := wf j d e2
          exact ⟨d + 1, by omega, rfl, some d, rfl, (fun _ z => by cases z; exact ⟨by omega, eu.symm⟩), (fun z => by cases z), rfl⟩
    · have eo : j = o := by
        simp [kindV] at e
        omega
      subst eo
      have eu := under_eq wf j j
      rw [ej, dT rfl, Bool.true_or] at eu
      refine ⟨_, rfl, rfl, ?_⟩
      show Q (.bl (!decide (kindV (some j) = V.non))) H'
      rw [dF (by intro z; cases z)]
      rw [eu] at q
      exact q
/-- _law_above(kinds, kind) -/
def spAbove (K : PySem.W.Frag) : Sp := fun vs H Q _ => ∃ (a : Addr) (ks : List (Option Nat)) (k : Nat), vs = [.ref a, .int (k : Int)] ∧ SqT K H a (ks.map kindV) ∧ WfK ks ∧ k < ks.length ∧ ks.length ≤ 1000 ∧
  ∀ (r : Addr) (row : List Nat) (H' : Hp), (∀ o, o ∈ row ↔ under ks k o = true) → H r = none → H' r = some (.lst (row.map fun n : Nat => V.int (n : Int))) → Same H H' → Q (.ref r) H'
abbrev N_law_above : List Str := ["_law_kinds_here", "_law_kind", "_law_row", "_law_k", "_law_last"]
theorem rd_above {K : PySem.W.Frag} (vs : List V) (H : Hp) (Q : VK) (E : XK) (h : spAbove K vs H Q E) : t_law_above K { nx := fun _ H' => Q .non H', rt := Q } (start N_law_above vs) H := by
  obtain ⟨a, ks, k, rfl, hS, wf, hk, hz, q⟩ := h
  refine ⟨_, rfl, (by show (1 : Nat) ≤ sizeLine; decide), fun p hp => ?_⟩
  have s0 : ∀ {o : HO}, Same H (L2.upd H p o) := fun b u e => by rw [upd_ne (ne_of_none e hp)]; exact e
  refine ⟨_, rfl, a, _, rfl, .inr (s0.sqT hS), _, rfl, by omega, by rw [List.length_map]; omega, ?_⟩
  rw [List.length_map, Int.toNat_natCast]
  refine for_range (lo := 0) (n := ks.length) (fun i σ H2 => ∃ (row : List Nat) (c : Nat) (v3 v4 : Option V), σ = [some (.ref a), some (.int (k : Int)), some (.ref p), v3, v4] ∧
      H2 p = some (.lst ((row ++ [c]).map fun n : Nat => V.int (n : Int))) ∧ Same H H2 ∧ c < ks.length ∧ row.length ≤ i ∧ (∀ o, under ks k o = true ↔ (o ∈ row ∨ under ks c o = true)) ∧ (ks[c]? = some none ∨ c + i < ks.length))
    ⟨[], k, none, none, rfl, upd_same, s0, hk, Nat.le_refl _, by simp, .inr (by omega)⟩ ?_ ?_
  · rintro i σ H2 hi ⟨row, c, v3, v4, rfl, hp2, s2, hc, hl, hu, ht⟩
    have hp2' : H2 p = some (.lst (row.map (fun n : Nat => V.int (n : Int)) ++ [V.int (c : Int)])) := by rw [hp2, List.map_append]; rfl
    cases e : ks[c]? with
    | none => exact absurd (List.getElem?_eq_none_iff.mp e) (by omega)
    | some d =>
      refine ⟨_, rfl, _, rfl, _, rfl, p, _, -1, .int (c : Int), rfl, rfl, SqL.of hp2', atI_last _ _, a, _, _, kindV d, rfl, rfl, s2.sqT hS, atI_nat (j := c) (by rw [List.getElem?_map, e]; rfl), ?_⟩
      refine ⟨_, rfl, rfl, _, rfl, ?_⟩
      have eu := fun o => under_eq wf c o
      cases d with
      | none =>
        refine ifF rfl ?_
        exact ⟨row, c, _, _, rfl, hp2, s2, hc, by omega, hu, .inl e⟩
      | some d =>
        have hd := wf c d e
        refine ifT rfl ⟨_, rfl, .inl ⟨rfl, _, SqL.of hp2⟩, _, rfl, p, _, _, rfl, rfl, hp2, sz_lt1 (by simp; omega), ?_⟩
        refine ⟨row ++ [c], d, _, _, rfl, by rw [upd_same]; simp [kindV], fun b u z => by rw [upd_ne (ne_of_none z hp)]; exact s2 b u z, by omega, by simp; omega, fun o => ?_, ?_⟩
        · have e1 := eu o
          rw [e] at e1
          rw [hu o, e1]
          simp only [Bool.or_eq_true, decide_eq_true_eq, List.mem_append, List.mem_singleton]
          constructor
          · rintro (z | z | z)
            · exact .inl (.inl z)
            · exact .inl (.inr z.symm)
            · exact .inr z
          · rintro ((z | z) | z)
            · exact .inl z
            · exact .inr (.inl z.symm)
            · exact .inr (.inr z)
        · rcases ht with ht | ht
          · rw [e] at ht; cases ht
          · exact .inr (by omega)
  · rintro σ H2 ⟨row, c, v3, v4, rfl, hp2, s2, hc, hl, hu, ht⟩
    have hroot : ks[c]? = some none := by
      rcases ht with ht | ht
      · exact ht
      · omega
    refine ⟨_, rfl, q p (row ++ [c]) H2 (fun o => ?_) hp hp2 s2⟩
    have eu := under_eq wf c o
    rw [hroot] at eu
    rw [hu o, eu]
    simp only [Bool.or_false, decide_eq_true_eq, List.mem_append, List.mem_singleton, eq_comm (a := o)]
end Lp

namespace Lr
open PySem PySem.Spec PyProof.Rows L2 Lp
def topS (i : Nat) : Stmt := PySem.Challenge.pw_leaps_k01_kinds_under_kinds.main.body.getD i (.Pass ⟨0, 0, 0, 0⟩)
def t_law (K : PySem.W.Frag) (sp_law_kinds : Sp) (sp_law_take : Sp) (sp_under : Sp) (sp_law_above : Sp) : TS :=
  tSeq (tAsg (tCB (rLstOf K) (tCons (tVar 0) (tNil))) (gName 1)) (tSeq (tAsg (tCall sp_law_kinds [] E0 (tCons (tVar 1) (tCons (tC (.int 8)) (tNil)))) (gName 2)) (tSeq (tAsg (tCall sp_law_take [] E0 (tCons (tVar 1) (tCons (tCB (rLenQ K) (tCons (tVar 2) (tNil))) (tNil)))) (gName 3)) (tSeq (tAsg (tCall sp_law_take [] E0 (tCons (tVar 1) (tCons (tCB (rLenQ K) (tCons (tVar 2) (tNil))) (tNil)))) (gName 4)) (tSeq (tAsg (tCall sp_under [] E0 (tCons (tVar 2) (tCons (tVar 3) (tCons (tVar 4) (tNil))))) (gName 5)) (tSeq (tIfS (tOr (tNot (tB (tCB (rIsi K) (tCons (tVar 5) (tCons (tC (.ty "bool")) (tNil)))))) (tTest (tOp rNe (tVar 5) (tOp (rIn K false) (tVar 4) (tCall sp_law_above [] E0 (tCons (tVar 2) (tCons (tVar 3) (tNil)))))))) (tRet (tC (.bl false))) (tNext)) (tSeq (tAsg (tCall sp_under [] E0 (tCons (tVar 2) (tCons (tVar 4) (tCons (tVar 3) (tNil))))) (gName 5)) (tRet (tAndV (tCB (rIsi K) (tCons (tVar 5) (tCons (tC (.ty "bool")) (tNil)))) (tOp rEq (tVar 5) (tOp (rIn K false) (tVar 3) (tCall sp_law_above [] E0 (tCons (tVar 2) (tCons (tVar 4) (tNil))))))))))))))

theorem inV_nats {o : Nat} {row : List Nat} : inV (.int (o : Int)) (row.map fun n : Nat => V.int (n : Int)) = decide (o ∈ row) := by
  induction row with
  | nil => rfl
  | cons x r ih =>
    unfold inV at ih ⊢
    rw [List.map_cons, List.any_cons, ih]
    by_cases h : x = o
    · subst h; simp [eqV]
    · have h2 : ¬ o = x := fun e => h e.symm
      have h3 : ¬ (x : Int) = (o : Int) := by omega
      simp [eqV, h2, h3]
theorem flat_nats (row : List Nat) : (row.map fun n : Nat => V.int (n : Int)).all flatV = true := by simp [List.all_map, flatV]
def spLaw (K : PySem.W.Frag) : Sp := fun vs H Q _ => ∃ (a : Addr) (ns : List Int), vs = [.ref a] ∧ SqL K H a (ns.map V.int) ∧ ns.length ≤ 63 ∧ ∀ H', Q (.bl true) H'
theorem kbb {K : PySem.W.Frag} : PySem.W.kitOne K (.type "bool") (.type "bool") = some true := kit_ty (by decide +kernel)
theorem rd_law {K : PySem.W.Frag} (vs : List V) (H : Hp) (Q : VK) (E : XK) (h : spLaw K vs H Q E) : t_law K spKinds spTake (spUnder K) (spAbove K) { nx := fun _ H' => Q .non H', rt := Q } (start ["_law_script", "_law_box", "_law_kinds_here", "_law_one", "_law_other", "_law_told"] vs) H := by
  obtain ⟨a, ns, rfl, hS, hlen, q⟩ := h
  refine ⟨_, rfl, a, _, rfl, .inl hS, fun b hb => ?_⟩
  refine ⟨_, rfl, b, ns, 8, rfl, upd_same, by decide, by decide, fun p ks l1 H1 wf h0 h8 hp _ hb1 _ => ?_⟩
  refine ⟨_, rfl, _, rfl, p, _, rfl, .inr (SqT.of hp), b, l1, _, rfl, hb1, by rw [List.length_map]; omega, by rw [List.length_map]; omega, fun x l2 H2 x0 x1 hb2 kp2 => ?_⟩
  rw [List.length_map] at x1
  have pb : p ≠ b := ne_of hp hb1 (by intro z; cases z)
  have hp2 := kp2 p _ hp pb
  refine ⟨_, rfl, _, rfl, p, _, rfl, .inr (SqT.of hp2), b, l2, _, rfl, hb2, by rw [List.length_map]; omega, by rw [List.length_map]; omega, fun y l3 H3 y0 y1 hb3 kp3 => ?_⟩
  rw [List.length_map] at y1
  have hp3 := kp3 p _ hp2 pb
  obtain ⟨n, rfl⟩ : ∃ n : Nat, x = (n : Int) := ⟨x.toNat, by omega⟩
  obtain ⟨m, rfl⟩ : ∃ m : Nat, y = (m : Int) := ⟨y.toNat, by omega⟩
  have hn : n < ks.length := by omega
  have hm : m < ks.length := by omega
  have ed : ∀ {row : List Nat} {i j : Nat}, (∀ o, o ∈ row ↔ under ks i o = true) → inV (.int (j : Int)) (row.map fun n : Nat => V.int (n : Int)) = under ks i j := fun {row i j} hr => by
    rw [inV_nats]
    cases e : under ks i j with
    | true => exact dT ((hr j).mpr e)
    | false => exact dF fun z => by rw [(hr j).mp z] at e; cases e
  refine ⟨_, rfl, _, rfl, _, rfl, p, ks, n, m, rfl, SqT.of hp3, wf, hn, ?_⟩
  refine ⟨_, rfl, .bl _, .ty "bool", _, _, true, rfl, .ty _, .base (.bl _), kbb, _, rfl, ?_⟩
  refine ifF rfl ?_
  refine ⟨_, rfl, _, rfl, _, rfl, _, rfl, p, ks, n, rfl, SqT.of hp3, wf, hn, by omega, fun r row H4 hr _ hr4 s4 => ?_⟩
  refine ⟨r, _, rfl, .inl (SqL.of hr4), rfl, flat_nats row, rfl, _, rfl, ?_⟩
  have e1 : (!decide (V.bl (under ks n m) = V.bl (if false = true then !inV (.int (m : Int)) (row.map fun n : Nat => V.int (n : Int)) else inV (.int (m : Int)) (row.map fun n : Nat => V.int (n : Int))))) = false := by
    rw [if_neg Bool.false_ne_true, ed hr]
    simp
  refine ifF e1 ?_
  refine ⟨_, rfl, _, rfl, _, rfl, p, ks, m, n, rfl, SqT.of (s4 _ _ hp3), wf, hm, ?_⟩
  refine ⟨_, rfl, .bl _, .ty "bool", _, _, true, rfl, .ty _, .base (.bl _), kbb, true, rfl, ?_⟩
  refine ifT rfl ?_
  refine ⟨_, rfl, _, rfl, _, rfl, _, rfl, p, ks, m, rfl, SqT.of (s4 _ _ hp3), wf, hm, by omega, fun r row H5 hr _ hr5 s5 => ?_⟩
  refine ⟨r, _, rfl, .inl (SqL.of hr5), rfl, flat_nats row, rfl, ?_⟩
  have e2 : decide (V.bl (under ks m n) = V.bl (if false = true then !inV (.int (n : Int)) (row.map fun n : Nat => V.int (n : Int)) else inV (.int (n : Int)) (row.map fun n : Nat => V.int (n : Int)))) = true := by
    rw [if_neg Bool.false_ne_true, ed hr]
    simp
  show Q (.bl (decide (V.bl (under ks m n) = V.bl (if false = true then !inV (.int (n : Int)) (row.map fun n : Nat => V.int (n : Int)) else inV (.int (n : Int)) (row.map fun n : Nat => V.int (n : Int)))))) H5
  rw [e2]
  exact q H5
section
variable {P : Program} {w : World} {K : PySem.W.Frag} {mg : Str → Option Value} {base : Heap} {k : Nat}
abbrev s_law_take : Stmt := topS 3
abbrev N_law_take : List Str := ["_law_box", "_law_many", "_law_number"]
theorem sc_law_take : FnScope N_law_take ["_law_box", "_law_many"] (defScope s_law_take) := ⟨rfl, rfl, rfl, by decide +kernel, rfl, by decide +kernel, by decide +kernel⟩
theorem ok_law_take  {f : Addr} {fd : FuncData} (D : FunD K "_law_take" "_law_take" (defArgs s_law_take) (defBody s_law_take) (defScope s_law_take) [] [] f fd)  {sp : Sp}
    (len : ∀ vs H Q E, sp vs H Q E → vs.length = 2)
    (rd : ∀ vs H Q E, sp vs H Q E → t_law_take K { nx := fun _ H' => Q .non H', rt := Q } (start N_law_take vs) H) : FnOk P w K mg base CX0 (k + 1) f fd ["_law_box", "_law_many"] sp := by
  refine D.ok sc_law_take len (fun cdv A outer s H vs Q E hr h => ⟨t_law_take K, PSs.nox ?_, rd vs H Q E h⟩)
  · unfold t_law_take
    exact pss_cons (ps_if (pt_cmpR (op_eqD hr.units) (pv 0) (pe_lst (pa_nil)) (nomark _)) (pss_one (ps_ret (pe_int))) (pss_nil))
        (pss_cons (ps_set (i := 2) sc_law_take.nd rfl (by first | exact Or.inl rfl | exact Or.inr rfl) (pe_ix ix_list (pv 0) (pe_int) (fun _ _ => rfl)))
        (pss_cons (ps_asg (pe_op op_fdivW (pv 2) (pv 1)) (pg_sub (pv 0) (pe_int) set_list))
        (pss_cons (ps_if (PW.pt (pw_or (pt_cmpR op_eq (pe_ix ix_list (pv 0) (pe_int) (fun _ _ => rfl)) (pe_int) (nomark _)) (pw_or1 (pt_cmpR op_eq (pe_ix ix_list (pv 0) (pe_int) (fun _ _ => rfl)) (pe_un un_neg (pe_int)) (nomark _))))) (pss_one (ps_expr (pe_bm PySem.F.plainAttrs_list PySem.F.slot_list_pop PySem.F.type_list_pop mt_popAt (pv 0) (pa_cons (pe_int) (pa_nil))))) (pss_nil))
        (pss_one (ps_ret (pe_op op_mod (pv 2) (pv 1)))))))

abbrev s_law_kinds : Stmt := topS 4
abbrev N_law_kinds : List Str := ["_law_box", "_law_most", "_law_kinds_here", "_law_k", "_law_above_here"]
theorem sc_law_kinds : FnScope N_law_kinds ["_law_box", "_law_most"] (defScope s_law_kinds) := ⟨rfl, rfl, rfl, by decide +kernel, rfl, by decide +kernel, by decide +kernel⟩
theorem ok_law_kinds {sp_law_take : Sp} {f : Addr} {fd : FuncData} (D : FunD K "_law_kinds" "_law_kinds" (defArgs s_law_kinds) (defBody s_law_kinds) (defScope s_law_kinds) [] [] f fd) (B_range : mg "range" = none) (c_law_take : Cal P w K mg base k "_law_take" ["_law_box", "_law_many"] sp_law_take) (B_int : mg "int" = none) (B_tuple : mg "tuple" = none) {sp : Sp}
    (len : ∀ vs H Q E, sp vs H Q E → vs.length = 2)
    (rd : ∀ vs H Q E, sp vs H Q E → t_law_kinds K sp_law_take { nx := fun _ H' => Q .non H', rt := Q } (start N_law_kinds vs) H) : FnOk P w K mg base CX0 (k + 1) f fd ["_law_box", "_law_most"] sp := by
  refine D.ok sc_law_kinds len (fun cdv A outer s H vs Q E hr h => ⟨t_law_kinds K sp_law_take, PSs.nox ?_, rd vs H Q E h⟩)
  · unfold t_law_kinds
    exact pss_cons (ps_set (i := 2) sc_law_kinds.nd rfl (by first | exact Or.inl rfl | exact Or.inr rfl) (pe_lst (pa_nil)))
        (pss_cons (ps_for PassesOwn.never rfl (pi_range1 (by rfl) B_range (pa_cons (pe_op op_add (pe_int) (pc c_law_take hr (pa_cons (pv 0) (pa_cons (pv 1) (pa_nil))))) (pa_nil))) (pg_name (i := 3) sc_law_kinds.nd rfl (by first | exact Or.inl rfl | exact Or.inr rfl)) (pss_cons (ps_set (i := 4) sc_law_kinds.nd rfl (by first | exact Or.inl rfl | exact Or.inr rfl) (pc c_law_take hr (pa_cons (pv 0) (pa_cons (pe_op op_add (pv 3) (pe_int)) (pa_nil)))))
        (pss_one (ps_expr (pe_bm PySem.F.plainAttrs_list PySem.F.slot_list_append PySem.F.type_list_append mt_append (pv 2) (pa_cons (pe_ix ix_list (pe_lst (pa_cons (pe_non) (pa_cons (pe_op op_sub (pv 4) (pe_int)) (pa_nil)))) (pe_callTy call_int1 (by rfl) B_int (by decide +kernel) (pa_cons (pe_cmpR op_gt (pv 4) (pe_int) (nomark _)) (pa_nil))) (fun _ _ => rfl)) (pa_nil)))))))
        (pss_one (ps_ret (pe_callTy call_tuple_of (by rfl) B_tuple (by decide +kernel) (pa_cons (pv 2) (pa_nil))))))

abbrev s_law_above : Stmt := topS 5
abbrev N_law_above : List Str := ["_law_kinds_here", "_law_kind", "_law_row", "_law_k", "_law_last"]
theorem sc_law_above : FnScope N_law_above ["_law_kinds_here", "_law_kind"] (defScope s_law_above) := ⟨rfl, rfl, rfl, by decide +kernel, rfl, by decide +kernel, by decide +kernel⟩
theorem ok_law_above  {f : Addr} {fd : FuncData} (D : FunD K "_law_above" "_law_above" (defArgs s_law_above) (defBody s_law_above) (defScope s_law_above) [] [] f fd) (B_range : mg "range" = none) (B_len : mg "len" = none) {sp : Sp}
    (len : ∀ vs H Q E, sp vs H Q E → vs.length = 2)
    (rd : ∀ vs H Q E, sp vs H Q E → t_law_above K { nx := fun _ H' => Q .non H', rt := Q } (start N_law_above vs) H) : FnOk P w K mg base CX0 (k + 1) f fd ["_law_kinds_here", "_law_kind"] sp := by
  refine D.ok sc_law_above len (fun cdv A outer s H vs Q E hr h => ⟨t_law_above K, PSs.nox ?_, rd vs H Q E h⟩)
  · unfold t_law_above
    exact pss_cons (ps_set (i := 2) sc_law_above.nd rfl (by first | exact Or.inl rfl | exact Or.inr rfl) (pe_lst (pa_cons (pv 1) (pa_nil))))
        (pss_cons (ps_for PassesOwn.never rfl (pi_range1 (by rfl) B_range (pa_cons (pe_callB call_len_seq (by rfl) B_len PySem.boot_len (pa_cons (pv 0) (pa_nil))) (pa_nil))) (pg_name (i := 3) sc_law_above.nd rfl (by first | exact Or.inl rfl | exact Or.inr rfl)) (pss_cons (ps_set (i := 4) sc_law_above.nd rfl (by first | exact Or.inl rfl | exact Or.inr rfl) (pe_ix ix_tup (pv 0) (pe_ix ix_list (pv 2) (pe_un un_neg (pe_int)) (fun _ _ => rfl)) (fun _ _ => rfl)))
        (pss_one (ps_if (pt_cmpR op_notN (pv 4) (pe_non) (nomark _)) (pss_one (ps_expr (pe_bm PySem.F.plainAttrs_list PySem.F.slot_list_append PySem.F.type_list_append mt_append (pv 2) (pa_cons (pv 4) (pa_nil))))) (pss_nil)))))
        (pss_one (ps_ret (pv 2))))

abbrev s_under : Stmt := topS 1
abbrev N_under : List Str := ["kinds", "kind", "other"]
theorem sc_under : FnScope N_under ["kinds", "kind", "other"] (defScope s_under) := ⟨rfl, rfl, rfl, by decide +kernel, rfl, by decide +kernel, by decide +kernel⟩
theorem ok_under  {f : Addr} {fd : FuncData} (D : FunD K "under" "under" (defArgs s_under) (defBody s_under) (defScope s_under) [] [] f fd)  {sp : Sp}
    (len : ∀ vs H Q E, sp vs H Q E → vs.length = 3)
    (rd : ∀ vs H Q E, sp vs H Q E → t_under K { nx := fun _ H' => Q .non H', rt := Q } (start N_under vs) H) : FnOk P w K mg base CX0 (k + 1) f fd ["kinds", "kind", "other"] sp := by
  refine D.ok sc_under len (fun cdv A outer s H vs Q E hr h => ⟨t_under K, PSs.nox ?_, rd vs H Q E h⟩)
  · unfold t_under
    exact pss_cons (ps_while PassesOwn.never (PW.pt (pw_and (pt_cmpR op_notN (pv 1) (pe_non) (nomark _)) (pw_and1 (pt_cmpR op_ne (pv 1) (pv 2) (nomark _))))) (pss_one (ps_set (i := 1) sc_under.nd rfl (by first | exact Or.inl rfl | exact Or.inr rfl) (pe_ix ix_tup (pv 0) (pv 1) (fun _ _ => rfl)))))
        (pss_one (ps_ret (pe_cmpR op_notN (pv 1) (pe_non) (nomark _))))

abbrev s_law : Stmt := topS 6
abbrev N_law : List Str := ["_law_script", "_law_box", "_law_kinds_here", "_law_one", "_law_other", "_law_told"]
theorem sc_law : FnScope N_law ["_law_script"] (defScope s_law) := ⟨rfl, rfl, rfl, by decide +kernel, rfl, by decide +kernel, by decide +kernel⟩
theorem ok_law {sp_law_kinds : Sp} {sp_law_take : Sp} {sp_under : Sp} {sp_law_above : Sp} {f : Addr} {fd : FuncData} (D : FunD K "law" "law" (defArgs s_law) (defBody s_law) (defScope s_law) [] [] f fd) (B_list : mg "list" = none) (c_law_kinds : Cal P w K mg base k "_law_kinds" ["_law_box", "_law_most"] sp_law_kinds) (c_law_take : Cal P w K mg base k "_law_take" ["_law_box", "_law_many"] sp_law_take) (B_len : mg "len" = none) (c_under : Cal P w K mg base k "under" ["kinds", "kind", "other"] sp_under) (B_isinstance : mg "isinstance" = none) (B_bool : mg "bool" = none) (c_law_above : Cal P w K mg base k "_law_above" ["_law_kinds_here", "_law_kind"] sp_law_above) {sp : Sp}
    (len : ∀ vs H Q E, sp vs H Q E → vs.length = 1)
    (rd : ∀ vs H Q E, sp vs H Q E → t_law K sp_law_kinds sp_law_take sp_under sp_law_above { nx := fun _ H' => Q .non H', rt := Q } (start N_law vs) H) : FnOk P w K mg base CX0 (k + 1) f fd ["_law_script"] sp := by
  refine D.ok sc_law len (fun cdv A outer s H vs Q E hr h => ⟨t_law K sp_law_kinds sp_law_take sp_under sp_law_above, PSs.nox ?_, rd vs H Q E h⟩)
  · unfold t_law
    exact pss_cons (ps_set (i := 1) sc_law.nd rfl (by first | exact Or.inl rfl | exact Or.inr rfl) (pe_callTy call_list_of (by rfl) B_list (by decide +kernel) (pa_cons (pv 0) (pa_nil))))
        (pss_cons (ps_set (i := 2) sc_law.nd rfl (by first | exact Or.inl rfl | exact Or.inr rfl) (pc c_law_kinds hr (pa_cons (pv 1) (pa_cons (pe_int) (pa_nil)))))
        (pss_cons (ps_set (i := 3) sc_law.nd rfl (by first | exact Or.inl rfl | exact Or.inr rfl) (pc c_law_take hr (pa_cons (pv 1) (pa_cons (pe_callB call_len_seq (by rfl) B_len PySem.boot_len (pa_cons (pv 2) (pa_nil))) (pa_nil)))))
        (pss_cons (ps_set (i := 4) sc_law.nd rfl (by first | exact Or.inl rfl | exact Or.inr rfl) (pc c_law_take hr (pa_cons (pv 1) (pa_cons (pe_callB call_len_seq (by rfl) B_len PySem.boot_len (pa_cons (pv 2) (pa_nil))) (pa_nil)))))
        (pss_cons (ps_set (i := 5) sc_law.nd rfl (by first | exact Or.inl rfl | exact Or.inr rfl) (pc c_under hr (pa_cons (pv 2) (pa_cons (pv 3) (pa_cons (pv 4) (pa_nil))))))
        (pss_cons (ps_if (PW.pt (pw_or (pt_not (pt_val (pe_callB call_isi (by rfl) B_isinstance (by decide +kernel) (pa_cons (pv 5) (pa_cons (pe_bltn (by rfl) B_bool (by decide +kernel) rfl) (pa_nil)))))) (pw_or1 (pt_cmpR op_ne (pv 5) (pe_cmpR op_in_seq (pv 4) (pc c_law_above hr (pa_cons (pv 2) (pa_cons (pv 3) (pa_nil)))) (by rfl)) (nomark _))))) (pss_one (ps_ret (pe_bl))) (pss_nil))
        (pss_cons (ps_set (i := 5) sc_law.nd rfl (by first | exact Or.inl rfl | exact Or.inr rfl) (pc c_under hr (pa_cons (pv 2) (pa_cons (pv 4) (pa_cons (pv 3) (pa_nil))))))
        (pss_one (ps_ret (pe_and (pe_callB call_isi (by rfl) B_isinstance (by decide +kernel) (pa_cons (pv 5) (pa_cons (pe_bltn (by rfl) B_bool (by decide +kernel) rfl) (pa_nil)))) (pe_one (pe_cmpR op_eq (pv 5) (pe_cmpR op_in_seq (pv 3) (pc c_law_above hr (pa_cons (pv 2) (pa_cons (pv 4) (pa_nil)))) (by rfl)) (nomark _))))))))))))

end
def d_law_take : He.DefD := ⟨("_law_take", none), "_law_take", "_law_take", defArgs s_law_take, defBody s_law_take, defScope s_law_take, [], []⟩
def d_law_kinds : He.DefD := ⟨("_law_kinds", none), "_law_kinds", "_law_kinds", defArgs s_law_kinds, defBody s_law_kinds, defScope s_law_kinds, [], []⟩
def d_law_above : He.DefD := ⟨("_law_above", none), "_law_above", "_law_above", defArgs s_law_above, defBody s_law_above, defScope s_law_above, [], []⟩
def d_under : He.DefD := ⟨("under", none), "under", "under", defArgs s_under, defBody s_under, defScope s_under, [], []⟩
def d_law : He.DefD := ⟨("law", none), "law", "law", defArgs s_law, defBody s_law, defScope s_law, [], []⟩
def fn : List He.DefD := [d_law_take, d_law_kinds, d_law_above, d_under, d_law]
def fa : List He.Fa := [.glo "_law_take", .glo "_law_kinds", .glo "_law_above", .glo "under", .glo "law", .free "range", .free "int", .free "tuple", .free "len", .free "list", .free "isinstance", .free "bool"]
abbrev loose : List PySem.Str := ["under", "_law_take", "_law_kinds", "_law_above"]
abbrev R : PySem.W.OpenRow := PySem.W.OpenLaw.row PySem.Challenge.rw_leaps_k01_kinds_under_kinds
abbrev hk : PySem.W.Hook := He.hookD 5 fa fn
def ob (s : PySem.W.SharedT) : He.AlD := He.obsDG 5 fa fn (HandSHeadRun.getT s)
theorem ob_eq (s : PySem.W.SharedT) : ob s = hk.obs s.abs := He.obsDG_eq (HandSHeadRun.getT_eq s)
set_option maxHeartbeats 0 in
theorem run (w : World) : HandSHeadRun.RunEq R (PySem.W.view R.prog [6]) hk ob 600 loose w := by
  intro os
  kernel_rfl
theorem facts {w : World} {K : PySem.W.Frag} {h : Heap} {mg : Str → Option Value} {f : Addr} (X : K.In h) (G : h.Ns mainGlobals mg) (hfa : mg ("law" : Str) = some (.ref f)) (c : He.SaysD fa fn K) :
    ∃ fd : FuncData, (∀ (s : Shared) (v : Value), BindsTo s fd ⟨[v], []⟩ [("_law_script", v)]) ∧ ∀ base : Heap, K.In base → base.Ns mainGlobals mg → FnOk PySem.Challenge.pw_leaps_k01_kinds_under_kinds w K mg base CX0 3 f fd ["_law_script"] (spLaw K) := by
  obtain ⟨fd_law_take, D_law_take⟩ := c.def_ 0 (d := d_law_take) rfl
  obtain ⟨fd_law_kinds, D_law_kinds⟩ := c.def_ 1 (d := d_law_kinds) rfl
  obtain ⟨fd_law_above, D_law_above⟩ := c.def_ 2 (d := d_law_above) rfl
  obtain ⟨fd_under, D_under⟩ := c.def_ 3 (d := d_under) rfl
  obtain ⟨fd_law, D_law⟩ := c.def_ 4 (d := d_law) rfl
  have G__law_take := He.glo_ok X G (c.fact 0 (f := .glo "_law_take") rfl)
  have G__law_kinds := He.glo_ok X G (c.fact 1 (f := .glo "_law_kinds") rfl)
  have G__law_above := He.glo_ok X G (c.fact 2 (f := .glo "_law_above") rfl)
  have G_under := He.glo_ok X G (c.fact 3 (f := .glo "under") rfl)
  have G_law := He.glo_ok X G (c.fact 4 (f := .glo "law") rfl)
  have B_range := He.free_ok X G (c.fact 5 (f := .free "range") rfl)
  have B_int := He.free_ok X G (c.fact 6 (f := .free "int") rfl)
  have B_tuple := He.free_ok X G (c.fact 7 (f := .free "tuple") rfl)
  have B_len := He.free_ok X G (c.fact 8 (f := .free "len") rfl)
  have B_list := He.free_ok X G (c.fact 9 (f := .free "list") rfl)
  have B_isinstance := He.free_ok X G (c.fact 10 (f := .free "isinstance") rfl)
  have B_bool := He.free_ok X G (c.fact 11 (f := .free "bool") rfl)
  have eLaw := hfa.symm.trans G_law
  cases eLaw
  have b_law_take := FunD.bindsN (ps := ["_law_box", "_law_many"]) D_law_take fun _ _ _ _ _ _ us hl => match us, hl with | [_, _], _ => rfl
  have b_law_kinds := FunD.bindsN (ps := ["_law_box", "_law_most"]) D_law_kinds fun _ _ _ _ _ _ us hl => match us, hl with | [_, _], _ => rfl
  have b_law_above := FunD.bindsN (ps := ["_law_kinds_here", "_law_kind"]) D_law_above fun _ _ _ _ _ _ us hl => match us, hl with | [_, _], _ => rfl
  have b_under := FunD.bindsN (ps := ["kinds", "kind", "other"]) D_under fun _ _ _ _ _ _ us hl => match us, hl with | [_, _, _], _ => rfl
  have b_law := FunD.bindsA (ps := ["_law_script"]) D_law fun _ _ _ _ _ _ us hl => match us, hl with | [_], _ => rfl
  refine ⟨fd_law, fun s v => b_law s [v] rfl, fun base _ _ => ?_⟩
  have c_law_take : Cal PySem.Challenge.pw_leaps_k01_kinds_under_kinds w K mg base 1 "_law_take" ["_law_box", "_law_many"] spTake := ⟨_, _, ok_law_take (k := 0) D_law_take  (fun vs H Q E h => by obtain ⟨_, _, _, rfl, _⟩ := h; rfl) rd_take, b_law_take, D_law_take.kp, G__law_take⟩
  have c_law_kinds : Cal PySem.Challenge.pw_leaps_k01_kinds_under_kinds w K mg base 2 "_law_kinds" ["_law_box", "_law_most"] spKinds := ⟨_, _, ok_law_kinds (k := 1) D_law_kinds B_range (c_law_take.mono (by decide)) B_int B_tuple (fun vs H Q E h => by obtain ⟨_, _, _, rfl, _⟩ := h; rfl) rd_kinds, b_law_kinds, D_law_kinds.kp, G__law_kinds⟩
  have c_law_above : Cal PySem.Challenge.pw_leaps_k01_kinds_under_kinds w K mg base 1 "_law_above" ["_law_kinds_here", "_law_kind"] (spAbove K) := ⟨_, _, ok_law_above (k := 0) D_law_above B_range B_len (fun vs H Q E h => by obtain ⟨_, _, _, rfl, _⟩ := h; rfl) rd_above, b_law_above, D_law_above.kp, G__law_above⟩
  have c_under : Cal PySem.Challenge.pw_leaps_k01_kinds_under_kinds w K mg base 1 "under" ["kinds", "kind", "other"] (spUnder K) := ⟨_, _, ok_under (k := 0) D_under  (fun vs H Q E h => by obtain ⟨_, _, _, _, rfl, _⟩ := h; rfl) rd_under, b_under, D_under.kp, G_under⟩
  exact ok_law (k := 2) D_law B_list (c_law_kinds.mono (by decide)) (c_law_take.mono (by decide)) B_len (c_under.mono (by decide)) B_isinstance B_bool (c_law_above.mono (by decide)) (fun vs H Q E h => by obtain ⟨_, _, rfl, _⟩ := h; rfl) rd_law
end Lr
open PySem PySem.W PySem.Calls PyProof.Rows
set_option maxRecDepth 100000 in
set_option maxHeartbeats 0 in
theorem PySem.Challenge.cw_leaps_k01_kinds_under_kinds_holds : PySem.Challenge.rw_leaps_k01_kinds_under_kinds.Holds := by
  w_on; o_law
  refine HandSHeadRun.head_any (r := OpenLaw.row PySem.Challenge.rw_leaps_k01_kinds_under_kinds) (q := view (OpenLaw.row PySem.Challenge.rw_leaps_k01_kinds_under_kinds).prog [6]) (H := Lr.hk) (ob := Lr.ob) (M := 600) (loose := Lr.loose) (d := HandSHeadRun.topDef (OpenLaw.row PySem.Challenge.rw_leaps_k01_kinds_under_kinds).prog 6) (kwd := []) Lr.ob_eq
    (by kernel_rfl) (fun s => by kernel_rfl) Lr.run (by kernel_rfl) (by kernel_rfl) (by kernel_rfl) (by rfl) (by first | assumption | decide +kernel) (by decide +kernel) ⟨rfl, rfl, rfl, rfl, rfl, by decide +kernel⟩ ?hw ?hc
  case hw => w_witness2
  case hc =>
    refine L2.walk_ofE (l := PySem.Challenge.rw_leaps_k01_kinds_under_kinds) (n := 63) (k := 3) (x := "_law_script") (CX := L2.CX0) rfl (by decide) (by kernel_rfl) ⟨rfl, by decide, by decide⟩ ?F (fun _ _ _ _ z => z)
    intro w mg fa h Y G hmg0
    obtain ⟨K, KX, c⟩ := Y
    have hmg : mg ("law" : PySem.Str) = some (.ref fa) := by
      have e : (HandSHeadRun.topDef (OpenLaw.row PySem.Challenge.rw_leaps_k01_kinds_under_kinds).prog 6).name = ("law" : PySem.Str) := by kernel_rfl
      rw [← e]
      exact hmg0
    obtain ⟨fd, hb, hF⟩ := Lr.facts (w := w) KX G hmg c
    exact ⟨K, fd, Lr.spLaw K, KX, hb, fun H a ns hl _ hS => ⟨a, ns, rfl, hS, hl, fun _ => rfl⟩, hF⟩
