import PyProof.Rows.All
import Wide.All
import OpenK.AllK
import Wide.FinOn
import HandS.ForMost
import HandS.ForExc
import HandS.TryMany
import HandS.IsInst
import HandS.Property
import HandS.DictComp
import HandS.DictEq
import HandS.OwnEq
import HandS.Walk
import HandS.Strs
import HandS.StrMore
import HandS.Conv
import HandS.Wide
import HandS.More
import HandS.ExcInit
import HandS.TupLen
import HandS.SetKeys
import HandS.Steps
import KE.KExcSuper
import KE.GoesEnum
import KE.KIndexOf
import KE.RegKSuper
import PySem.Challenge.RW_runsback_k41_whole_worlds_side_by_side
set_option Elab.async false
set_option linter.all false
set_option maxRecDepth 100000
set_option maxHeartbeats 2000000
/-! heaps by parts: what stands for good, and the cells that may change -/
namespace Rb
open PySem PySem.Spec PyProof.Rows L2

def Ex (F F' : Hp) : Prop := ∀ a o, F a = some o → F' a = some o
theorem Ex.refl (F : Hp) : Ex F F := fun _ _ h => h
theorem Ex.trans {F F1 F2 : Hp} (a : Ex F F1) (b : Ex F1 F2) : Ex F F2 := fun x o h => b x o (a x o h)
theorem Ex.at {F F' : Hp} {a : Addr} {o : HO} (e : Ex F F') (h : F a = some o) : F' a = some o := e a o h
theorem Ex.new {F : Hp} {p : Addr} {o : HO} (h : F p = none) : Ex F (upd F p o) := fun a u e => by
  rw [upd_ne (ne_of_none e h)]
  exact e

/-- F: what stands and stays; M: cells that may change; H holds both -/
structure HS (F : Hp) (M : List (Addr × HO)) (H : Hp) : Prop where
  fz : ∀ a o, F a = some o → H a = some o
  mu : ∀ p ∈ M, H p.1 = some p.2
  dj : ∀ p ∈ M, F p.1 = none
  nd : (M.map (·.1)).Nodup

section
variable {F F' : Hp} {M M' : List (Addr × HO)} {H : Hp} {p a : Addr} {o u : HO}
theorem HS.get (h : HS F ((p, o) :: M) H) : H p = some o := h.mu _ List.mem_cons_self
theorem HS.fget (h : HS F M H) (e : F a = some o) : H a = some o := h.fz a o e
theorem HS.drop {m : Addr × HO} (h : HS F (m :: M) H) : HS F M H :=
  ⟨h.fz, fun q hq => h.mu q (List.mem_cons_of_mem _ hq), fun q hq => h.dj q (List.mem_cons_of_mem _ hq), (List.nodup_cons.mp (by simpa using h.nd)).2⟩
theorem HS.free (h : HS F M H) (n : H p = none) : F p = none := by
  cases e : F p with
  | none => rfl
  | some o =>
    rw [h.fz p o e] at n
    cases n
theorem HS.fresh (h : HS F M H) (n : H p = none) : p ∉ M.map (·.1) := fun hm => by
  obtain ⟨q, hq, e⟩ := List.mem_map.mp hm
  have := h.mu q hq
  rw [e, n] at this
  cases this
/-- a new cell -/
theorem HS.new (h : HS F M H) (n : H p = none) : HS F ((p, o) :: M) (upd H p o) := by
  have hf := h.free n
  have hm := h.fresh n
  refine ⟨fun b u e => ?_, fun q hq => ?_, fun q hq => ?_, ?_⟩
  · rw [upd_ne (ne_of_none e hf)]
    exact h.fz b u e
  · rcases List.mem_cons.mp hq with rfl | hq
    · exact upd_same
    · have : q.1 ≠ p := fun e => hm (List.mem_map.mpr ⟨q, hq, e⟩)
      rw [upd_ne this]
      exact h.mu q hq
  · rcases List.mem_cons.mp hq with rfl | hq
    · exact hf
    · exact h.dj q hq
  · rw [List.map_cons]
    exact List.nodup_cons.mpr ⟨hm, h.nd⟩
/-- a cell is written -/
theorem HS.wr (h : HS F ((p, o) :: M) H) : HS F ((p, u) :: M) (upd H p u) := by
  have nd : p ∉ M.map (·.1) ∧ (M.map (·.1)).Nodup := List.nodup_cons.mp (by simpa using h.nd)
  have hf : F p = none := h.dj _ List.mem_cons_self
  refine ⟨fun b v e => ?_, fun q hq => ?_, fun q hq => ?_, ?_⟩
  · rw [upd_ne (ne_of_none e hf)]
    exact h.fz b v e
  · rcases List.mem_cons.mp hq with rfl | hq
    · exact upd_same
    · have : q.1 ≠ p := fun e => nd.1 (List.mem_map.mpr ⟨q, hq, e⟩)
      rw [upd_ne this]
      exact h.mu q (List.mem_cons_of_mem _ hq)
  · rcases List.mem_cons.mp hq with rfl | hq
    · exact hf
    · exact h.dj q (List.mem_cons_of_mem _ hq)
  · rw [List.map_cons]
    exact List.nodup_cons.mpr nd
/-- the cells in another order -/
theorem HS.perm (h : HS F M H) (e : M'.Perm M) : HS F M' H :=
  ⟨h.fz, fun q hq => h.mu q (e.mem_iff.mp hq), fun q hq => h.dj q (e.mem_iff.mp hq), (e.map _).nodup_iff.mpr h.nd⟩
/-- a cell stays as it is for good -/
theorem HS.frz (h : HS F ((p, o) :: M) H) : HS (upd F p o) M H := by
  have nd : p ∉ M.map (·.1) ∧ (M.map (·.1)).Nodup := List.nodup_cons.mp (by simpa using h.nd)
  refine ⟨fun b v e => ?_, h.drop.mu, fun q hq => ?_, nd.2⟩
  · by_cases hb : b = p
    · subst hb
      rw [upd_same] at e
      cases e
      exact h.get
    · rw [upd_ne hb] at e
      exact h.fz b v e
  · have : q.1 ≠ p := fun e => nd.1 (List.mem_map.mpr ⟨q, hq, e⟩)
    rw [upd_ne this]
    exact h.dj q (List.mem_cons_of_mem _ hq)
theorem HS.frzEx (h : HS F ((p, o) :: M) H) : Ex F (upd F p o) := Ex.new (h.dj _ List.mem_cons_self)
/-- a new thing that stays -/
theorem HS.newF (h : HS F M H) (n : H p = none) : HS (upd F p o) M (upd H p o) := (h.new n (o := o)).frz
theorem HS.newEx (h : HS F M H) (n : H p = none) : Ex F (upd F p o) := Ex.new (h.free n)
theorem HS.sub (h : HS F M H) (e : Ex F' F) : HS F' M H := by
  refine ⟨fun a o q => h.fz a o (e a o q), h.mu, fun q hq => ?_, h.nd⟩
  cases z : F' q.1 with
  | none => rfl
  | some o =>
    have := e _ _ z
    rw [h.dj q hq] at this
    cases this
end

/-! cells by place -/
section
variable {F : Hp} {H : Hp} {p : Addr} {o u : HO} {m1 m2 m3 m4 m5 m6 : Addr × HO} {M : List (Addr × HO)}
theorem HS.up1 (h : HS F (m1 :: m2 :: M) H) : HS F (m2 :: m1 :: M) H := h.perm (List.Perm.swap _ _ _)
theorem HS.up2 (h : HS F (m1 :: m2 :: m3 :: M) H) : HS F (m3 :: m1 :: m2 :: M) H := h.perm ((List.Perm.swap _ _ _).trans (List.Perm.cons _ (List.Perm.swap _ _ _)))
theorem HS.dn2 (h : HS F (m3 :: m1 :: m2 :: M) H) : HS F (m1 :: m2 :: m3 :: M) H := h.perm (((List.Perm.swap _ _ _).trans (List.Perm.cons _ (List.Perm.swap _ _ _))).symm)
theorem HS.get1 (h : HS F (m1 :: (p, o) :: M) H) : H p = some o := h.up1.get
theorem HS.get2 (h : HS F (m1 :: m2 :: (p, o) :: M) H) : H p = some o := h.up2.get
theorem HS.wr1 (h : HS F (m1 :: (p, o) :: M) H) : HS F (m1 :: (p, u) :: M) (upd H p u) := h.up1.wr.up1
theorem HS.wr2 (h : HS F (m1 :: m2 :: (p, o) :: M) H) : HS F (m1 :: m2 :: (p, u) :: M) (upd H p u) := h.up2.wr.dn2
theorem HS.frz1 (h : HS F (m1 :: (p, o) :: M) H) : HS (upd F p o) (m1 :: M) H := h.up1.frz
theorem HS.drop1 (h : HS F (m1 :: m2 :: M) H) : HS F (m1 :: M) H := h.up1.drop
end

/-- an int that counts -/
abbrev iv (n : Nat) : V := .int (n : Int)

/-! ### promises: what is handed back -/
/-- a plain value: nothing new is told -/
def RetV (F : Hp) (M : List (Addr × HO)) (Q : VK) (v : V) : Prop := ∀ H', HS F M H' → Q v H'
/-- a value over a larger F -/
def Ret (F : Hp) (M : List (Addr × HO)) (Q : VK) (P : Hp → V → Prop) : Prop := ∀ v F' H', Ex F F' → HS F' M H' → P F' v → Q v H'

/-- promises by the number of arguments -/
abbrev Sp1 (b : V → Hp → VK → XK → Prop) : Sp := fun vs H Q E => ∃ x, vs = [x] ∧ b x H Q E
abbrev Sp2 (b : V → V → Hp → VK → XK → Prop) : Sp := fun vs H Q E => ∃ x y, vs = [x, y] ∧ b x y H Q E
abbrev Sp3 (b : V → V → V → Hp → VK → XK → Prop) : Sp := fun vs H Q E => ∃ x y z, vs = [x, y, z] ∧ b x y z H Q E
theorem Sp1.len {b} {vs : List V} {H : Hp} {Q : VK} {E : XK} {x : Str} (h : Sp1 b vs H Q E) : vs.length = [x].length := by
  obtain ⟨_, rfl, _⟩ := h
  rfl
theorem Sp2.len {b} {vs : List V} {H : Hp} {Q : VK} {E : XK} {x y : Str} (h : Sp2 b vs H Q E) : vs.length = [x, y].length := by
  obtain ⟨_, _, rfl, _⟩ := h
  rfl
theorem Sp3.len {b} {vs : List V} {H : Hp} {Q : VK} {E : XK} {x y z : Str} (h : Sp3 b vs H Q E) : vs.length = [x, y, z].length := by
  obtain ⟨_, _, _, rfl, _⟩ := h
  rfl

/-! ### defs, methods, classes by name -/
section
variable (P : Program) (w : World) (K : PySem.W.Frag) (mg : Str → Option Value) (base : Heap)
/-- the module's name x is a def that keeps sp -/
def GoodF (k : Nat) (x : Str) (ps : List Str) (sp : Sp) : Prop :=
  ∃ (f : Addr) (fd : FuncData), mg x = some (.ref f) ∧ PySem.W.keepIn K (.ref f) = true ∧ Binds K fd ps [] ∧ FnOk P w K mg base (L2.CX P w) k f fd ps sp
/-- the method m of C keeps sp -/
def GoodM (k : Nat) (C : Addr) (m : Str) (ps : List Str) (sp : Sp) : Prop :=
  ∃ (f : Addr) (fd : FuncData), Meth K C m f ∧ Binds K fd ps [] ∧ FnOk P w K mg base (L2.CX P w) k f fd ps sp
/-- the class C, by its name x, its __init__ keeps sp -/
def GoodC (k : Nat) (x : Str) (C : Addr) (ps : List Str) (sp : Sp) : Prop :=
  mg x = some (.ref C) ∧ ∃ (f : Addr) (fd : FuncData), Mk K C f ∧ Binds K fd ps [] ∧ FnOk P w K mg base (L2.CX P w) k f fd ps sp
end

/-- a def of the text: where it stands, how it binds -/
structure Dx (K : PySem.W.Frag) (x qual : Str) (st : Stmt) (ps : List Str) (f : Addr) (fd : FuncData) : Prop where
  F : Fun K x qual st f fd
  b : Binds K fd ps []

section
variable {X : Cx} {k : Nat} {x m : Str} {ps : List Str} {sp : Sp} {e : Expr} {es : List Expr} {t : TA} {p pos apos : Pos} {C : Addr} {o : Expr} {ta : TE}
theorem pe_f (G : GoodF X.prog X.w X.K X.mg X.base k x ps sp) (hr : Room k X.A) (ha : PA X (e :: es) t) (hg : Gl X x := by rfl) (hdb : (x == ("__debug__" : Str)) = false := by decide)
    (he : starEach (e :: es) X.env = (false, eval e X.env) :: starEach es X.env := by rfl) (hpl : (backTo pos (starEach es X.env)).any (·.1) = false := by rfl) :
    PE X (.Call (.Name x p) (e :: es) [] pos) (tCall sp [] E0 t) := by
  obtain ⟨f, fd, h1, h2, h3, h4⟩ := G
  exact pe_call h4 hr hg h1 h2 h3 .nil passL ha hdb he hpl
theorem pe_fS (W : WX) (tk : Takes X W) (G : GoodF X.prog X.w X.K X.mg X.base k x ps sp) (hr : Room k X.A) (ha : PA X (e :: es) t) (hg : Gl X x := by rfl) (hdb : (x == ("__debug__" : Str)) = false := by decide)
    (he : starEach (e :: es) X.env = (false, eval e X.env) :: starEach es X.env := by rfl) (hpl : (backTo pos (starEach es X.env)).any (·.1) = false := by rfl) :
    PE X (.Call (.Name x p) (e :: es) [] pos) (tCallS sp (WE W) t) := by
  obtain ⟨f, fd, h1, h2, h3, h4⟩ := G
  exact pe_callS h4 hr hg h1 h2 h3 (fun σ => passAt tk σ) ha hdb he hpl
theorem pe_new (G : GoodC X.prog X.w X.K X.mg X.base k x C ps sp) (hr : Room (k + 1) X.A) (ha : PA X (e :: es) t) (hg : Gl X x := by rfl) (hdb : (x == ("__debug__" : Str)) = false := by decide)
    (he : starEach (e :: es) X.env = (false, eval e X.env) :: starEach es X.env := by rfl) (hpl : (backTo pos (starEach es X.env)).any (·.1) = false := by rfl) :
    PE X (.Call (.Name x p) (e :: es) [] pos) (tMake C sp [] E0 t) := by
  obtain ⟨h1, f, fd, h2, h3, h4⟩ := G
  exact pe_make h2 h4 hr hg h1 h3 .nil passL ha hdb he hpl
end
end Rb

set_option maxHeartbeats 2000000
/-! rules by construct, with readings that have names -/
namespace Rb
open PySem PySem.Spec PyProof.Rows L2

/-! ### operators -/
def oAdd : R2 := fun x y H Q => (∃ i j, x = .int i ∧ y = .int j ∧ Q (.int (i + j)) H) ∨ (∃ i j, x = .str i ∧ y = .str j ∧ i.length + j.length ≤ sizeLine ∧ Q (.str (i ++ j)) H) ∨ rCat x y H Q
def oSub : R2 := rI0 fun i j => .int (i - j)
def oMul : R2 := rI CMul fun i j => .int (i * j)
def oDiv : R2 := fun x y H Q => rI CDivN (fun i j => .int (i.fdiv j)) x y H Q ∨ rI CDivW (fun i j => .int (i / j)) x y H Q
def oMod : R2 := rI (fun _ j => j ≠ 0) fun i j => .int (i.fmod j)
def oPow : R2 := rI CPow fun i j => .int (i ^ j.toNat)
def cEq (K : PySem.W.Frag) : R2 := fun x y H Q => rEq x y H Q ∨ rEqD K x y H Q
def cNe (K : PySem.W.Frag) : R2 := fun x y H Q => rNe x y H Q ∨ rNeD K x y H Q
def cLt : R2 := fun x y H Q => (∃ i j, x = .int i ∧ y = .int j ∧ Q (.bl (decide (i < j))) H) ∨ (∃ i j, x = .str i ∧ y = .str j ∧ Q (.bl (decide (i.cps.toList < j.cps.toList))) H)
def cLe : R2 := rI0 fun i j => .bl (decide (i ≤ j))
def cGt : R2 := rI0 fun i j => .bl (decide (j < i))
def cGe : R2 := fun x y H Q => (∃ i j, x = .int i ∧ y = .int j ∧ Q (.bl (decide (j ≤ i))) H) ∨ (∃ i j, x = .str i ∧ y = .str j ∧ Q (.bl (!decide (i.cps.toList < j.cps.toList))) H)
section
variable {X : Cx}
theorem op_addA : OpR X (binaryOp .Add) oAdd := op_add.or (op_add_str.or op_cat)
theorem op_subA : OpR X (binaryOp .Sub) oSub := op_sub
theorem op_mulA : OpR X (binaryOp .Mult) oMul := op_mul
theorem op_divA : OpR X (binaryOp .FloorDiv) oDiv := op_fdivN.or op_fdivW
theorem op_modA : OpR X (binaryOp .Mod) oMod := op_modN
theorem op_powA : OpR X (binaryOp .Pow) oPow := op_pow
theorem op_eqA (hu : X.A.units + 64 < cLine) : OpR X (compareOp .Eq) (cEq X.K) := op_eq.or (op_eqD hu)
theorem op_neA (hu : X.A.units + 64 < cLine) : OpR X (compareOp .NotEq) (cNe X.K) := op_ne.or (op_neD hu)
theorem op_ltA : OpR X (compareOp .Lt) cLt := op_lt.or op_lt_str
theorem op_leA : OpR X (compareOp .LtE) cLe := op_le
theorem op_gtA : OpR X (compareOp .Gt) cGt := op_gt
theorem op_geA : OpR X (compareOp .GtE) cGe := op_ge.or op_ge_str
end

/-! ### in -/
def tIn (K : PySem.W.Frag) (ta tb : TE) : TE := fun σ H Q => tOp rInS ta tb σ H Q ∨ tOp (rIn K false) ta tb σ H Q ∨ tDIn ta tb σ H Q
def tNin (K : PySem.W.Frag) (ta tb : TE) : TE := fun σ H Q => tOp rNotInS ta tb σ H Q ∨ tOp (rIn K true) ta tb σ H Q ∨ tDNotIn ta tb σ H Q
section
variable {X : Cx} {a b : Expr} {ta tb : TE} {pos : Pos} {t u : TE} {e : Expr}
theorem pe_or2 (h : PE X e t) (g : PE X e u) : PE X e (fun σ H Q => t σ H Q ∨ u σ H Q) := by
  refine ⟨fun pins s σ H Q I q => ?_⟩
  rcases q with q | q
  · exact h.run pins s σ H Q I q
  · exact g.run pins s σ H Q I q
theorem pe_in (hu : X.A.units + 1 < cLine) (ha : PE X a ta) (hb : PE X b tb) (hm : behindInMarks .In b = false := by rfl) : PE X (.Compare a [.In] [b] pos) (tIn X.K ta tb) :=
  pe_or2 (pe_cmpR op_inS ha hb hm) (pe_or2 (pe_cmpR op_in_seq ha hb hm) (pe_cmp (pc_din hu ha hb) hm))
theorem pe_nin (hu : X.A.units + 1 < cLine) (ha : PE X a ta) (hb : PE X b tb) (hm : behindInMarks .NotIn b = false := by rfl) : PE X (.Compare a [.NotIn] [b] pos) (tNin X.K ta tb) :=
  pe_or2 (pe_cmpR op_notInS ha hb hm) (pe_or2 (pe_cmpR op_notIn_seq ha hb hm) (pe_cmp (pc_dnotin hu ha hb) hm))
end
theorem pt_or2 {X : Cx} {e : Expr} {t u : TT} (h : PT X e t) (g : PT X e u) : PT X e (fun σ H Q => t σ H Q ∨ u σ H Q) := by
  refine ⟨fun pins s σ H Q I q => ?_⟩
  rcases q with q | q
  · exact h.run pins s σ H Q I q
  · exact g.run pins s σ H Q I q
/-- a test that is a comparison by in -/
def tInT (K : PySem.W.Frag) (ta tb : TE) : TT := fun σ H Q => tTest (tOp rInS ta tb) σ H Q ∨ tTest (tOp (rIn K false) ta tb) σ H Q ∨ tB (tDIn ta tb) σ H Q
def tNinT (K : PySem.W.Frag) (ta tb : TE) : TT := fun σ H Q => tTest (tOp rNotInS ta tb) σ H Q ∨ tTest (tOp (rIn K true) ta tb) σ H Q ∨ tB (tDNotIn ta tb) σ H Q
section
variable {X : Cx} {a b : Expr} {ta tb : TE} {pos : Pos}
theorem pt_in (hu : X.A.units + 1 < cLine) (ha : PE X a ta) (hb : PE X b tb) (hm : behindInMarks .In b = false := by rfl) : PT X (.Compare a [.In] [b] pos) (tInT X.K ta tb) :=
  pt_or2 (pt_cmpR op_inS ha hb hm) (pt_or2 (pt_cmpR op_in_seq ha hb hm) (pt_cmp (pc_din hu ha hb) hm))
theorem pt_nin (hu : X.A.units + 1 < cLine) (ha : PE X a ta) (hb : PE X b tb) (hm : behindInMarks .NotIn b = false := by rfl) : PT X (.Compare a [.NotIn] [b] pos) (tNinT X.K ta tb) :=
  pt_or2 (pt_cmpR op_notInS ha hb hm) (pt_or2 (pt_cmpR op_notIn_seq ha hb hm) (pt_cmp (pc_dnotin hu ha hb) hm))
end

/-! ### truth of a value -/
def tTr (K : PySem.W.Frag) (ta : TE) : TT := fun σ H Q => ta σ H fun x H' => ∃ k, TruV K x H' k ∧ Q k H'
theorem pt_tr {X : Cx} {a : Expr} {ta : TE} (ha : PE X a ta) (he : ∀ whole, isTrue a X.env whole = (do let v ← whole; standAt a.pos; holding [v] (truthy v)) := by intro _; rfl) : PT X a (tTr X.K ta) := pt_truth ha he

/-! ### subscripts, slices -/
def tIx (K : PySem.W.Frag) (ta tb : TE) : TE := fun σ H Q => tOp (rIx K) ta tb σ H Q ∨ tDGet ta tb σ H Q
theorem pe_sub {X : Cx} {a b : Expr} {ta tb : TE} {pos : Pos} (hu : X.A.units + 1 < cLine) (ha : PE X a ta) (hb : PE X b tb) (hs : PlainIx b := by exact fun _ _ => rfl) : PE X (.Subscript a b pos) (tIx X.K ta tb) :=
  pe_or2 (pe_ix ix_seq ha hb hs) (pe_dget hu ha hb hs)
def oSl (K : PySem.W.Frag) : V → Option Int → Option Int → Hp → VK → Prop := fun x lo hi H Q => rSlL K x lo hi H Q ∨ rSlT K x lo hi H Q ∨ rSlS x lo hi H Q
theorem SlR.or {X : Cx} {r r' : V → Option Int → Option Int → Hp → VK → Prop} (h : SlR X r) (h' : SlR X r') : SlR X (fun x lo hi H Q => r x lo hi H Q ∨ r' x lo hi H Q) := by
  intro pins s σ H x
  intros
  rename_i q
  rcases q with q | q
  · apply h <;> assumption
  · apply h' <;> assumption
theorem sl_any {X : Cx} : SlR X (oSl X.K) := SlR.or sl_list (SlR.or sl_tup sl_str)
/-- o[i] = v -/
def sPut (to ti tv : TE) : TS := fun D σ H => tAsg tv (gSub to ti rSetL) D σ H ∨ sDPut to ti tv D σ H
theorem ps_or2 {X : Cx} {st : Stmt} {t u : TS} (h : PS X st t) (g : PS X st u) : PS X st (fun D σ H => t D σ H ∨ u D σ H) := by
  refine ⟨fun pins s σ H D I q => ?_⟩
  rcases q with q | q
  · exact h.run pins s σ H D I q
  · exact g.run pins s σ H D I q

/-! ### calls of built-ins -/
def oLen (K : PySem.W.Frag) : List V → Hp → VK → Prop := fun xs H Q => (∃ x n, xs = [x] ∧ LenV K x H n ∧ Q (.int n) H) ∨ (∃ a kvs, xs = [V.ref a] ∧ H a = some (.dK kvs) ∧ Q (.int kvs.length) H) ∨ rLenT xs H Q
theorem cr_len {X : Cx} : CallR X (.builtin "len") (oLen X.K) := CallR.or call_len (CallR.or call_lenD call_len_dT)
def oInt : List V → Hp → VK → Prop := fun xs H Q => (∃ i, xs = [.int i] ∧ Q (.int i) H) ∨ ∃ k, xs = [.bl k] ∧ Q (.int (if k then 1 else 0)) H
def oAbs : List V → Hp → VK → Prop := fun xs H Q => ∃ i, xs = [.int i] ∧ Q (.int (if i < 0 then -i else i)) H
def oList (K : PySem.W.Frag) : List V → Hp → VK → Prop := fun xs H Q => ∃ p ys, xs = [.ref p] ∧ (SqL K H p ys ∨ SqT K H p ys) ∧ ∀ l, H l = none → Q (.ref l) (upd H l (.lst ys))
def oTuple (K : PySem.W.Frag) : List V → Hp → VK → Prop := fun xs H Q => ∃ p ys, xs = [.ref p] ∧ ((SqL K H p ys ∧ ∀ l, H l = none → Q (.ref l) (upd H l (.tup ys))) ∨ (SqT K H p ys ∧ Q (.ref p) H))
theorem cr_int {X : Cx} : CallR X (.type "int") oInt := call_int1
theorem cr_abs {X : Cx} : CallR X (.builtin "abs") oAbs := call_abs
theorem cr_list {X : Cx} : CallR X (.type "list") (oList X.K) := call_list_of
theorem cr_tuple {X : Cx} : CallR X (.type "tuple") (oTuple X.K) := call_tuple_of
/-- isinstance against one class, a tuple of classes -/
def oIsi (K : PySem.W.Frag) : List V → Hp → VK → Prop := fun xs H Q => rIsi K xs H Q ∨ rIsiT K xs H Q
theorem cr_isi {X : Cx} : CallR X (.builtin "isinstance") (oIsi X.K) := CallR.or call_isi call_isiT

/-! ### methods of texts -/
def mUp : V → List V → Hp → VK → Prop := fun x xs H Q => ∃ a, x = .str a ∧ xs = [] ∧ a.length ≤ 5592405 ∧ Q (.str (Txt.upper a)) H
def mLow : V → List V → Hp → VK → Prop := fun x xs H Q => ∃ a, x = .str a ∧ xs = [] ∧ a.length ≤ 5592405 ∧ Q (.str (Txt.lower a)) H
def mSwap : V → List V → Hp → VK → Prop := fun x xs H Q => ∃ a, x = .str a ∧ xs = [] ∧ (Txt.swapcase a).length ≤ 16777216 ∧ Q (.str (Txt.swapcase a)) H
def mJoin (K : PySem.W.Frag) : V → List V → Hp → VK → Prop := fun x xs H Q => ∃ a p, ∃ ys : List Str, x = .str a ∧ xs = [.ref p] ∧ (SqL K H p (ys.map V.str) ∨ SqT K H p (ys.map V.str)) ∧
      (ys.map (·.length)).sum + ys.length * a.length ≤ 16777216 ∧ Q (.str (Txt.join a ys)) H
section
variable {X : Cx} {o e : Expr} {to te : TE} {apos pos : Pos}
theorem mt_swapcase : MtR X "str.swapcase" mSwap :=
  mt0 (C := fun a => (Txt.swapcase a).length ≤ 16777216) (g := fun a => .str (Txt.swapcase a)) fun a _ s _ hc h => PySem.SC.swapcase (PyProof.Rows.short24 hc) (h _ (s.toks + 1) ⟨_, rfl⟩)
theorem pe_up (ho : PE X o to) (hbase : attributeBase o "upper" X.env (eval o X.env) = eval o X.env := by rfl) (hline : (apos.endLine == pos.line) = true := by rfl) : PE X (.Call (.Attribute o "upper" apos) [] [] pos) (tM0 mUp to) := pe_upper ho hbase hline
theorem pe_low (ho : PE X o to) (hbase : attributeBase o "lower" X.env (eval o X.env) = eval o X.env := by rfl) (hline : (apos.endLine == pos.line) = true := by rfl) : PE X (.Call (.Attribute o "lower" apos) [] [] pos) (tM0 mLow to) := pe_lower ho hbase hline
theorem pe_swap (ho : PE X o to) (hbase : attributeBase o "swapcase" X.env (eval o X.env) = eval o X.env := by rfl) (hline : (apos.endLine == pos.line) = true := by rfl) : PE X (.Call (.Attribute o "swapcase" apos) [] [] pos) (tM0 mSwap to) :=
  pe_m0 F.slot_str_swapcase F.type_str_swapcase mt_swapcase ho hbase hline
theorem pe_jn (ho : PE X o to) (he : PE X e te) (hs : starEach [e] X.env = [(false, eval e X.env)] := by rfl) (hbase : attributeBase o "join" X.env (eval o X.env) = eval o X.env := by rfl) (hline : (apos.endLine == pos.line) = true := by rfl) :
    PE X (.Call (.Attribute o "join" apos) [e] [] pos) (tM1 (mJoin X.K) to te) := pe_join ho he hs hbase hline
end

/-! ### what a for walks: a list, a tuple, a text -/
def iSeq (K : PySem.W.Frag) (te : TE) : TI := fun σ H R => iList K te σ H R ∨ iTup K te σ H R ∨ iStr te σ H R
theorem pi_or2 {X : Cx} {tg e : Expr} {t u : TI} (h : PI X tg e t) (g : PI X tg e u) : PI X tg e (fun σ H R => t σ H R ∨ u σ H R) := by
  refine ⟨fun pins s σ H R I q => ?_⟩
  rcases q with q | q
  · exact h.run pins s σ H R I q
  · exact g.run pins s σ H R I q
theorem pi_seq {X : Cx} {tg e : Expr} {te : TE} (h : PE X e te) : PI X tg e (iSeq X.K te) := pi_or2 (pi_list h) (pi_or2 (pi_tup h) (pi_str h))
end Rb

set_option maxHeartbeats 2000000
/-! further rules: methods, properties, stores, enumerate over a tuple -/
namespace Rb
open PySem PySem.Spec PyProof.Rows L2

section
variable {X : Cx} {k : Nat} {m : Str} {ps : List Str} {sp : Sp} {e : Expr} {es : List Expr} {t : TA} {p pos apos : Pos} {C : Addr} {o : Expr} {ta : TE}
theorem pe_me {pl : Sem Bool} (he : PE X o ta) (G : Cls X.K C ∧ GoodM X.prog X.w X.K X.mg X.base k C m ps sp) (hr : Room k X.A) (ha : PA X (e :: es) t)
    (hst : starEach (e :: es) X.env = (false, eval e X.env) :: starEach es X.env := by rfl) (hpl : (backTo pos (starEach es X.env)).any (·.1) = false := by rfl)
    (ht : eval (.Call (.Attribute o m apos) (e :: es) [] pos) X.env = (do
      let ov ← eval o X.env
      standAt apos.atName
      let (f, first) ← holding [ov] (getMethod ov m pl)
      callWith pos f first (backTo pos (starEach (e :: es) X.env)) (backToKw pos (keywordEach [] X.env))) := by rfl) :
    PE X (.Call (.Attribute o m apos) (e :: es) [] pos) (tMeth C m sp [] E0 ta t) := by
  obtain ⟨c, f, fd, h1, h2, h3⟩ := G
  exact pe_meth he c h1 h3 hr h2 .nil passL ha hst hpl ht
end

/-- the property x of C keeps sp -/
def GoodP (P : Program) (w : World) (K : PySem.W.Frag) (mg : Str → Option Value) (base : Heap) (k : Nat) (C : Addr) (x : Str) (sp : Sp) : Prop :=
  ∃ (p g : Addr) (fd : FuncData), Cls K C ∧ PropOf K C x p g ∧ Binds K fd ["self"] [] ∧ FnOk P w K mg base (L2.CX P w) k g fd ["self"] sp
theorem passN {X : Cx} : Passes (L2.CX X.prog X.w) X.nox E0 := fun _ _ _ _ _ _ _ h => by
  obtain ⟨_, _, _, _, _, _, _, _, _, _, _, _, z⟩ := h
  exact z.elim
theorem pe_pr {X : Cx} {k : Nat} {C : Addr} {x : Str} {sp : Sp} {e : Expr} {ta : TE} {pos : Pos} (G : GoodP X.prog X.w X.K X.mg X.base k C x sp) (hr : Room (k + 1) X.A) (he : PE X e ta)
    (hab : attributeBase e x X.env (eval e X.env) = eval e X.env := by rfl) : PE X (.Attribute e x pos) (tProp C sp [] E0 ta) := by
  obtain ⟨p, g, fd, c, h1, h2, h3⟩ := G
  exact pe_prop he c h1 h3 hr h2 .nil passN hab

theorem ps_put {X : Cx} {o i value : Expr} {to ti tv : TE} {pos pos' : Pos} (hu : X.A.units + 1 < cLine) (ho : PE X o to) (hi : PE X i ti) (hv : PE X value tv) (hg : PG X (.Subscript o i pos') (gSub to ti rSetL))
    (hs : swapsWithSole [.Subscript o i pos'] value pos.line X.env = pure false := by rfl) (hw : swappedStores [.Subscript o i pos'] value X.env = pure none := by rfl)
    (h1 : (assignEach [.Subscript o i pos'] X.env).map (·.2) = [assign (.Subscript o i pos') X.env] := by rfl)
    (hs2 : swapsWith value (some (.Subscript o i pos')) pos.line X.env = pure false := by rfl) : PS X (.Assign [.Subscript o i pos'] value pos) (sPut to ti tv) :=
  ps_or2 (ps_asg hv hg hs hw h1) (ps_dput hu ho hi hv hs2)

/-! ### enumerate(t), t a tuple -/
set_option maxHeartbeats 4000000 in
theorem meets_enum1 {v : Value} {o : Obj} {G : Heap → Prop} (B : Begins v o G) :
    Meets (Builtin.«enumerate.__new__» ⟨[.type "enumerate", v], []⟩) (fun _ R s => G s.heap ∧
      R (.ok (.ret (.ref (s.heap.push o).objs.size))) { s with heap := (s.heap.push o).push { cls := .type "enumerate", data := .fields #[.none, .bool false, .ref s.heap.objs.size, rawInt 0, .none, .none] } }) :=
  .of_wp fun prog w A R s h => by
    obtain ⟨hp, g, d, tk, os⟩ := s
    obtain ⟨hG, h⟩ := h
    have hsub := sub_enumerate
    have it1 : ∀ {A' : Around} {E : Value → Shared → Prop} {Q : Value → Shared → Prop}, Q (.ref hp.objs.size) ⟨hp.push o, g, d, tk, os⟩ → wpAny (model prog w) A' (pyIter v) Q E ⟨hp, g, d, tk, os⟩ := fun q => B.iter _ _ _ _ _ _ hG q
    wp_walk using it1
    refine wpAny_stack_any fun st => wpAny_pure ?_
    split
    · rename_i c _ _ _ _ _
      rcases hb : (c == Value.type "enumerate") with _ | _
      · wp_walk using it1
        exact ⟨_, rfl, h⟩
      · wp_walk using it1
        exact ⟨_, rfl, h⟩
    · wp_walk using it1
      exact ⟨_, rfl, h⟩
theorem call_enum1 {prog : Program} {w : World} {A : Around} {E : Value → Shared → Prop} {s : Shared} {v : Value} {o : Obj} {G : Heap → Prop} {Q : Value → Shared → Prop} (B : Begins v o G) (hG : G s.heap)
    (h : ∀ h', IsEnum h' (s.heap.objs.size + 1) s.heap.objs.size 0 .none → h'.get? s.heap.objs.size = some o → (∀ b u, s.heap.get? b = some u → h'.get? b = some u) → Q (.ref (s.heap.objs.size + 1)) { s with heap := h' }) :
    wpAny (model prog w) A (call (.type "enumerate") [v]) Q E s := by
  refine callType_new F.called_enumerate (by decide) (F.typeCall_enumerate_1 _) (F.newCall_enumerate_1 _) (fun obj => F.args_object_init_2 obj _) F.entry_enumerate_new (meets_enum1 B) ⟨hG, ?_⟩
  have z : (s.heap.push o).objs.size = s.heap.objs.size + 1 := Heap.size_push ..
  rw [z]
  have en : IsEnum ((s.heap.push o).push { cls := .type "enumerate", data := .fields #[.none, .bool false, .ref s.heap.objs.size, rawInt 0, .none, .none] }) (s.heap.objs.size + 1) s.heap.objs.size 0 .none := by
    rw [← z]
    exact Heap.get?_push_size _ rfl
  exact ⟨⟨_, en, rfl⟩, h _ en (Heap.get?_push_of_some _ (Heap.get?_push_size _ B.free)) fun b u e => Heap.get?_push_of_some _ (Heap.get?_push_of_some _ e)⟩
/-- the tuple at a, each item in a new pair with its number -/
def Itn (K : PySem.W.Frag) (a : Addr) : It :=
  ⟨fun i H => ∃ (xs : List V) (x : V), SqT K H a xs ∧ xs[i]? = some x, fun i H v H' => ∃ q x, v = .ref q ∧ H q = none ∧ H' = upd H q (.tup [.int (i : Nat), x]) ∧ ∀ xs, SqT K H a xs → xs[i]? = some x, fun i H => ∃ xs : List V, SqT K H a xs ∧ xs.length = i⟩
theorem in2 {a b c : Addr} (h : c ∈ [a, b]) : c = a ∨ c = b := by simpa using h
theorem turn_enumT {P : Program} {w : World} {K : PySem.W.Frag} {elts : List Expr} {kk : Nat} {tpos : Pos} (a e it : Addr) :
    Turn P w K (.Tuple elts kk tpos) (Itn K a) [e, it] e (fun i h => (∃ old, IsEnum h e it ((i : Nat) : Int) old) ∧ h.IsTupleIter it a i ∧ e ≠ it ∧ a ≠ it ∧ a ≠ e) where
  mem := List.mem_cons_self
  obj := fun i h ⟨⟨old, he⟩, ⟨o, ho, _, hd⟩, _⟩ b hb => by
    rcases in2 hb with rfl | rfl
    · exact ⟨_, he, fun v q => nomatch q⟩
    · refine ⟨o, ho, fun v q => ?_⟩
      rw [hd] at q
      cases q
  keep := fun i h h' ⟨⟨old, he⟩, ht, r⟩ k => ⟨⟨old, k e List.mem_cons_self _ he⟩, ht.at fun o q => k it (List.mem_cons_of_mem _ List.mem_cons_self) o q, r⟩
  item := by
    intro X hP hw hK hc i pins s σ H E I hf st hg
    subst hP hw hK
    obtain ⟨⟨old, he⟩, ht, n1, n2, n3⟩ := st
    obtain ⟨xs, x, hq, hx⟩ := hg
    obtain ⟨its, rv, p, hz⟩ := I.tuple hq
    obtain ⟨u, hu, ru⟩ := rv.get hx
    have hT : s.heap.IsTuple a its.toArray := p
    have hi : i < its.toArray.size := by
      rw [List.size_toArray]
      exact (List.getElem?_eq_some_iff.mp hu).1
    have hel : e < s.heap.objs.size := Heap.lt_size he
    have hil : it < s.heap.objs.size := by
      obtain ⟨_, q, _⟩ := ht
      exact Heap.lt_size q
    have D := Draws.tuple (prog := X.prog) (w := X.w) (A := X.A.in1) (I.ok.hd hc) it a n2 its.toArray
    refine wpAny_pyNext_enum_itemD D he ⟨ht, hT⟩ hi n1 (fun z => ?_) fun y h' tk hy ho hst hnew hsz hk => ?_
    · rcases in2 z with z | z
      · exact n1 z
      · exact n3 z.symm
    · obtain ⟨ht', hT'⟩ := hst
      have ey : y = u := by
        have z : its.toArray[i]? = some u := by simpa using hu
        rw [hy] at z
        exact Option.some.inj z
      subst ey
      refine ⟨_, rfl, wpAny_letOwnedTupleGo_enum (s := { s with heap := h', toks := tk + 1 }) ho fun h2 he2 sb => ?_⟩
      have new2 := (sb.2 _ (Nat.ne_of_gt hel)).trans hnew
      have ob : ObjOk X.prog X.w (upd H s.heap.objs.size (.tup [.int (i : Nat), x])) h2 s.heap.objs.size (.tup [.int (i : Nat), x]) :=
        ⟨(by show 2 ≤ sizeLine; decide), _, .cons ⟨tk, rfl⟩ (.cons ru .nil), _, new2, rfl, _, rfl⟩
      have J : Inv X pins σ (upd H s.heap.objs.size (.tup [.int (i : Nat), x])) { s with heap := h2, toks := tk + 1 } :=
        I.turnedNew (ch := [e, it]) (fun b o hb q => by
          have b1 : b ≠ e := fun z => hb (by rw [z]; exact List.mem_cons_self)
          have b2 : b ≠ it := fun z => hb (by rw [z]; exact List.mem_cons_of_mem _ List.mem_cons_self)
          exact (sb.2 b b1).trans (hk b o b1 b2 q)) hf (Nat.le_refl _) ob
      have hfr : H s.heap.objs.size = none := I.hok.fresh (Nat.le_refl _)
      refine ⟨.ref s.heap.objs.size, _, J, rfl, ⟨_, x, rfl, hfr, rfl, fun ys hy2 => by rw [I.tuple_inj hy2 hq]; exact hx⟩, ⟨⟨y, he2⟩, ht'.at fun o q => (sb.2 it (Ne.symm n1)).trans q, n1, n2, n3⟩, fun b hb => ?_⟩
      have hlt : b < s.heap.objs.size := by
        rcases in2 hb with rfl | rfl
        · exact hel
        · exact hil
      rw [upd_ne (Nat.ne_of_lt hlt)]
      exact (hf b hb).1
  done := by
    intro X hP hw hK hc i pins s σ H E I hf st hg
    subst hP hw hK
    obtain ⟨⟨old, he⟩, ht, n1, n2, n3⟩ := st
    obtain ⟨xs, hq, hx⟩ := hg
    obtain ⟨its, rv, p, hz⟩ := I.tuple hq
    have hT : s.heap.IsTuple a its.toArray := p
    obtain ⟨f0, f1, f2, f3, f4, f5⟩ := hf it (List.mem_cons_of_mem _ List.mem_cons_self)
    have D := Draws.tuple (prog := X.prog) (w := X.w) (A := X.A.in1) (I.ok.hd hc) it a n2 its.toArray
    have hl : its.toArray.size = i := by
      rw [List.size_toArray, ← rv.length]
      exact hx
    refine wpAny_pyNext_enum_endD D he ⟨by rw [hl]; exact ht, hT⟩ fun h' eb => ⟨rfl, I.turned (t' := s.toks) (fun b o hb q => eb b o hb q) f0 f1 f3 f4 f5⟩
  self := fun A i s Q E ⟨⟨_, he⟩, _⟩ h => wpAny_pyIter_enum he h
def iEnT (K : PySem.W.Frag) (ta : TA) : TI := fun σ H R => ta σ H fun vs H1 => ∃ a xs, vs = [.ref a] ∧ SqT K H1 a xs ∧ R (Itn K a) H1
theorem pi_enT {X : Cx} {e : Expr} {ta : TA} {p pos tpos : Pos} {elts : List Expr} {kk : Nat} (hg : Gl X "enumerate") (hm : X.mg "enumerate" = none) (ha : PA X [e] ta) (hs : starEach [e] X.env = [(false, eval e X.env)] := by rfl) :
    PI X (.Tuple elts kk tpos) (.Call (.Name "enumerate" p) [e] [] pos) (iEnT X.K ta) := by
  refine ⟨fun pins s σ H R I h => Call_ (ld_blt I hg hm boot_enumerate (PyProof.Rows.callWith_type1 (thn (ha.run pos pins s σ H _ I h) fun us s1 ⟨vs, H1, I1, r1, a, xs, ex, hq, q⟩ => ?_) hs rfl))⟩
  subst ex
  obtain ⟨v, rfl, rv⟩ := vals1 r1
  cases rv
  obtain ⟨its, rt, hT, hz⟩ := I1.tuple hq
  have hlt : a < s1.heap.objs.size := by
    obtain ⟨_, q, _⟩ := hT
    exact Heap.lt_size q
  refine call_enum1 (begins_tuple a its.toArray) hT fun h' he hit hk => wpAny_pyIter_enum he ?_
  have I2 : Inv X pins σ H1 { s1 with heap := h' } := I1.kept (t' := s1.toks) hk
  refine ⟨s1.heap.objs.size + 1, [s1.heap.objs.size + 1, s1.heap.objs.size], _, _, H1, rfl, I2, turn_enumT a (s1.heap.objs.size + 1) s1.heap.objs.size,
    ⟨⟨.none, he⟩, ⟨_, hit, rfl, rfl⟩, Nat.succ_ne_self _, Nat.ne_of_lt hlt, Nat.ne_of_lt (Nat.lt_succ_of_lt hlt)⟩, fun b hb => ?_, q⟩
  have hle : s1.heap.objs.size ≤ b := by
    rcases in2 hb with rfl | rfl
    · exact Nat.le_succ _
    · exact Nat.le_refl _
  exact I1.fpOk hle (I1.hok.fresh hle)
theorem walk_enT {K : PySem.W.Frag} {a : Addr} {xs : List V} : Walk (Itn K a) xs.length (fun H => SqT K H a xs) (YPair (fun i => some (.int (i : Nat))) (fun i => xs[i]?)) := by
  refine ⟨fun i _ hi q => ⟨xs, xs[i], q, List.getElem?_eq_getElem hi⟩, fun _ q => ⟨xs, q, rfl⟩, fun i H v H' _ q ⟨T, x, h1, h2, h3, h4⟩ => ⟨T, _, x, h1, h2, h3, rfl, h4 xs q⟩⟩
/-- enumerate of a list or a tuple -/
def iEn (K : PySem.W.Frag) (ta : TA) : TI := fun σ H R => iEnum K ta σ H R ∨ iEnT K ta σ H R
theorem pi_en {X : Cx} {e : Expr} {ta : TA} {p pos tpos : Pos} {elts : List Expr} {kk : Nat} (hg : Gl X "enumerate") (hm : X.mg "enumerate" = none) (ha : PA X [e] ta) (hs : starEach [e] X.env = [(false, eval e X.env)] := by rfl) :
    PI X (.Tuple elts kk tpos) (.Call (.Name "enumerate" p) [e] [] pos) (iEn X.K ta) := pi_or2 (pi_enum hg hm ha hs) (pi_enT hg hm ha hs)
end Rb

set_option maxHeartbeats 2000000
/-! dicts of data compared, own ==, tuples whose object is known, a text sorted -/
namespace Rb
open PySem PySem.Spec PyProof.Rows L2

/-! ### dicts whose values are data -/
/-- the two values are data, alike -/
def AlikeD (K : PySem.W.Frag) (H : Hp) (x y : V) : Prop := ∃ d e, Dp K H x d ∧ Dp K H y e ∧ SeqAt.shaped d = true ∧ SeqAt.shaped e = true ∧ d.depth ≤ 32 ∧ PyData.eqv d e = true
def rEqDT (K : PySem.W.Frag) : R2 := fun x y H Q => ∃ a b ks ls, x = .ref a ∧ y = .ref b ∧ H a = some (.dK ks) ∧ H b = some (.dK ls) ∧ ks.length = ls.length ∧ (∀ p ∈ ks, ∃ v, valV ls p.1 = some v ∧ AlikeD K H p.2 v) ∧ Q (.bl true) H
def rNeDT (K : PySem.W.Frag) : R2 := fun x y H Q => ∃ a b ks ls, x = .ref a ∧ y = .ref b ∧ H a = some (.dK ks) ∧ H b = some (.dK ls) ∧ ks.length = ls.length ∧ (∀ p ∈ ks, ∃ v, valV ls p.1 = some v ∧ AlikeD K H p.2 v) ∧ Q (.bl false) H
section
variable {X : Cx} {pins : List (Addr × Obj)} {σ : L2.St} {H : Hp} {s : Shared}
theorem hits_data (I : Inv X pins σ H s) (hu : X.A.units + 64 < cLine) {ls : List (Key × V)} {vb : List (Key × Value)} (rb : KV ls vb) : ∀ {ks : List (Key × V)} {va : List (Key × Value)}, KV ks va →
    (∀ p ∈ ks, ∃ v, valV ls p.1 = some v ∧ AlikeD X.K H p.2 v) → PySem.W.KeqHits X.A.in1 s vb va true
  | _, _, .nil, _ => .nil
  | p :: ps, q :: qs, .cons h t, hp => by
    obtain ⟨v, e, d1, d2, a1, a2, s1, s2, hd, eq⟩ := hp p List.mem_cons_self
    have rr : RelO (some v) (valueAt vb p.1) := e ▸ rb.val p.1
    obtain ⟨y, hy, ry⟩ := rr.some_of
    obtain ⟨as, r1⟩ := Dp.reads I d1 p.2 q.2 a1 h.2
    obtain ⟨bs, r2⟩ := Dp.reads I d2 v y a2 ry
    have ea : SeqAt.EqAt X.A.in1 s q.2 y (PyData.eqv d1 d2) := SeqAt.eqAt_reads d1 d2 X.A.in1 s q.2 y as bs r1 r2 (SeqAt.canLay_of_shaped s1) (SeqAt.canLay_of_shaped s2) (by
      show X.A.units + 1 + min d1.depth d2.depth < cLine
      have := Nat.min_le_left d1.depth d2.depth
      omega)
    rw [eq] at ea
    obtain ⟨k, u⟩ := q
    have hk : p.1 = k := h.1
    rw [hk] at hy
    show PySem.W.KeqHits X.A.in1 s vb ((k, u) :: qs) (true && true)
    exact .hit hy ea (hits_data I hu rb t fun z hz => hp z (List.mem_cons_of_mem _ hz))
end
section
variable {X : Cx}
theorem op_eqDT (hu : X.A.units + 64 < cLine) : OpR X (compareOp .Eq) (rEqDT X.K) := by
  intro pins s σ H x y v u Q I rx ry h
  obtain ⟨a, b, ks, ls, rfl, rfl, ea, eb, hlen, hp, q⟩ := h
  cases rx
  cases ry
  obtain ⟨_, ya, va, ra, da⟩ := I.hok a _ ea
  obtain ⟨_, yb, vb, rb, db⟩ := I.hok b _ eb
  have hl : (va.length == vb.length) = true := by
    rw [← ra.length, ← rb.length, hlen]
    exact beq_self_eq_true _
  exact PySem.W.keq_eq (knd := mixKind X.prog X.w) (r := true) ya yb da db (by omega) (fun _ => hits_data I hu rb ra hp) (fin_bl I q (by rw [hl] <;> rfl))
theorem op_neDT (hu : X.A.units + 64 < cLine) : OpR X (compareOp .NotEq) (rNeDT X.K) := by
  intro pins s σ H x y v u Q I rx ry h
  obtain ⟨a, b, ks, ls, rfl, rfl, ea, eb, hlen, hp, q⟩ := h
  cases rx
  cases ry
  obtain ⟨_, ya, va, ra, da⟩ := I.hok a _ ea
  obtain ⟨_, yb, vb, rb, db⟩ := I.hok b _ eb
  have hl : (va.length == vb.length) = true := by
    rw [← ra.length, ← rb.length, hlen]
    exact beq_self_eq_true _
  exact PySem.W.keq_ne (knd := mixKind X.prog X.w) (r := true) ya yb da db (by omega) (fun _ => hits_data I hu rb ra hp) (fin_bl I q (by rw [hl] <;> rfl))
end

/-! ### own == -/
/-- the == of the class C keeps the promise of two that are alike by R -/
def GoodEq (P : Program) (w : World) (K : PySem.W.Frag) (mg : Str → Option Value) (base : Heap) (k : Nat) (C : Addr) (R : Addr → Addr → Hp → Prop) (ps : List Str) : Prop :=
  ∃ (f : Addr) (fd : FuncData), PySem.W.findIn K (.ref C) "__eq__" = some (some (.ref f)) ∧ PySem.W.isFn K (.ref f) = true ∧ Binds K fd ps [] ∧ FnOk P w K mg base (L2.CX P w) k f fd ps (spEq R)
section
variable {X : Cx} {k : Nat} {C : Addr} {R : Addr → Addr → Hp → Prop} {ps : List Str}
theorem op_eqW (G : GoodEq X.prog X.w X.K X.mg X.base k C R ps) (hr : Room k X.A) : OpR X (compareOp .Eq) (rEqG (DIns C R)) := by
  obtain ⟨f, fd, h1, h2, h3, h4⟩ := G
  exact op_eqG (rcG_ins h4 h1 h2 h3 passL) hr
end
def rNeG (D : Eqv) : R2 := fun x y H Q => D x y H ∧ ∀ H', Ext H H' → Q (.bl false) H'
/-- the != of the class is the object's own -/
structure NeCls (K : PySem.W.Frag) (C : Addr) : Prop where
  ne : PySem.W.findIn K (.ref C) "__ne__" = some (some (.builtin "object.__ne__"))
  ob : PySem.W.subIn K (.ref C) (.type "object") = some true
section
open PySem.W
variable {prog : Program} {w : World} {A : Around} {E : Value → Shared → Prop} {s : Shared} {K : PySem.W.Frag} {x C L : Addr} {h₀ : Heap} {m : Str → Option Value} {ox : Obj} {od : Option Obj} {f : Addr}
/-- a built-in slot found through the class, bound and called -/
theorem bound_slot {M : Model} {args : List Value} {name : Str} {i T : String} {nm : Str} {Q : Option Value → Shared → Prop} (X : K.In s.heap) (I : InstAt s.heap x ox C od) (hs : findIn K (.ref C) name = some (some (.builtin i))) (sl : Slot T nm i)
    (h : wpAny M A (call (.builtin i) (.ref x :: args)) (fun v => Q (some v)) E s) : wpAny M A (callSpecialIfBound? (.ref x) name args) Q E s := by
  have fin : wpAny M A (call (.builtin i) ([.ref x] ++ args) >>= fun v => pure (some v)) Q E s := wpAny_bind (wpAny_mono h (fun v s' h' => wpAny_pure h') fun _ _ e => e)
  simp only [callSpecialIfBound?, bindSpecialIfBound?]
  refine wpAny_holding (wpAny_bind (wpAny_bind (wpAny_bind (I.type.here ((looks_findIn X hs).here (wpAny_bind (wpAny_askSetting (wpAny_ite ?_))))))))
  split
  · exact wpAny_bind (wpAny_of_eq (sl.bind _) (wpAny_pure fin))
  · exact wpAny_tryCatch (wpAny_bind (wpAny_of_eq (sl.bind _) (wpAny_pure fin)))
theorem ne_own {y : Addr} {oy : Obj} {oe : Option Obj} {Q : Value → Shared → Prop} (hu : A.units + 1 < cLine) (X : K.In s.heap) (I : InstAt s.heap x ox C od) (J : InstAt s.heap y oy C oe) (N : NeCls K C)
    (hs : findIn K (.ref C) "__eq__" = some (some (.ref f))) (hf : isFn K (.ref f) = true)
    (h : wpAny (model prog w) A.in1 (call (.ref f) [.ref x, .ref y]) (fun v s' => ∃ b, v = .bool b ∧ Q (.bool (!b)) s') E s) : wpAny (model prog w) A (richCompare .NotEq (.ref x) (.ref y)) Q E s := by
  have isO : Looks (model prog w) s.heap (isInstance (.ref x) (.type "object")) true := I.type.andThen (looks_subIn X N.ob)
  have body : wpAny (model prog w) A.in1 (Builtin.«object.__ne__» ⟨[.ref x, .ref y], []⟩) (fun fin s' => ∃ b, fin = .done (.ret (.bool (!b))) ∧ Q (.bool (!b)) s') E s := by
    unfold Builtin.«object.__ne__»
    repeat (first
      | (with_reducible refine wpAny_cRoomFor hu ?_)
      | (refine wpAny_bind (m := callSpecialIfBound? (.ref x) (Str.ofString "__eq__") [.ref y]) (ifBound_K X I hs hf (wpAny_mono h (fun v s' hv => by
          obtain ⟨b, rfl, hq⟩ := hv
          repeat (first | exact ⟨b, rfl, hq⟩ | exact wpAny_pure ⟨b, rfl, hq⟩ | (refine wpAny_bind (m := truthy (.bool _)) (wpAny_truthy_bool ?_)) | wp_step)) fun _ _ e => e)))
      | wp_step)
  have one : wpAny (model prog w) A (tryCompare (.ref x) "__ne__" (.ref y)) (fun r s' => ∃ b, r = some (.bool (!b)) ∧ Q (.bool (!b)) s') E s := by
    unfold tryCompare
    refine wpAny_bind (bound_slot X I N.ne F.cmp_object.ne (wpAny_call (codeAny_call_builtin F.cmp_object.ne.plain F.cmpEntry_ne (check_slot F.cmpKind_ne F.cmpSplit_ne isO (F.cmpArgs_ne _ _) (wpAny_mono body (fun fin s' hq => ?_) fun _ _ e => e)))))
    obtain ⟨b, rfl, hq⟩ := hq
    exact wpAny_pure ⟨b, rfl, hq⟩
  unfold richCompare
  simp only [oneThing_ref]
  refine wpAny_holding (wpAny_bind (wpAny_cRoomFor (Nat.lt_of_succ_lt hu) ?_))
  rw [cmpInfo_NotEq]
  dsimp only
  refine wpAny_bind (I.type.here (wpAny_bind (J.type.here ?_)))
  rw [show (Value.ref C != Value.ref C) = false from by simp]
  simp only [Bool.false_eq_true, if_false]
  refine wpAny_bind (wpAny_pure ?_)
  simp only [Bool.false_eq_true, if_false]
  refine wpAny_bind (wpAny_mono one (fun r s' hv => ?_) fun _ _ e => e)
  obtain ⟨b, rfl, hq⟩ := hv
  exact wpAny_pure hq
end
section
variable {X : Cx} {k : Nat} {C : Addr} {R : Addr → Addr → Hp → Prop} {ps : List Str}
def GoodNe (P : Program) (w : World) (K : PySem.W.Frag) (mg : Str → Option Value) (base : Heap) (k : Nat) (C : Addr) (R : Addr → Addr → Hp → Prop) (ps : List Str) : Prop := NeCls K C ∧ GoodEq P w K mg base k C R ps
theorem op_neW (G : GoodNe X.prog X.w X.K X.mg X.base k C R ps) (hr : Room (k + 1) X.A) : OpR X (compareOp .NotEq) (rNeG (DIns C R)) := by
  obtain ⟨N, f, fd, h1, h2, h3, h4⟩ := G
  intro pins s σ H x y v u Q I rx ry ⟨⟨a, b, dx, dy, fs, gs, ex, ey, ha, hb, hR⟩, q⟩
  subst ex ey
  cases rx
  cases ry
  obtain ⟨mA, O, _⟩ := ins_get I.hok ha
  obtain ⟨mB, O', _⟩ := ins_get I.hok hb
  obtain ⟨od, J, _⟩ := O.look
  obtain ⟨od', J', _⟩ := O'.look
  have hsp : spEq R [.ref a, .ref b] H (fun v H' => v = .bl true ∧ Ext H H') E0 := ⟨a, b, rfl, hR, fun H' e => ⟨rfl, e⟩⟩
  show wpAny (model X.prog X.w) X.A (richCompare .NotEq (.ref a) (.ref b)) (EP X pins σ Q) X.xe s
  refine ne_own (by have := hr.units; omega) I.kIn J J' N h1 h2 ?_
  have e0 : Env0 X.prog X.w X.K X.mg X.base X.A.in1 X.stack s H := I.env0.in1
  have r2 : Vals [V.ref a, V.ref b] [Value.ref a, Value.ref b] := .cons rfl (.cons rfl .nil)
  have hl := h4.len _ _ _ _ hsp
  refine wpAny_call (codeAny_mono (h4.run X.A.in1 X.stack s H ⟨[.ref a, .ref b], []⟩ [.ref a, .ref b] [.ref a, .ref b] _ E0 hr.in1 e0 (h3 s [.ref a, .ref b] I.kIn hl) r2 hsp) fun r s' hq => ?_)
  cases r with
  | error e => exact passL pins σ H s e s' I hq
  | ok fl =>
    cases fl with
    | ret z =>
      obtain ⟨c, H', I', rz, ez, ext⟩ := I.after hq
      subst ez
      cases rz
      exact ⟨true, rfl, .bl false, H', I', rfl, q H' ext⟩
    | next => exact False.elim hq
    | brk => exact False.elim hq
    | cont => exact False.elim hq
end
end Rb

set_option maxHeartbeats 2000000
/-! own exceptions: without __init__; with an __init__ that says super().__init__('..') and keeps one field -/
namespace Rb
open PySem PySem.Spec PyProof.Rows L2
open PySem.W PySem.Calls PySem.HandSPX

/-- what an __init__ leaves of a fresh exception at x -/
structure InitEnd (h h' : Heap) (x C dx t1 : Addr) (f : Str) (v : Value) : Prop where
  keep : ∀ b o, b ≠ x → h.get? b = some o → h'.get? b = some o
  obj : h'.get? x = some { cls := .ref C, dict := some dx, data := .fields #[.ref t1, .none, .none, .none, .bool false, .none] }
  dbig : h.objs.size ≤ dx
  dne : dx ≠ x
  ns : h'.Ns1 dx (fun y => if y = f then some v else none)
/-- a made exception -/
structure OwnMade (h h' : Heap) (e C d : Addr) (f : Str) (v : Value) : Prop where
  keep : ∀ b o, h.get? b = some o → h'.get? b = some o
  new : h.objs.size ≤ e
  obj : ∃ oe vs, h'.get? e = some oe ∧ oe.cls = .ref C ∧ oe.dict = some d ∧ oe.data = .fields vs ∧ vs[1]? = some .none
  dbig : h.objs.size ≤ d
  dne : d ≠ e
  ns : h'.Ns1 d (fun y => if y = f then some v else none)
/-- what the written part says of the class at C: its __init__ (at fI, the text st) says super().__init__('m'), then self.f = f -/
structure BigT (P : Program) (K : Frag) (mg : Str → Option Value) (x : Str) (C fI : Addr) (f : Str) (qual : Str) (st : Stmt) : Prop where
  ox : OexC K C
  gC : mg x = some (.ref C)
  gs : mg "super" = none
  ga : findIn K (.ref C) "__getattribute__" = some (some (.builtin "BaseException.__getattribute__"))
  gg : findIn K (.ref C) "__getattr__" = some none
  noN : findIn K (.ref C) f = some none
  iC : findIn K (.ref C) "__init__" = some (some (.ref fI))
  tC : typeIn K (.ref fI) = some (.type "function")
  hdC : hasDictIn K C = true
  te : exmOne K (.ref C) (.ref C) = some true
  fn : ∃ (oc : Value) (od : Option Addr) (kV doc pm : Value) (an : Option Addr) (cda : Addr) (ct : Value) (osl : Array (Option Value)) (cc : Addr) (ccl : Value) (cdd : Option Addr) (vs : Array Value) (ccs : Array (Option Value)) (file : Str) (tf : Tok) (cl : Value) (cld : Option Addr) (csl : Array (Option Value)) (cd : ClassData),
    K.lookup fI = some ⟨oc, od, .func (ksFn "__init__" qual (defArgs st) (defBody st) (defScope st) .none kV doc pm an (.ref cda) ct cc), osl⟩ ∧ codeIn K (.ref cda) qual = true ∧
    K.lookup cda = some ⟨ccl, cdd, .fields vs, ccs⟩ ∧ vs[2]? = some (.str file tf) ∧ ((P.main.file : Str) == file) = true ∧ K.lookup cc = some ⟨cl, cld, .cell (some (.ref C)), csl⟩ ∧ clsIn K C = some cd ∧
    Binds K (ksFn "__init__" qual (defArgs st) (defBody st) (defScope st) .none kV doc pm an (.ref cda) ct cc) ["self", f] []
  sub : mroIn K C (.ref C) = some true
  sup : ks_superIn K C C "__init__" = some (some (.builtin "ValueError.__init__"))
  opq : nsIn K cStatics "thirdparty.any" = some none
  ve : subIn K (.ref C) (.type "ValueError") = some true
/-- .. and of the text -/
structure BigS (P : Program) (f : Str) (st : Stmt) : Prop where
  body : ∃ (m : Str) (j : Nat) (p0 p1 p2 p3 p4 p5 q1 q2 q3 q4 : Pos), defBody st = [.Expr (.Call (.Attribute (.Call (.Name "super" p0) [] [] p1) "__init__" p2) [.Constant (.str m) j p3] [] p4) p5, .Assign [.Attribute (.Name "self" q1) f q2] (.Name f q3) q4] ∧ (p2.endLine == p4.line) = true
  head : ∃ ar : Arg, ((defArgs st).posonlyargs ++ (defArgs st).args).head? = some ar ∧ ar.arg = "self"
  scope : ∃ nms mo, defScope st = { kind := .function, names := nms, isGenerator := false, isCoroutine := false, more := mo }
  lself : (defScope st).names.lookup ("self" : Str) = some .local
  lf : (defScope st).names.lookup f = some .local
  ls : (defScope st).names.lookup ("super" : Str) = some .globalImplicit
  lc : (defScope st).names.lookup ("__class__" : Str) = some .free
  cell : ∀ x ∈ (defScope st).names, x.2 ≠ .cell
  ne : f ≠ "self"
  nd : (f == ("__debug__" : Str)) = false
  top : (P.main.scope.names.lookup ("super" : Str)).isSome = false
section
variable {prog : Program} {w : World} {A : Around} {E : Value → Shared → Prop} {R : Result → Shared → Prop} {s : Shared} {K : Frag} {mg : Str → Option Value} {C fI : Addr} {xn f qual : Str} {st : Stmt}
theorem call_eq {o e : Expr} {name : Str} {apos pos : Pos} {env : Env} (hln : (apos.endLine == pos.line) = true) (hst : starEach [e] env = [(false, eval e env)]) : eval (.Call (.Attribute o name apos) [e] [] pos) env = (do
      let ov ← attributeBase o name env (eval o env)
      standAt apos.atName
      let (f, first) ← holding [ov] (getMethod ov name (do return (← importBound o env).getD true))
      callWith pos f first (backTo pos (starEach [e] env)) []) := by
  have hform : methodCallForm ([e].length + ([] : List Keyword).length) (backTo pos (starEach [e] env)) (backToKw pos (keywordEach [] env)) = true := by
    rw [hst]
    rfl
  have hpos : methodCallPos true o env apos pos = pure pos := by unfold methodCallPos; simp [hln]
  rw [arm_eval_Call]
  unfold methodCall
  rw [hform, hpos]
  rfl
/-- ValueError.__init__ bound, called -/
theorem call_mw {hp : Heap} {g : Array GenState} {d : Drawn} {t : Nat} {os : OsState} {nm q : Str} {N : Addr} {bs bm : List Value} {hdct : Bool} {sn : List Str} {sub : List Value} {ab : Bool} {col : Option Bool} {dd : Option Addr} {k0 k1 k2 k3 k5 : Option Value} {u e t0 : Addr} {rest : List Value} {Q : Value → Shared → Prop}
    (hC : hp.get? C = some (excClassObj nm q C N bs bm hdct sn sub ab col dd k0 k1 k2 k3 k5 "ValueError.__new__")) (he : hp.get? e = some (HandSPX.excO C t0)) (hu : hp.get? u = some (kxs_mw "ValueError.__init__" e)) (hrest : rest.length ≤ sizeLine)
    (hq : ∀ h' t1, (∀ b o, b ≠ e → hp.get? b = some o → h'.get? b = some o) → h'.get? e = some (HandSPX.excO C t1) → Q .none ⟨h', g, d, t, os⟩) :
    wpAny (model prog w) A (call (.ref u) rest) Q E ⟨hp, g, d, t, os⟩ := by
  refine wpAny_call (codeAny_of_tree ?_)
  show wpAny _ A.in1 (callAny (.ref u) ⟨rest, []⟩) _ _ _
  simp only [callAny]
  refine wpAny_bind (wpAny_load hu ?_)
  simp only [kxs_mw, show (Value.type "method-wrapper" == Value.type "method" || Value.type "method-wrapper" == Value.type "builtin_function_or_method" || Value.type "method-wrapper" == Value.type "method-wrapper") = true by decide, if_true]
  refine KFB.if_so (by decide) ?_
  refine wpAny_bind (check_bound_init F.excBase_ValueError.toExcCallFacts hC he rfl ?_)
  refine wpAny_bind (wpAny_pure (wpAny_pure ?_))
  refine ⟨plainId_quiet F.excBase_ValueError.init.plain _, codeAny_builtin F.excBase_ValueError.initEntry ?_⟩
  exact exc_init_tree (cls := .ref C) (t0 := t0) (dv := none) (c2 := .none) (c3 := .none) (b4 := .bool false) he hrest fun h' k e' t' => hq h' _ k e'
theorem big_init (T : BigT prog K mg xn C fI f qual st) (S : BigS prog f st) {x t0 : Addr} {v : Value} {mb : Str → Option Value} (X : K.In s.heap) (hlim : s.heap.NoLimit) (hg : s.heap.Ns mainGlobals mg) (hb : s.heap.Ns builtinsNs mb) (hsu : mb "super" = some (.type "super"))
    (hx : s.heap.get? x = some (HandSPX.excO C t0)) (hnx : K.lookup x = none) (hroom : A.depth < recursionLimit)
    (hq : ∀ h' tk dx t1, InitEnd s.heap h' x C dx t1 f v → R (.ok (.ret .none)) { s with heap := h', toks := tk }) :
    codeAny (model prog w) A (.call (.ref fI) ⟨[.ref x, v], []⟩) R s := by
  obtain ⟨oc, od, kV, doc, pm, an, cda, ct, osl, cc, ccl, cdd, vs, ccs, file, tf, cl, cld, csl, cd, ho, hcd, hcda, hvs, hfile, hcc, hcls, hbd⟩ := T.fn
  obtain ⟨nm, q, N, bs, bm, sn, sub, ab, col, dd, k0, k1, k2, k3, k5, hC, hbm⟩ := T.ox.cls
  have hcl : clsIn K C = some { name := nm, bases := bs, mro := .ref C :: bm, ns := N, qualname := q, hasDict := true, slotNames := sn, subclasses := sub, abstract := ab, collection := col, hasDel := false } := by unfold clsIn; rw [hC] <;> rfl
  obtain ⟨m, j, p0, p1, p2, p3, p4, p5, q1, q2, q3, q4, hbody, hln⟩ := S.body
  obtain ⟨ar, har, hsf⟩ := S.head
  have hbind : BindsTo s (ksFn "__init__" qual (defArgs st) (defBody st) (defScope st) .none kV doc pm an (.ref cda) ct cc) ⟨[.ref x, v], []⟩ [(("self" : Str), Value.ref x), (f, v)] := hbd s [.ref x, v] X rfl
  obtain ⟨nms, mo, hsc⟩ := S.scope
  have l1 := S.lself
  have l2 := S.lf
  have l3 := S.ls
  have l4 := S.lc
  have l5 := S.cell
  have l6 := S.nd
  rw [hsc] at ho hbind l1 l2 l3 l4 l5
  rw [hbody] at ho hbind
  refine ks_codeAny_call_defAt (fd := ksFn "__init__" qual (defArgs st) _ { kind := .function, names := nms, isGenerator := false, isCoroutine := false, more := mo } .none kV doc pm an (.ref cda) ct cc) (binds := [(("self" : Str), Value.ref x), (f, v)]) hroom (X _ _ ho) rfl hlim (codeRec_of X hcd) rfl hbind l5 ?_ (fun h₁ hns hk => ?_) rfl rfl rfl
  · intro y hy
    rcases List.mem_cons.mp hy with rfl | hy
    · exact l1
    · rw [List.mem_singleton] at hy
      subst hy
      exact l2
  have X₁ : K.In h₁ := X.keeps hk
  have hx₁ := hk _ _ hx
  have nlt : s.heap.objs.size ≠ x := Nat.ne_of_gt (Heap.lt_size hx)
  have ms : List.lookup ("self" : Str) [(("self" : Str), Value.ref x), (f, v)].reverse = some (.ref x) := by
    show List.lookup ("self" : Str) [(f, v), (("self" : Str), Value.ref x)] = _
    rw [List.lookup_cons, show (("self" : Str) == f) = false by simpa using Ne.symm S.ne]
    rfl
  have mf : List.lookup f [(("self" : Str), Value.ref x), (f, v)].reverse = some v := by
    show List.lookup f [(f, v), (("self" : Str), Value.ref x)] = _
    rw [List.lookup_cons, show (f == f) = true by simp]
  obtain ⟨hp, g, dr, tk, os⟩ := s
  refine ks_wpAt_execs_cons (ks_wpAt_Expr_any (ks_wpAt_MethodCall (ks_wpAt_super_base (fd := ksFn "__init__" qual (defArgs st) _ { kind := .function, names := nms, isGenerator := false, isCoroutine := false, more := mo } .none kV doc pm an (.ref cda) ct cc) l3 l4 (by decide) rfl (X₁ _ _ ho) rfl har rfl (X₁ _ _ hcda) rfl hvs hfile S.top ?_) (call_eq hln rfl)))
  · refine ks_loadName_global rfl l3 (loadGlobal_builtin (hg.keeps hk) T.gs (hb.keeps hk) hsu ⟨rfl, ?_⟩)
    refine wpAny_loadName_free rfl l4 rfl ⟨_, X₁ _ _ hcc, rfl⟩ ?_
    rw [hsf]
    refine wpAny_loadName_local rfl l1 hns ms ?_
    have hD : h₁.get? C = some (excClassObj nm q C N bs bm true sn sub ab col dd k0 k1 k2 k3 k5 "ValueError.__new__") := X₁ _ _ hC
    refine ks_wpAny_isType_cls hD rfl ⟨rfl, ?_⟩
    refine ks_wpAny_call_super hD rfl hx₁ rfl (fun c e => by cases e) (looks_mroIn X₁ T.sub) (fun h₂ hso k₂ => ?_)
    have X₂ : K.In h₂ := X₁.keeps k₂
    have hx₂ := k₂ _ _ hx₁
    have I₂ : InstAt h₂ x (HandSPX.excO C t0) C none := ⟨hx₂, rfl, rfl, trivial⟩
    have hxC : x ≠ C := fun z => by rw [z, hC] at hnx; cases hnx
    have hsup := T.sup
    unfold ks_superIn at hsup
    rw [hcl] at hsup
    refine kxs_getMethod kxs_ValueError hso (looks_opaque X₂ T.opq) (l₀ := .ref C :: bm) (fun A Q E s k q => wpAny_bind ((looks_clsIn X₂ hcl) A _ E s k (wpAny_pure q))) rfl X₂ hsup (I₂.type.andThen (looks_subIn X₂ T.ve)) hxC (by decide) ?_
    show wpAny _ _ (callWith _ (.ref h₂.objs.size) [] _ _) _ _ _
    have k₃ : ∀ b o, h₂.get? b = some o → (h₂.push (kxs_mw "ValueError.__init__" x)).get? b = some o := fun b o e => Heap.get?_push_of_some _ e
    have hmw : (h₂.push (kxs_mw "ValueError.__init__" x)).get? h₂.objs.size = some (kxs_mw "ValueError.__init__" x) := Heap.get?_push_at rfl rfl
    refine kxs_callWith (i := "ValueError.__init__") (x := x) rfl (evalArgs_plain (spliced_cons (Constant_str (k := j) (pos := p3) (spliced_nil ⟨hmw, ?_⟩))))
    refine call_mw (k₃ _ _ (k₂ _ _ hD)) (k₃ _ _ hx₂) hmw (by show 1 ≤ sizeLine; rw [sizeLine_eq]; omega) (fun h₄ t1 k₄ hx₄ => ?_)
    have kk : ∀ b o, b ≠ x → h₁.get? b = some o → h₄.get? b = some o := fun b o hb e => k₄ b o hb (k₃ b o (k₂ b o e))
    have X₄ : K.In h₄ := fun b o e => kk b o (fun z => by rw [z, hnx] at e; cases e) (X₁ b o e)
    have hns₄ : h₄.Ns hp.objs.size (fun y => List.lookup y [(("self" : Str), Value.ref x), (f, v)].reverse) := hns.at fun o e => kk _ o nlt e
    refine ks_wpAt_execs_cons (ks_wpAt_Assign_Attr (wpAt_of_any ?_))
    refine wpAny_Name (wpAny_loadName_local rfl l2 hns₄ mf ?_) l6
    refine wpAny_Name (wpAny_loadName_local rfl l1 hns₄ ms ?_) (by decide)
    refine set_plain X₄ (ox := HandSPX.excO C t1) (od := none) ⟨hx₄, rfl, rfl, trivial⟩ T.ox.sa ?_
    refine exc_osa X₄ hx₄ hcl (show refsVE (.ref C :: bm) = true from hbm) rfl T.noN (fun h₅ tk₅ dx k₅ dn dne hx₅ hn₅ => ?_)
    have z : hp.objs.size < h₁.objs.size := hns.lt
    refine wpAt_of_any (wpAny_execs_nil ?_)
    exact hq h₅ tk₅ dx t1 ⟨fun b o hb e => k₅ b o hb (kk b o hb (hk b o e)), hx₅, Nat.le_trans (Nat.le_of_lt hns₄.lt) dn, dne, hn₅⟩
theorem big_made (T : BigT prog K mg xn C fI f qual st) (S : BigS prog f st) {v : Value} {mb : Str → Option Value} (X : K.In s.heap) (hlim : s.heap.NoLimit) (hg : s.heap.Ns mainGlobals mg) (hb : s.heap.Ns builtinsNs mb) (hsu : mb "super" = some (.type "super")) (hroom : A.depth + 1 < recursionLimit)
    (hq : ∀ h' tk e d, OwnMade s.heap h' e C d f v → R (.ok (.ret (.ref e))) { s with heap := h', toks := tk }) :
    codeAny (model prog w) A (.call (.ref C) ⟨[v], []⟩) R s := by
  obtain ⟨nm, q, N, bs, bm, sn, sub, ab, col, dd, k0, k1, k2, k3, k5, hC, hbm⟩ := T.ox.cls
  obtain ⟨hp, g, dr, tk, os⟩ := s
  have k : ∀ b o, hp.get? b = some o → ((hp.push (kdv_tup [v])).push (HandSPX.excO C hp.objs.size)).get? b = some o := fun b o e => Heap.get?_push_of_some _ (Heap.get?_push_of_some _ e)
  have hget : ((hp.push (kdv_tup [v])).push (HandSPX.excO C hp.objs.size)).get? (hp.objs.size + 1) = some (HandSPX.excO C hp.objs.size) := by heap_get
  have hnx : K.lookup (hp.objs.size + 1) = none := by
    cases e : K.lookup (hp.objs.size + 1) with
    | none => rfl
    | some o =>
      have z : hp.get? (hp.objs.size + 1) = some o := X _ _ e
      exact absurd (Nat.lt_of_succ_lt (Heap.lt_size z)) (Nat.lt_irrefl _)
  refine call_own F.excBase_ValueError (fun X => refsVE_contains X bm hbm) (X _ _ hC) (looks_findIn X T.iC) (fun self => bind_fn X self T.tC) (by show 1 ≤ sizeLine; rw [sizeLine_eq]; omega) ?_
  refine big_init (s := ⟨(hp.push (kdv_tup [v])).push (HandSPX.excO C hp.objs.size), g, dr, tk, os⟩) T S (X.keeps k) (hlim.keeps k) (hg.keeps k) (hb.keeps k) hsu hget hnx ?_ fun h' tk' dx t1 ⟨k', hx, dn, dne, hns⟩ => ?_
  · show A.depth + 1 < recursionLimit
    exact hroom
  · have old : ∀ b o, hp.get? b = some o → h'.get? b = some o := fun b o e => k' b o (Nat.ne_of_lt (Nat.lt_succ_of_lt (Heap.lt_size e))) (k b o e)
    have z : hp.objs.size + 1 + 1 ≤ dx := by
      have q := dn
      simp only [Heap.size_push] at q
      exact q
    exact ⟨rfl, hq h' tk' (hp.objs.size + 1) dx ⟨old, Nat.le_succ _, ⟨_, _, hx, rfl, rfl, rfl, rfl⟩, Nat.le_trans (Nat.le_trans (Nat.le_succ _) (Nat.le_succ _)) z, dne, hns⟩⟩
end
theorem boot_super : bootBuiltins "super" = some (.type "super") := by kernel_rfl
theorem relO_one {f : Str} {v : V} {u : Value} (r : RelV v u) (g : Str) : RelO (List.lookup g [(f, v)]) (if g = f then some u else none) := by
  by_cases hw : g = f
  · subst hw
    rw [if_pos rfl, List.lookup_cons, show (g == g) = true by simp]
    exact r
  · rw [if_neg hw, List.lookup_cons, show (g == f) = false by simpa using hw]
    trivial
section
variable {X : Cx} {C fI : Addr} {xn f qual : Str} {st : Stmt}
/-- C(e) -/
def tMkBig (C : Addr) (f : Str) (ta : TA) : L2.St → Hp → XK → Prop := fun σ H Q => ta σ H fun vs H1 => ∃ v, vs = [v] ∧ ∀ d, H1 d = none → Q (.ref C) (some d) (upd H1 d (.xd [(f, v)]))
theorem pmk_big {a : Expr} {ta : TA} {p pos : Pos} {k : Nat} (T : BigT X.prog X.K X.mg xn C fI f qual st) (S : BigS X.prog f st) (hr : Room k X.A) (ha : PA X [a] ta) (hg : Gl X xn := by rfl) (hdb : (xn == ("__debug__" : Str)) = false := by decide)
    (he : starEach (a :: []) X.env = (false, eval a X.env) :: starEach [] X.env := by rfl) (hpl : (backTo pos (starEach [] X.env)).any (·.1) = false := by rfl) :
    PMk X (.Call (.Name xn p) [a] [] pos) (tMkBig C f ta) := by
  intro pins s σ H Q I h
  refine wpAny_Call_Name_kw (ld_glob I hg T.gC ?_ hdb)
  refine PySem.W.callWith_K (h₀ := X.base) I.ok.mod.kin T.ox.kC (thn (ha.run pos pins s σ H _ I h) fun us s1 hh => ?_) he hpl
  obtain ⟨vs, H1, I1, r1, v, ev, q1⟩ := hh
  subst ev
  refine ⟨I1.kIn, ?_⟩
  cases r1 with
  | cons rv rn =>
    rename_i v' us'
    cases rn
    show wpAny _ _ (call (.ref C) [v']) _ _ _
    have hlim := I1.nolimit
    obtain ⟨mb, h1, h2⟩ := I1.mod.blt
    have hgl := I1.mod.glob.keeps I1.bk
    have hbl := h1.keeps I1.bk
    obtain ⟨hp, g, dr, tk, os⟩ := s1
    refine wpAny_call (big_made T S I1.kIn hlim hgl hbl ((h2 _ (by decide)).trans boot_super) (by have := hr.dp; omega) fun h' tk' e d M => ?_)
    show MkP X pins σ Q (.ref e) ⟨h', g, dr, tk', os⟩
    obtain ⟨oe, fv, hoe, hc, hd, hdat, h1⟩ := M.obj
    have hns := M.ns
    obtain ⟨G', g1, g2⟩ := restrict h' fun b => decide (b ≠ e)
    have gk : ∀ b, b ≠ e → G'.get? b = h'.get? b := fun b hb => g1 b (decide_eq_true hb)
    have ge : G'.get? e = none := g2 e (by simp)
    have old : ∀ b o, hp.get? b = some o → G'.get? b = some o := fun b o q => (gk b (Nat.ne_of_lt (Nat.lt_of_lt_of_le (Heap.lt_size q) M.new))).trans (M.keep b o q)
    have ob : ObjOk X.prog X.w (upd H1 d (.xd [(f, v)])) G' d (.xd [(f, v)]) :=
      ⟨_, hns.at (fun o q => (gk d M.dne).trans q), fun g => relO_one rv g⟩
    have J : Inv X pins σ (upd H1 d (.xd [(f, v)])) ⟨G', g, dr, tk', os⟩ := I1.laid (t' := tk') old M.dbig ob
    refine ⟨e, oe, fv, ⟨G', g, dr, tk', os⟩, _, .ref C, some d, rfl, J, fun b o q => ?_, ge, hoe, ⟨hc, hd⟩, hdat, h1, ?_, rfl, I1.bare, raises_own T.ox.exC T.ox.tyC, q1 d (I1.hok.fresh M.dbig)⟩
    · by_cases hb : b = e
      · have q' : G'.get? b = some o := q
        rw [hb, ge] at q'; cases q'
      · exact (gk b hb).symm.trans q
    · rw [upd_ne (Ne.symm M.dne)]
      exact I1.hok.fresh M.new
/-- raise C(e) -/
def tRaiseB (C : Addr) (f : Str) (W : WX) (ta : TA) : TS := fun _ σ H => tMkBig C f ta σ H fun cls d H' => W cls d σ H'
theorem ps_raiseBig {a : Expr} {ta : TA} {W : WX} {p pos pos2 : Pos} {k : Nat} (hc : X.calm = true) (T : ∃ fI, BigT X.prog X.K X.mg xn C fI f qual st) (S : BigS X.prog f st) (hr : Room k X.A) (tk : Takes X W) (ha : PA X [a] ta) (hg : Gl X xn := by rfl) (hdb : (xn == ("__debug__" : Str)) = false := by decide)
    (he : starEach (a :: []) X.env = (false, eval a X.env) :: starEach [] X.env := by rfl) (hpl : (backTo pos (starEach [] X.env)).any (·.1) = false := by rfl) :
    PS X (.Raise (some (.Call (.Name xn p) [a] [] pos)) none pos2) (tRaiseB C f W ta) := by
  obtain ⟨fI, T⟩ := T
  exact ps_raise hc tk (pmk_big T S hr ha hg hdb he hpl)
/-- e.f, e the exception that the suite holds (at a; its class cls, its dict d) -/
def tByB (C : Addr) (f : Str) (a : Addr) (cls : Value) (d : Option Addr) (te : TE) : TE := fun σ H Q => te σ H fun x H1 => x = .ref a ∧ cls = .ref C ∧ ∃ (dd : Addr) (v : V), d = some dd ∧ H1 dd = some (.xd [(f, v)]) ∧ Q v H1
theorem pe_byB {a : Addr} {oe : Obj} {cls : Value} {d : Option Addr} {pn : List (Addr × Obj)} {e : Expr} {te : TE} {pos : Pos} (T : ∃ fI, BigT X.prog X.K X.mg xn C fI f qual st) (hz : Zc cls d oe) (hf : ∃ vs, oe.data = .fields vs) (he : PE (X.suite a ((a, oe) :: pn)) e te)
    (hb : attributeBase e f X.env (eval e X.env) = eval e X.env := by rfl) :
    PE (X.suite a ((a, oe) :: pn)) (.Attribute e f pos) (tByB C f a cls d te) := by
  obtain ⟨fI, T⟩ := T
  refine ⟨fun pins s σ H Q I h => ?_⟩
  refine attr_of hb (thn (he.run pins s σ H _ I h) fun u s1 hh => ?_)
  obtain ⟨x, H1, I1, rx, ex, ec, dd, v, ed, ea, q⟩ := hh
  subst ex
  obtain rfl : u = Value.ref a := rx
  subst ec
  subst ed
  obtain ⟨ha, _⟩ := I1.pin (a, oe) (List.mem_append_left _ List.mem_cons_self)
  obtain ⟨vs, hd⟩ := hf
  have hx : ObjOk X.prog X.w H1 s1.heap dd (.xd [(f, v)]) := I1.hok dd _ ea
  obtain ⟨mA, hns, hr⟩ := hx
  obtain ⟨od, ho, hl⟩ := lookIn_ns hns
  have l : List.lookup f [(f, v)] = some v := by simp [List.lookup]
  obtain ⟨u, hu, ru⟩ := RelO.some_of (v := v) (o := mA f) (by rw [← l]; exact hr f)
  have J : PySem.W.InstAt s1.heap a oe C (some od) := ⟨ha, hz.1, by unfold PySem.W.notCls; rw [hd] <;> rfl, by rw [hz.2]; exact ho⟩
  exact HandSPX.exc_get I1.kIn J T.ga T.gg T.ox.exC (PySem.W.findObj_own T.hdC T.noN rfl (by rw [hl, hu])) (handed_of ru) ⟨v, H1, I1.tok _, ru, q⟩
/-- C(), C without __init__ -/
structure Exc0 (K : Frag) (mg : Str → Option Value) (x : Str) (C : Addr) : Prop where
  gC : mg x = some (.ref C)
  q : excIn K C [.type "ValueError", .type "Exception", .type "BaseException", .type "object"] "ValueError.__new__" = true
  kC : keepIn K (.ref C) = true
  exC : subIn K (.ref C) (.type "BaseException") = some true
  tyC : typeIn K (.ref C) = some (.type "type")
  te : exmOne K (.ref C) (.ref C) = some true
theorem pmk_own0 {p pos : Pos} (T : Exc0 X.K X.mg xn C) (hg : Gl X xn := by rfl) (hdb : (xn == ("__debug__" : Str)) = false := by decide) : PMk X (.Call (.Name xn p) [] [] pos) (fun _ H Q => Q (.ref C) none H) := by
  intro pins s σ H Q I h
  refine wpAny_Call_Name_kw (ld_glob I hg T.gC ?_ hdb)
  refine PySem.W.callWith_K0 I.kIn T.kC ?_
  show wpAny _ _ (call (.ref C) []) _ _ _
  obtain ⟨bm, N, nm, qn, bs, hdct, sn, sub, ab, col, dd, k0, k1, k2, k3, k5, mN, hC, hN, hni, TT⟩ := exc_obj I.kIn T.q
  refine wpAny_call_exc_subT F.excBase_ValueError TT hC hN hni (fun h' e hm => ?_) (by show 0 ≤ sizeLine; omega)
  exact mk_of I hm (raises_own T.exC T.tyC) h (I.hok.gone hm.new)
def tRaise0 (C : Addr) (W : WX) : TS := fun _ σ H => W (.ref C) none σ H
theorem ps_raise0 {W : WX} {p pos pos2 : Pos} (hc : X.calm = true) (T : Exc0 X.K X.mg xn C) (tk : Takes X W) (hg : Gl X xn := by rfl) (hdb : (xn == ("__debug__" : Str)) = false := by decide) : PS X (.Raise (some (.Call (.Name xn p) [] [] pos)) none pos2) (tRaise0 C W) := ps_raise hc tk (pmk_own0 T hg hdb)
end
end Rb

set_option maxHeartbeats 2000000
/-! a try with several clauses, some that name the exception -/
namespace Rb
open PySem PySem.Spec PyProof.Rows L2

/-- a clause: its class; the slot that holds the exception; its suite's reading -/
inductive Cl
  | un (c : Value) (ts : Addr → Value → Option Addr → TS)
  | as (c : Value) (i : Nat) (ts : Addr → Value → Option Addr → TS)
/-- what the clauses wish of an exception of the body -/
def wCl (K : PySem.W.Frag) (Wout : WX) (D : Ends) : List Cl → WX
  | [] => Wout
  | .un c ts :: r => fun cls d σ H => ∃ b, PySem.W.exmOne K cls c = some b ∧ (b = true → ∀ a, H a = none → ts a cls d D σ H) ∧ (b = false → wCl K Wout D r cls d σ H)
  | .as c i ts :: r => fun cls d σ H => ∃ b, PySem.W.exmOne K cls c = some b ∧ (b = true → ∀ a, H a = none → ts a cls d ⟨fun σ' H' => D.nx (σ'.set i none) H', D.rt, fun σ' H' => D.bk (σ'.set i none) H', fun σ' H' => D.ct (σ'.set i none) H'⟩ (σ.set i (some (.ref a))) H) ∧
      (b = false → wCl K Wout D r cls d σ H)
inductive ClsOk (X : Cx) : List ExceptHandler → List Cl → Prop
  | nil : ClsOk X [] []
  | un {x : Str} {c : Value} {ts : Addr → Value → Option Addr → TS} {b₀ : Stmt} {suite : List Stmt} {np pos' : Pos} {hds : List ExceptHandler} {l : List Cl} (hc : Names X x c)
      (hsu : ∀ (a : Addr) (oe : Obj) (cls : Value) (d : Option Addr) (pn : List (Addr × Obj)), Zc cls d oe → (∃ vs, oe.data = .fields vs) → PSs (X.suite a ((a, oe) :: pn)) (b₀ :: suite) (ts a cls d)) (r : ClsOk X hds l) :
      ClsOk X (.ExceptHandler (some (.Name x np)) none (b₀ :: suite) pos' :: hds) (.un c ts :: l)
  | as {x n : Str} {c : Value} {i : Nat} {ts : Addr → Value → Option Addr → TS} {b₀ : Stmt} {suite : List Stmt} {np pos' : Pos} {hds : List ExceptHandler} {l : List Cl} (hi : X.N[i]? = some n) (hln : X.env.kindOf n = some .local) (hc : Names X x c)
      (hsu : ∀ (a : Addr) (oe : Obj) (cls : Value) (d : Option Addr) (pn : List (Addr × Obj)), Zc cls d oe → (∃ vs, oe.data = .fields vs) → PSs (X.suite a ((a, oe) :: pn)) (b₀ :: suite) (ts a cls d)) (r : ClsOk X hds l) :
      ClsOk X (.ExceptHandler (some (.Name x np)) (some n) (b₀ :: suite) pos' :: hds) (.as c i ts :: l)
def tTry (K : PySem.W.Frag) (Wout : WX) (tb : WX → TS) (l : List Cl) : TS := fun D σ H => tb (wCl K Wout D l) D σ H
theorem ps_tryCl {X : Cx} {body : List Stmt} {h₀ : ExceptHandler} {hds : List ExceptHandler} {l : List Cl} {pos : Pos} {tb : WX → TS} {Wout : WX} (hs : X.stack = X.env :: X.outer) (hf : X.env.frame = some X.env.locals) (hN : X.N.Nodup) (tk : Takes X Wout)
    (hb : ∀ (W : WX) (pn : List (Addr × Obj)) (xe : Value → Shared → Prop), Takes (X.tr pn xe) W → PassesOwn (model X.prog X.w) X.A X.env xe → PSs (X.tr pn xe) body (tb W))
    (hh : ClsOk X (h₀ :: hds) l) : PS X (.Try body (h₀ :: hds) [] [] pos) (tTry X.K Wout tb l) := by
  refine ⟨fun pins s σ H D I h => ?_⟩
  have ok := I.ok
  have hfr : X.A.frames = some (X.env :: X.outer) := by rw [ok.frames, hs]
  refine wpAny_Try_except ?_
  refine wpAny_mono ((hb (wCl X.K Wout D l) (X.pn ++ pins) (fun e s₁ => wpAny (model X.prog X.w) X.A (noteFrame e X.env) (fun _ s₂ => wpAny (model X.prog X.w) X.A (setFlight e none) (fun _ s₃ =>
    wpAny (model X.prog X.w) X.A (handleBy e X.env (h₀ :: hds)) (SP X pins D) X.xe s₃) X.xe s₂) X.xe s₁) (fun u s' xx => ?_) PassesOwn.looking).run [] s σ H D (I.toTry _) h) (fun f s1 hsp => ?_) (fun e s1 he => he)
  · obtain ⟨a, B, sI, pins', σ', H', cls, d, rfl, J', nb, up, sky, na, os, ag, w⟩ := xx
    have J : Inv X pins σ' H' sI := J'.ofTry ok
    have sky' : Sky B (X.env :: X.outer) a (Zc cls d) X.env.locals s'.heap := by rw [← hs]; exact sky
    show wpAny (model X.prog X.w) X.A (noteFrame (.ref a) X.env) _ _ _
    refine Sky.land Zc.steady hfr hf sky' fun h3 fl3 up3 => ?_
    have J3 : Inv X pins σ' H' { s' with heap := h3 } := J.landed nb fl3.1 (up.trans up3) os ag
    obtain ⟨oe3, vs3, he3, hz3, hd3⟩ := fl3.there
    have nfr : a ∉ frs (X.env :: X.outer) := fun hm => by
      obtain ⟨_, o', e', hnf⟩ := fl3.2.2.1.mem hm
      rw [he3] at e'; cases e'
      exact hnf _ hd3
    have nL : a ≠ X.env.locals := fun z => nfr (List.mem_filterMap.mpr ⟨X.env, List.mem_cons_self, by rw [hf, z]⟩)
    have nF : a ∉ X.fs := fun hm => by
      obtain ⟨e, he, q⟩ := List.mem_filterMap.mp hm
      exact nfr (List.mem_filterMap.mpr ⟨e, List.mem_cons_of_mem _ he, q⟩)
    have S3 := J3.suite he3 hd3 na nL nF
    have LT : PySem.W.Looks (model X.prog X.w) h3 (typeOf (.ref a)) cls := fun A Q E s k q => wpAny_typeOf_ref (k _ _ he3) (by rw [hz3.1]; exact q)
    have test : ∀ {x : Str} {c : Value} {np : Pos} {Q : Value → Shared → Prop} {E : Value → Shared → Prop}, Names X x c → Q c { s' with heap := h3 } → wpAny (model X.prog X.w) (X.A.mark (some (.ref a))) (eval (.Name x np) X.env) Q E { s' with heap := h3 } := fun {x c np Q E} hc q => by
      obtain ⟨hg, hdbg, hm | ⟨hm, hv, hnn⟩⟩ := hc
      · exact ld_glob (X := X.suite a ((a, oe3) :: (X.pn ++ pins))) S3 hg hm q hdbg
      · exact ld_blt (X := X.suite a ((a, oe3) :: (X.pn ++ pins))) S3 hg hm hv q hnn hdbg
    have go : ∀ {hds' : List ExceptHandler} {l' : List Cl}, ClsOk X hds' l' → wCl X.K Wout D l' cls d σ' H' → wpAny (model X.prog X.w) X.A (handleBy (.ref a) X.env hds') (SP X pins D) X.xe { s' with heap := h3 } := by
      intro hds' l' hk
      induction hk with
      | nil =>
        intro w
        refine wpAny_handleBy_nil ?_
        obtain ⟨k1, k2, k3, oe, vs, T, oT, ts', he, hz, hd, h1, hr⟩ := id fl3
        unfold PySem.passOn
        refine wpAny_bind (wpAny_field he hd h1 ?_)
        rw [if_neg (show ¬ ((Value.ref T == Value.none) = true) from by simp)]
        have fin : wpAny (model X.prog X.w) X.A (setFlight (.ref a) X.env.frame) (fun _ s4 => wpAny (model X.prog X.w) X.A (throw (.ref a) : Sem Flow) (SP X pins D) X.xe s4) X.xe { s' with heap := h3 } := by
          rw [hf]
          refine HandSPX.setFlight_upZ fl3 fun h4 hh4 up4 => wpAny_throw (tk _ _ ?_)
          exact ⟨a, B, sI, pins, σ', H', cls, d, rfl, J, nb, (up.trans up3).trans up4, .inr (.inr (by rw [hs]; exact hh4)), na, os, ag, w⟩
        first
          | exact wpAny_bind (wpAny_pure (wpAny_bind fin))
          | exact wpAny_bind fin
      | @un x c ts b₀ suite np pos' hds2 l2 hc hsu r ih =>
        intro w
        obtain ⟨b, hb1, hyes, hno⟩ := w
        refine wpAny_handleBy_cons (codeAny_handlers_test ?_) (by intro q; cases q)
        refine test hc ((PySem.W.exm_one (M := model X.prog X.w) (J3.kIn) LT hb1).here ?_)
        cases b with
        | false => exact (show wpAny _ X.A (handleBy (.ref a) X.env hds2) _ _ _ from ih (hno rfl))
        | true =>
          refine codeAny_handlers_suite (HandSPX.lands_againZ fl3 fun h4 fl4 up4 => ?_)
          have J4 : Inv X pins σ' H' { s' with heap := h4 } := J.landed nb fl4.1 ((up.trans up3).trans up4) os ag
          obtain ⟨oe4, vs4, he4, hz4, hd4⟩ := fl4.there
          refine wpAny_mono ((hsu a oe4 cls d (X.pn ++ pins) hz4 ⟨_, hd4⟩).run [] _ _ H' _ (J4.suite he4 hd4 na nL nF) (hyes rfl a na)) (fun f s6 hsp => ?_) (fun _ _ z => False.elim z)
          cases f with
          | ret u => obtain ⟨v6, σ6, H6, S6, r6, q6⟩ := hsp; exact ⟨_, _, _, S6.unsuite ok, r6, q6⟩
          | next => obtain ⟨σ6, H6, S6, q6⟩ := hsp; exact ⟨_, _, S6.unsuite ok, q6⟩
          | brk => obtain ⟨σ6, H6, S6, q6⟩ := hsp; exact ⟨_, _, S6.unsuite ok, q6⟩
          | cont => obtain ⟨σ6, H6, S6, q6⟩ := hsp; exact ⟨_, _, S6.unsuite ok, q6⟩
      | @as x n c i ts b₀ suite np pos' hds2 l2 hi hln hc hsu r ih =>
        intro w
        obtain ⟨b, hb1, hyes, hno⟩ := w
        refine wpAny_handleBy_cons (codeAny_handlers_test ?_) (by intro q; cases q)
        refine test hc ((PySem.W.exm_one (M := model X.prog X.w) (J3.kIn) LT hb1).here ?_)
        cases b with
        | false => exact (show wpAny _ X.A (handleBy (.ref a) X.env hds2) _ _ _ from ih (hno rfl))
        | true =>
          refine codeAny_handlers_suite_as (HandSPX.lands_againZ fl3 fun h4 fl4 up4 => ?_)
          have J4 : Inv X pins σ' H' { s' with heap := h4 } := J.landed nb fl4.1 ((up.trans up3).trans up4) os ag
          obtain ⟨oe4, vs4, he4, hz4, hd4⟩ := fl4.there
          refine store_ok (X := X.suite a ((a, oe4) :: (X.pn ++ pins))) (v := .ref a) (J4.suite he4 hd4 na nL nF) hN hi (.inl hln) rfl (fun s5 S5 => ?_) (.inr hln)
          refine wpAny_mono ((hsu a oe4 cls d (X.pn ++ pins) hz4 ⟨_, hd4⟩).run [] s5 _ H' _ S5 (hyes rfl a na)) (fun f s6 hsp => ?_) (fun _ _ z => False.elim z)
          have end_ : ∀ {σ6 : L2.St} {H6 : Hp} {Q : Shared → Prop}, Inv (X.suite a ((a, oe4) :: (X.pn ++ pins))) [] σ6 H6 s6 → (∀ s7, Inv X pins (σ6.set i none) H6 s7 → Q s7) →
              wpAny (model X.prog X.w) X.A (do bindName X.env n .none; unbindBehindTheSuite X.env n pos') (fun _ s7 => Q s7) X.xe s6 := fun {σ6 H6 Q} S6 hq => gone_ok (S6.unsuite ok) hN hi hln hq
          cases f with
          | ret u => obtain ⟨v6, σ6, H6, S6, r6, q6⟩ := hsp; exact end_ S6 fun s7 J7 => ⟨_, _, _, J7, r6, q6⟩
          | next => obtain ⟨σ6, H6, S6, q6⟩ := hsp; exact end_ S6 fun s7 J7 => ⟨_, _, J7, q6⟩
          | brk => obtain ⟨σ6, H6, S6, q6⟩ := hsp; exact end_ S6 fun s7 J7 => ⟨_, _, J7, q6⟩
          | cont => obtain ⟨σ6, H6, S6, q6⟩ := hsp; exact end_ S6 fun s7 J7 => ⟨_, _, J7, q6⟩
    exact go hh w
  · cases f with
    | ret u => obtain ⟨v, σ', H', J', r, q⟩ := hsp; exact ⟨v, σ', H', J'.ofTry ok, r, q⟩
    | next => obtain ⟨σ', H', J', q⟩ := hsp; exact wpAny_execs_nil ⟨σ', H', J'.ofTry ok, q⟩
    | brk => obtain ⟨σ', H', J', q⟩ := hsp; exact ⟨σ', H', J'.ofTry ok, q⟩
    | cont => obtain ⟨σ', H', J', q⟩ := hsp; exact ⟨σ', H', J'.ofTry ok, q⟩
end Rb

set_option maxHeartbeats 2000000
/-! sorted of a text; a tuple whose object is known; its .index -/
namespace Rb
open PySem PySem.Spec PyProof.Rows L2
theorem ints_of : ∀ {ns : List Nat} {vs : List Value}, Vals (ns.map iv) vs → IntsAre vs (ns.map fun n : Nat => (n : Int))
  | [], _, .nil => .nil
  | n :: ns, _, .cons h t => by
    obtain ⟨k, rfl⟩ := (show ∃ t, _ = Value.int n t from h)
    exact .cons _ _ (ints_of t)
theorem idx_cast : ∀ (ns : List Nat) (k : Nat), (ns.map fun n : Nat => (n : Int)).idxOf (k : Int) = ns.idxOf k
  | [], k => rfl
  | n :: r, k => by
    rw [List.map_cons, List.idxOf_cons, List.idxOf_cons, idx_cast r k]
    by_cases e : n = k
    · subst e
      simp
    · have : ((n : Int) == (k : Int)) = false := by
        rw [beq_eq_false_iff_ne]
        omega
      have e2 : (n == k) = false := by simpa using e
      rw [this, e2]
/-- the new tuple's object told -/
def oTupX (K : PySem.W.Frag) : List V → Hp → VK → Prop := fun xs H Q => ∃ p ys, xs = [.ref p] ∧ SqL K H p ys ∧ ∀ l o, H l = none → o.cls = .type "tuple" → o.dict = none → Q (.ref l) (upd H l (.frz o (.tup ys)))
def oTupleA (K : PySem.W.Frag) : List V → Hp → VK → Prop := fun xs H Q => oTuple K xs H Q ∨ oTupX K xs H Q
section
variable {X : Cx}
theorem cr_tupX : CallR X (.type "tuple") (oTupX X.K) := by
  intro pins s σ H xs us Q I r h
  obtain ⟨p, ys, rfl, hq, q⟩ := h
  obtain ⟨u, rfl, rx⟩ := vals1 r
  cases rx
  obtain ⟨its, r', pl, hz⟩ := I.list hq
  have hlen := r'.length
  refine call_tuple_list pl.isList (fun h' kp => ?_) (by simp only [List.size_toArray] <;> omega)
  have I1 : Inv X pins σ H { s with heap := h' } := I.kept (t' := s.toks) kp
  have at_ : (h'.push { cls := .type "tuple", data := .seq its.toArray }).get? h'.objs.size = some { cls := .type "tuple", data := .seq its.toArray } := Heap.get?_push_at rfl rfl
  have I2 : Inv X pins σ (upd H h'.objs.size (.frz { cls := .type "tuple", data := .seq its.toArray } (.tup ys))) { s with heap := h'.push { cls := .type "tuple", data := .seq its.toArray } } :=
    I1.laid (t' := s.toks) (fun b o e => Heap.get?_push_of_some _ e) (Nat.le_refl _) (show ObjOk X.prog X.w _ _ _ (.frz _ (.tup ys)) from ⟨at_, show ObjOk X.prog X.w _ _ _ (.tup ys) from ⟨hz, its, r', IsTup.new _ _⟩⟩)
  exact ⟨.ref h'.objs.size, _, I2, rfl, q _ _ (I1.hok.fresh (Nat.le_refl _)) rfl rfl⟩
theorem cr_tupleA : CallR X (.type "tuple") (oTupleA X.K) := CallR.or cr_tuple cr_tupX
end
/-- t.index(k): the whole numbers of a tuple whose object is known -/
def tTix (to te : TE) : TE := fun σ H Q => to σ H fun x H1 => ∃ (a : Addr) (ob : Obj) (ns : List Nat), x = .ref a ∧ H1 a = some (.frz ob (.tup (ns.map iv))) ∧ ob.cls = .type "tuple" ∧ ob.dict = none ∧
  te σ H1 fun y H2 => ∃ k : Nat, y = iv k ∧ k ∈ ns ∧ H2 a = some (.frz ob (.tup (ns.map iv))) ∧ Q (iv (ns.idxOf k)) H2
section
variable {X : Cx} {o e : Expr} {to te : TE} {apos cpos : Pos}
theorem pe_tix (ho : PE X o to) (he : PE X e te)
    (hbase : attributeBase o "index" X.env (eval o X.env) = eval o X.env := by rfl)
    (hfew : ((backTo cpos (starEach [e] X.env)).all (fun x => !x.1) && (backToKw cpos (keywordEach [] X.env)).all (fun x => x.1.isSome)
      && decide ([e].length + ([] : List Keyword).length + (if ([] : List Keyword).isEmpty then 0 else 1) < 30)) = true := by rfl)
    (hline : (apos.endLine == cpos.line) = true := by rfl) (hs : starEach [e] X.env = [(false, eval e X.env)] := by rfl) :
    PE X (.Call (.Attribute o "index" apos) [e] [] cpos) (tTix to te) := by
  refine ⟨fun pins s σ H Q I h => ?_⟩
  refine wpAny_Call_method_late hbase hfew hline rfl (thn (ho.run pins s σ H _ I h) fun v s1 ⟨x, H1, I1, r1, a, ob, ns, ex, ha, hc, hd, q1⟩ => ?_)
  subst ex
  cases r1
  have hat : s1.heap.get? a = some ob := (show ObjOk X.prog X.w H1 s1.heap a (.frz ob (.tup (ns.map iv))) from I1.hok a _ ha).1
  refine ⟨"tuple", "tuple.index", F.plainAttrs_tuple, F.slot_tuple_index, F.type_tuple_index, ⟨ob, hat, hc⟩, fun b e => by cases e; exact ⟨ob, hat, hd⟩, ?_⟩
  have hA := (pa_cons he pa_nil (hs)).run cpos pins s1 σ H1 (fun vs H2 => ∃ y, vs = [y] ∧ ∃ k : Nat, y = iv k ∧ k ∈ ns ∧ H2 a = some (.frz ob (.tup (ns.map iv))) ∧ Q (iv (ns.idxOf k)) H2) I1 (by
    unfold tCons tNil
    have : te σ H1 (fun y H2 => ∃ y', [y] = [y'] ∧ ∃ k : Nat, y' = iv k ∧ k ∈ ns ∧ H2 a = some (.frz ob (.tup (ns.map iv))) ∧ Q (iv (ns.idxOf k)) H2) := by
      have e : (fun (y : V) H2 => ∃ y', [y] = [y'] ∧ ∃ k : Nat, y' = iv k ∧ k ∈ ns ∧ H2 a = some (.frz ob (.tup (ns.map iv))) ∧ Q (iv (ns.idxOf k)) H2) =
          (fun y H2 => ∃ k : Nat, y = iv k ∧ k ∈ ns ∧ H2 a = some (.frz ob (.tup (ns.map iv))) ∧ Q (iv (ns.idxOf k)) H2) := by
        funext y H2
        apply propext
        constructor
        · rintro ⟨y', e, z⟩
          cases e
          exact z
        · intro z
          exact ⟨y, rfl, z⟩
      rw [e]
      exact q1
    exact this)
  rw [hs] at hA ⊢
  refine Calls.callWith_builtin (by rfl) (Calls.evalArgs_plain ?_)
  refine thn hA fun us s2 ⟨vs, H2, I2, r2, y, ev, k, ey, hk, h2, q2⟩ => ?_
  subst ev
  subst ey
  obtain ⟨u, rfl, t, rfl⟩ := vals1 r2
  obtain ⟨its, rv, hT, _⟩ := I2.tuple (show SqT X.K H2 a (ns.map iv) from .inl (.inr ⟨ob, h2⟩))
  refine PySem.SeqAt.tuple_index_ints hT (ints_of rv) (List.mem_map.mpr ⟨k, hk, rfl⟩) ?_
  rw [idx_cast]
  exact ⟨iv (ns.idxOf k), H2, I2.tok _, ⟨_, rfl⟩, q2⟩
end
/-- sorted(z), z a text -/
def oSortedZ (_K : PySem.W.Frag) : List V → Hp → VK → Prop := fun xs H Q => ∃ z : List Nat, xs = [S' z] ∧ z.length < 64 ∧ ∀ ys p, ys.Perm (z.map fun c => (⟨[c].toArray⟩ : Str)) → sortedS ys = true → H p = none → Q (.ref p) (upd H p (.lst (ys.map V.str)))
where S' (z : List Nat) : V := .str ⟨z.toArray⟩
theorem strs_signs : ∀ {us : List Value} {z : List Nat}, us.length = z.length → (∀ (j : Nat) (v : Value), us[j]? = some v → ∃ c t, z[j]? = some c ∧ v = .str ⟨#[c]⟩ t) → StrsAre us (z.map fun c => (⟨[c].toArray⟩ : Str))
  | [], [], _, _ => .nil
  | u :: us, c :: z, hl, h => by
    obtain ⟨c', t, e1, e2⟩ := h 0 u rfl
    have e1' : c = c' := Option.some.inj e1
    subst e1'
    subst e2
    exact .cons _ _ (strs_signs (by simpa using hl) fun j v e => h (j + 1) v e)
  | [], _ :: _, hl, _ => by simp at hl
  | _ :: _, [], hl, _ => by simp at hl
section
variable {X : Cx}
theorem cr_sortedZ (hcalm : X.calm = true) : CallR X (.builtin "sorted") (oSortedZ X.K) := by
  intro pins s σ H xs us Q I r q
  obtain ⟨z, ex, h64, q⟩ := q
  subst ex
  obtain ⟨u, rfl, t, rfl⟩ := vals1 r
  have h16 : z.toArray.size ≤ sizeLine := by rw [List.size_toArray, sizeLine_eq]; omega
  refine Calls.call_function_entry PyProof.Rows.kind_sorted PyProof.Rows.plain_sorted PyProof.Rows.entry_sorted (PyProof.Rows.args_sorted1 _) ?_
  unfold Builtin.«sorted»
  refine wpAny_bind (m := checkCount "sorted" 1 1 _) (wpAny_pure ?_)
  refine wpAny_bind (wpAny_collect_str (A := X.A.in1) (I.ok.hd hcalm) ⟨z.toArray⟩ t (fun s' acc hk hg hdr hos hacc => ?_) h16)
  obtain ⟨hp', g', dr', tk', os'⟩ := s'
  dsimp only at hk hg hdr hos
  subst hg hdr hos
  have hal : acc.toList.length = z.length := by rw [Array.length_toList, hacc.1, List.size_toArray]
  have hS : StrsAre acc.toList (z.map fun c => (⟨[c].toArray⟩ : Str)) := strs_signs hal fun j v e => by
    obtain ⟨c, u, e1, e2⟩ := hacc.2 j v (by rw [← Array.getElem?_toList]; exact e)
    exact ⟨c, u, by simpa using e1, e2⟩
  have I1 : Inv X pins σ H { s with heap := hp', toks := tk' } := I.kept hk
  refine wpAny_bind (wpAny_newList ?_ (by rw [hal, sizeLine_eq]; omega))
  have hoL : (hp'.push (seqObj "list" acc.toList.toArray 0)).get? hp'.objs.size = some (seqObj "list" acc.toList.toArray 0) := Heap.get?_push_size _ rfl
  show wpAny _ _ _ _ _ { s with heap := hp'.push (seqObj "list" acc.toList.toArray 0), toks := tk' }
  refine wpAny_bind (wpAny_holding (wpAny_call_entry PyProof.Rows.slot_list_sort ⟨_, hoL, rfl⟩ PyProof.Rows.entry_list_sort
    (list_sort_treeK strKind_oneLt (s := { s with heap := hp'.push (seqObj "list" acc.toList.toArray 0), toks := tk' }) hoL hS.keysOf (fun v₁ v₂ rest e => keyKind_strs (by rw [← e]; exact hS)) (by rw [hal]; exact h64) fun st' hp hs => ⟨_, rfl, ?_⟩)
    (PyProof.Rows.args_list_sort _)))
  obtain ⟨ys, g1, g2, g3⟩ := sorted_out_str hS hp hs
  obtain ⟨e', he'⟩ := PyProof.Rows.sortedHeap_at (vs := acc.toList) (out := (arrOf st').map (·.2)) hoL
  have hlen : (ys.map V.str).length ≤ sizeLine := by
    rw [List.length_map, g2.length_eq, List.length_map, sizeLine_eq]
    omega
  refine wpAny_pure ⟨_, rfl, .ref hp'.objs.size, upd H hp'.objs.size (.lst (ys.map V.str)), I1.laid (t' := tk') (fun b u e => ?_) (Nat.le_refl _)
    (show ObjOk X.prog X.w _ _ _ (.lst (ys.map V.str)) from ⟨hlen, ((arrOf st').map (·.2)).toList, e', vals_of_strs g1, by rw [Array.toArray_toList]; exact he'⟩), rfl, q ys _ g2 g3 (I1.hok.fresh (Nat.le_refl _))⟩
  have hb : b < hp'.objs.size := Heap.lt_size e
  rw [PyProof.Rows.sortedHeap_old (Nat.ne_of_lt hb) (by rw [size_push']; exact Nat.lt_succ_of_lt hb)]
  exact Heap.get?_push_of_some _ e
end
end Rb

/-! plain mathematics for worlds side by side -/
namespace Rb

theorem nodup_le : ∀ (n : Nat) (l : List Nat), l.Nodup → (∀ x ∈ l, x < n) → l.length ≤ n
  | 0, l, _, h => by
    cases l with
    | nil => exact Nat.le_refl _
    | cons a r => exact absurd (h a List.mem_cons_self) (Nat.not_lt_zero _)
  | n + 1, l, nd, h => by
    have h2 : (l.erase n).length ≤ n := by
      refine nodup_le n (l.erase n) (nd.erase n) fun x hx => ?_
      have h3 := (List.Nodup.mem_erase_iff nd).mp hx
      have := h x h3.2
      have := h3.1
      omega
    have h4 := List.length_erase (a := n) (l := l)
    split at h4 <;> omega

structure IsPerm (n : Nat) (m : List Nat) : Prop where
  len : m.length = n
  nd : m.Nodup
  lt : ∀ x ∈ m, x < n

theorem IsPerm.mem {n : Nat} {m : List Nat} (p : IsPerm n m) {g : Nat} (h : g < n) : g ∈ m := by
  by_cases hg : g ∈ m
  · exact hg
  · have h1 : (g :: m).Nodup := List.nodup_cons.mpr ⟨hg, p.nd⟩
    have h2 := nodup_le n (g :: m) h1 fun x hx => by
      rcases List.mem_cons.mp hx with rfl | hx
      · exact h
      · exact p.lt x hx
    have := p.len
    simp only [List.length_cons] at h2
    omega

theorem IsPerm.range (n : Nat) : IsPerm n (List.range n) := ⟨List.length_range, List.nodup_range, fun _ h => List.mem_range.mp h⟩

theorem IsPerm.at_lt {n : Nat} {m : List Nat} (p : IsPerm n m) {i : Nat} (h : i < n) : m.getD i 0 < n := by
  have hl := p.len
  rw [List.getD_eq_getElem?_getD, List.getElem?_eq_getElem (by omega)]
  exact p.lt _ (List.getElem_mem _)

theorem IsPerm.inj {n : Nat} {m : List Nat} (p : IsPerm n m) {i j : Nat} (hi : i < n) (hj : j < n) (e : m.getD i 0 = m.getD j 0) : i = j := by
  have hl := p.len
  rw [List.getD_eq_getElem?_getD, List.getD_eq_getElem?_getD, List.getElem?_eq_getElem (by omega), List.getElem?_eq_getElem (by omega)] at e
  exact (List.getElem_inj p.nd).mp e

theorem IsPerm.surj {n : Nat} {m : List Nat} (p : IsPerm n m) {g : Nat} (h : g < n) : ∃ i, i < n ∧ m.getD i 0 = g := by
  obtain ⟨i, hi, e⟩ := List.getElem_of_mem (p.mem h)
  exact ⟨i, p.len ▸ hi, by rw [List.getD_eq_getElem?_getD, List.getElem?_eq_getElem hi]; exact e⟩

/-- do f, then g -/
def comp (f g : List Nat) : List Nat := f.map fun s => g.getD s 0
/-- the move that undoes m -/
def inv (m : List Nat) : List Nat := (List.range m.length).map fun g => m.idxOf g

theorem getD_map {f : Nat → Nat} {l : List Nat} {i : Nat} (h : i < l.length) : (l.map f).getD i 0 = f (l.getD i 0) := by
  rw [List.getD_eq_getElem?_getD, List.getD_eq_getElem?_getD, List.getElem?_map, List.getElem?_eq_getElem h]
  rfl
theorem getD_range {n i : Nat} (h : i < n) : (List.range n).getD i 0 = i := by
  rw [List.getD_eq_getElem?_getD, List.getElem?_range h]
  rfl
theorem ext_getD {l m : List Nat} (hl : l.length = m.length) (h : ∀ i, i < l.length → l.getD i 0 = m.getD i 0) : l = m := by
  refine List.ext_getElem hl fun i h1 h2 => ?_
  have := h i h1
  rwa [List.getD_eq_getElem?_getD, List.getD_eq_getElem?_getD, List.getElem?_eq_getElem h1, List.getElem?_eq_getElem h2] at this

theorem comp_len (f g : List Nat) : (comp f g).length = f.length := List.length_map ..
theorem comp_at {f g : List Nat} {i : Nat} (h : i < f.length) : (comp f g).getD i 0 = g.getD (f.getD i 0) 0 := getD_map h
theorem inv_len (m : List Nat) : (inv m).length = m.length := by simp [inv]
theorem inv_at {m : List Nat} {g : Nat} (h : g < m.length) : (inv m).getD g 0 = m.idxOf g := by
  unfold inv
  rw [getD_map (by rw [List.length_range]; exact h), getD_range h]

theorem IsPerm.inv_spec {n : Nat} {m : List Nat} (p : IsPerm n m) {g : Nat} (h : g < n) : (inv m).getD g 0 < n ∧ m.getD ((inv m).getD g 0) 0 = g := by
  have hl := p.len
  rw [inv_at (by omega)]
  have hm := p.mem h
  have h1 : m.idxOf g < m.length := List.idxOf_lt_length_of_mem hm
  refine ⟨by omega, ?_⟩
  rw [List.getD_eq_getElem?_getD, List.getElem?_eq_getElem h1]
  exact List.getElem_idxOf h1

theorem IsPerm.inv_left {n : Nat} {m : List Nat} (p : IsPerm n m) {s : Nat} (h : s < n) : (inv m).getD (m.getD s 0) 0 = s := by
  have h1 := p.inv_spec (p.at_lt h)
  exact p.inj h1.1 h h1.2

theorem nodup_of_inj {l : List Nat} (h : ∀ i j, i < l.length → j < l.length → l.getD i 0 = l.getD j 0 → i = j) : l.Nodup := by
  rw [List.nodup_iff_pairwise_ne, List.pairwise_iff_getElem]
  intro i j hi hj hij e
  have := h i j hi hj (by rw [List.getD_eq_getElem?_getD, List.getD_eq_getElem?_getD, List.getElem?_eq_getElem hi, List.getElem?_eq_getElem hj, e])
  omega
theorem mem_getD {l : List Nat} {x : Nat} (h : x ∈ l) : ∃ i, i < l.length ∧ l.getD i 0 = x := by
  obtain ⟨i, hi, e⟩ := List.getElem_of_mem h
  exact ⟨i, hi, by rw [List.getD_eq_getElem?_getD, List.getElem?_eq_getElem hi]; exact e⟩
theorem IsPerm.mk' {n : Nat} {m : List Nat} (len : m.length = n) (lt : ∀ i, i < n → m.getD i 0 < n) (inj : ∀ i j, i < n → j < n → m.getD i 0 = m.getD j 0 → i = j) : IsPerm n m := by
  refine ⟨len, nodup_of_inj fun i j hi hj e => inj i j (len ▸ hi) (len ▸ hj) e, fun x hx => ?_⟩
  obtain ⟨i, hi, e⟩ := mem_getD hx
  rw [← e]
  exact lt i (len ▸ hi)

theorem IsPerm.comp {n : Nat} {f g : List Nat} (p : IsPerm n f) (q : IsPerm n g) : IsPerm n (comp f g) := by
  have hl := p.len
  refine IsPerm.mk' (by rw [comp_len]; exact hl) (fun i hi => ?_) fun i j hi hj e => ?_
  · rw [comp_at (by omega)]
    exact q.at_lt (p.at_lt hi)
  · rw [comp_at (by omega), comp_at (by omega)] at e
    exact p.inj hi hj (q.inj (p.at_lt hi) (p.at_lt hj) e)
theorem IsPerm.inv {n : Nat} {m : List Nat} (p : IsPerm n m) : IsPerm n (inv m) := by
  refine IsPerm.mk' (by rw [inv_len]; exact p.len) (fun i hi => (p.inv_spec hi).1) fun i j hi hj e => ?_
  rw [← (p.inv_spec hi).2, ← (p.inv_spec hj).2, e]
/-- what undoes m is told by its places -/
theorem IsPerm.inv_of {n : Nat} {m f : List Nat} (p : IsPerm n m) (hf : f.length = n) (h : ∀ i, i < n → f.getD (m.getD i 0) 0 = i) : f = Rb.inv m := by
  refine ext_getD (by rw [hf, inv_len, p.len]) fun g hg => ?_
  obtain ⟨i, hi, e⟩ := p.surj (hf ▸ hg)
  rw [← e, h i hi, p.inv_left hi]

/-! ### side by side -/
def beside (a b : List Nat) : List Nat := a.flatMap fun g => b.map fun l => g * b.length + l

theorem beside_len (a b : List Nat) : (beside a b).length = a.length * b.length := by
  unfold beside
  induction a with
  | nil => simp
  | cons x r ih => rw [List.flatMap_cons, List.length_append, ih, List.length_map, List.length_cons, Nat.succ_mul, Nat.add_comm]
theorem beside_at {b : List Nat} {t : Nat} (ht : t < b.length) : ∀ {a : List Nat} {s : Nat}, s < a.length → (beside a b).getD (s * b.length + t) 0 = a.getD s 0 * b.length + b.getD t 0
  | [], s, h => by simp at h
  | x :: r, 0, _ => by
    unfold beside
    rw [List.flatMap_cons, Nat.zero_mul, Nat.zero_add, List.getD_eq_getElem?_getD, List.getElem?_append_left (by rw [List.length_map]; exact ht), ← List.getD_eq_getElem?_getD, getD_map ht]
    rfl
  | x :: r, s + 1, h => by
    have ih := beside_at (b := b) ht (a := r) (s := s) (by simpa using h)
    unfold beside
    rw [List.flatMap_cons, List.getD_eq_getElem?_getD, List.getElem?_append_right (by rw [List.length_map, Nat.succ_mul]; omega), List.length_map]
    have e : (s + 1) * b.length + t - b.length = s * b.length + t := by rw [Nat.succ_mul]; omega
    rw [e, ← List.getD_eq_getElem?_getD]
    exact ih

theorem pair_lt {n k s t : Nat} (hs : s < n) (ht : t < k) : s * k + t < n * k := by
  have h1 : (s + 1) * k ≤ n * k := Nat.mul_le_mul_right k hs
  rw [Nat.succ_mul] at h1
  omega
theorem pair_of {n k x : Nat} (h : x < n * k) : ∃ s t, s < n ∧ t < k ∧ x = s * k + t := by
  have hk : 0 < k := by
    rcases Nat.eq_zero_or_pos k with e | e
    · rw [e, Nat.mul_zero] at h; omega
    · exact e
  refine ⟨x / k, x % k, (Nat.div_lt_iff_lt_mul hk).mpr h, Nat.mod_lt _ hk, ?_⟩
  rw [Nat.mul_comm]
  exact (Nat.div_add_mod x k).symm
theorem pair_inj {k s t s' t' : Nat} (ht : t < k) (ht' : t' < k) (e : s * k + t = s' * k + t') : s = s' ∧ t = t' := by
  have h1 : (s * k + t) / k = s := by rw [Nat.add_comm, Nat.add_mul_div_right _ _ (by omega), Nat.div_eq_of_lt ht, Nat.zero_add]
  have h2 : (s' * k + t') / k = s' := by rw [Nat.add_comm, Nat.add_mul_div_right _ _ (by omega), Nat.div_eq_of_lt ht', Nat.zero_add]
  have h3 : s = s' := by rw [← h1, ← h2, e]
  subst h3
  exact ⟨rfl, by omega⟩

theorem beside_perm {n k : Nat} {a b : List Nat} (p : IsPerm n a) (q : IsPerm k b) : IsPerm (n * k) (beside a b) := by
  have hp := p.len
  have hq := q.len
  subst hp
  subst hq
  refine IsPerm.mk' (beside_len a b) (fun i hi => ?_) fun i j hi hj e => ?_
  · obtain ⟨s, t, hs, ht, rfl⟩ := pair_of hi
    rw [beside_at ht hs]
    exact pair_lt (p.at_lt hs) (q.at_lt ht)
  · obtain ⟨s, t, hs, ht, rfl⟩ := pair_of hi
    obtain ⟨s', t', hs', ht', rfl⟩ := pair_of hj
    rw [beside_at ht hs, beside_at ht' hs'] at e
    obtain ⟨e1, e2⟩ := pair_inj (q.at_lt ht) (q.at_lt ht') e
    rw [p.inj hs hs' e1, q.inj ht ht' e2]

theorem beside_comp {n k : Nat} {a b a' b' : List Nat} (p : IsPerm n a) (q : IsPerm k b) (p' : IsPerm n a') (q' : IsPerm k b') :
    comp (beside a b) (beside a' b') = beside (comp a a') (comp b b') := by
  have hp := p.len
  have hq := q.len
  have hp' := p'.len
  have hq' := q'.len
  refine ext_getD (by rw [comp_len, beside_len, beside_len, comp_len, comp_len]) fun i hi => ?_
  rw [comp_len, beside_len] at hi
  obtain ⟨s, t, hs, ht, rfl⟩ := pair_of hi
  have e1 : b.length = (comp b b').length := (comp_len b b').symm
  rw [comp_at (by rw [beside_len]; exact pair_lt hs ht), beside_at ht hs]
  have h1 : a.getD s 0 < a'.length := by rw [hp']; exact p.at_lt (by omega)
  have h2 : b.getD t 0 < b'.length := by rw [hq']; exact q.at_lt (by omega)
  have e2 : b.length = b'.length := by omega
  rw [e2, beside_at h2 h1, ← e2, e1, beside_at (by omega) (by rw [comp_len]; exact hs), comp_at hs, comp_at ht]

theorem beside_range (n k : Nat) : beside (List.range n) (List.range k) = List.range (n * k) := by
  refine ext_getD (by rw [beside_len, List.length_range, List.length_range, List.length_range]) fun i hi => ?_
  rw [beside_len, List.length_range, List.length_range] at hi
  obtain ⟨s, t, hs, ht, rfl⟩ := pair_of hi
  have hl : (List.range k).length = k := List.length_range
  have hn : (List.range n).length = n := List.length_range
  rw [getD_range hi]
  have h := beside_at (a := List.range n) (b := List.range k) (t := t) (s := s) (by omega) (by omega)
  rw [hl] at h
  rw [h, getD_range hs, getD_range ht]

theorem beside_inv {n k : Nat} {a b : List Nat} (p : IsPerm n a) (q : IsPerm k b) : inv (beside a b) = beside (inv a) (inv b) := by
  have hp := p.len
  have hq := q.len
  have r := beside_perm p q
  refine (r.inv_of (by rw [beside_len, inv_len, inv_len, hp, hq]) fun i hi => ?_).symm
  obtain ⟨s, t, hs, ht, rfl⟩ := pair_of hi
  have e1 : k = b.length := by omega
  have e2 : b.length = (inv b).length := (inv_len b).symm
  rw [e1, beside_at (by omega) (by omega), e2, beside_at (by rw [inv_len, hq]; exact q.at_lt ht) (by rw [inv_len, hp]; exact p.at_lt hs), p.inv_left hs, q.inv_left ht]

theorem beside_assoc (a b c : List Nat) : beside (beside a b) c = beside a (beside b c) := by
  refine ext_getD (by simp only [beside_len, Nat.mul_assoc]) fun i hi => ?_
  rw [beside_len, beside_len] at hi
  obtain ⟨s, t, hs, ht, rfl⟩ := pair_of hi
  obtain ⟨u, v, hu, hv, rfl⟩ := pair_of hs
  rw [beside_at ht (by rw [beside_len]; exact pair_lt hu hv), beside_at hv hu]
  have e : (u * b.length + v) * c.length + t = u * (beside b c).length + (v * c.length + t) := by
    rw [beside_len, Nat.add_mul, Nat.mul_assoc, Nat.add_assoc]
  rw [e, beside_at (by rw [beside_len]; exact pair_lt hv ht) hu, beside_at ht hv, beside_len, Nat.add_mul, Nat.mul_assoc, Nat.add_assoc]

/-! ### orders -/
def iter (m : List Nat) : Nat → Nat → Nat
  | 0, s => s
  | k + 1, s => iter m k (m.getD s 0)

def fact : Nat → Nat
  | 0 => 1
  | n + 1 => (n + 1) * fact n
theorem fact_pos : ∀ n, 0 < fact n
  | 0 => Nat.one_pos
  | n + 1 => Nat.mul_pos (Nat.succ_pos n) (fact_pos n)
theorem dvd_fact : ∀ {n k : Nat}, 0 < k → k ≤ n → k ∣ fact n
  | 0, k, h, h' => by omega
  | n + 1, k, h, h' => by
    rcases Nat.lt_or_ge n k with e | e
    · have : k = n + 1 := by omega
      subst this
      exact Nat.dvd_mul_right _ _
    · exact Nat.dvd_trans (dvd_fact h e) (Nat.dvd_mul_left _ _)

/-- o is the order of m -/
structure OrdOf (m : List Nat) (o : Nat) : Prop where
  pos : 0 < o
  dvd : ∀ k, o ∣ k ↔ ∀ s, s < m.length → iter m k s = s
  fac : o ∣ fact m.length

/-- the circles of m: each goes round, and each standing is on one -/
structure Circles (m : List Nat) (cs : List (List Nat)) : Prop where
  ne : ∀ c ∈ cs, 0 < c.length
  step : ∀ c ∈ cs, ∀ i, i < c.length → m.getD (c.getD i 0) 0 = c.getD ((i + 1) % c.length) 0
  nd : ∀ c ∈ cs, c.Nodup
  lt : ∀ c ∈ cs, ∀ s ∈ c, s < m.length
  cov : ∀ s, s < m.length → ∃ c ∈ cs, s ∈ c

theorem circle_iter {m c : List Nat} (hs : ∀ i, i < c.length → m.getD (c.getD i 0) 0 = c.getD ((i + 1) % c.length) 0) : ∀ (k i : Nat), i < c.length → iter m k (c.getD i 0) = c.getD ((i + k) % c.length) 0
  | 0, i, h => by
    show c.getD i 0 = _
    rw [Nat.add_zero, Nat.mod_eq_of_lt h]
  | k + 1, i, h => by
    show iter m k (m.getD (c.getD i 0) 0) = _
    rw [hs i h, circle_iter hs k _ (Nat.mod_lt _ (by omega)), Nat.mod_add_mod]
    congr 2
    omega

def ordStep (f : Nat) (c : List Nat) : Nat := f / Nat.gcd f c.length * c.length
theorem ordStep_lcm (f : Nat) (c : List Nat) : ordStep f c = Nat.lcm f c.length := by
  unfold ordStep Nat.lcm
  rw [Nat.div_mul_right_comm (Nat.gcd_dvd_left _ _)]
def ordOf (cs : List (List Nat)) : Nat := cs.foldl ordStep 1

theorem lcm_dvd_iff' {a b k : Nat} : Nat.lcm a b ∣ k ↔ a ∣ k ∧ b ∣ k :=
  ⟨fun h => ⟨Nat.dvd_trans (Nat.dvd_lcm_left a b) h, Nat.dvd_trans (Nat.dvd_lcm_right a b) h⟩, fun h => Nat.lcm_dvd h.1 h.2⟩

theorem ord_fold : ∀ (cs : List (List Nat)) (f : Nat), 0 < f → (∀ c ∈ cs, 0 < c.length) → 0 < cs.foldl ordStep f ∧ ∀ k, cs.foldl ordStep f ∣ k ↔ f ∣ k ∧ ∀ c ∈ cs, c.length ∣ k
  | [], f, hf, _ => ⟨hf, fun k => by simp⟩
  | c :: r, f, hf, h => by
    have h1 : 0 < ordStep f c := by
      rw [ordStep_lcm]
      exact Nat.lcm_pos hf (h c List.mem_cons_self)
    obtain ⟨p, q⟩ := ord_fold r (ordStep f c) h1 fun x hx => h x (List.mem_cons_of_mem _ hx)
    refine ⟨p, fun k => ?_⟩
    rw [List.foldl_cons, q k, ordStep_lcm, lcm_dvd_iff']
    simp only [List.mem_cons, forall_eq_or_imp, and_assoc]

theorem Circles.ord {n : Nat} {m : List Nat} {cs : List (List Nat)} (p : IsPerm n m) (C : Circles m cs) : OrdOf m (ordOf cs) := by
  obtain ⟨h1, h2⟩ := ord_fold cs 1 Nat.one_pos C.ne
  have key : ∀ k c, c ∈ cs → (c.length ∣ k ↔ ∀ s ∈ c, iter m k s = s) := fun k c hc => by
    have hst := C.step c hc
    have hpos := C.ne c hc
    constructor
    · rintro ⟨d, rfl⟩ s hs
      obtain ⟨i, hi, rfl⟩ := mem_getD hs
      rw [circle_iter hst _ _ hi, Nat.add_mul_mod_self_left, Nat.mod_eq_of_lt hi]
    · intro h
      have h0 := h (c.getD 0 0) (by rw [List.getD_eq_getElem?_getD, List.getElem?_eq_getElem hpos]; exact List.getElem_mem _)
      rw [circle_iter hst _ _ hpos, Nat.zero_add] at h0
      have hm := Nat.mod_lt k hpos
      rw [List.getD_eq_getElem?_getD, List.getD_eq_getElem?_getD, List.getElem?_eq_getElem hm, List.getElem?_eq_getElem hpos] at h0
      have := (List.getElem_inj (C.nd c hc)).mp h0
      exact Nat.dvd_of_mod_eq_zero this
  refine ⟨h1, fun k => ?_, ?_⟩
  · show cs.foldl ordStep 1 ∣ k ↔ _
    rw [h2 k]
    constructor
    · rintro ⟨_, h⟩ s hs
      obtain ⟨c, hc, hsc⟩ := C.cov s hs
      exact (key k c hc).mp (h c hc) s hsc
    · intro h
      refine ⟨Nat.one_dvd k, fun c hc => (key k c hc).mpr fun s hs => h s (C.lt c hc s hs)⟩
  · refine (h2 _).mpr ⟨Nat.one_dvd _, fun c hc => dvd_fact (C.ne c hc) ?_⟩
    exact nodup_le _ c (C.nd c hc) (C.lt c hc)

theorem iter_lt {n : Nat} {m : List Nat} (p : IsPerm n m) : ∀ (k s : Nat), s < n → iter m k s < n
  | 0, s, h => h
  | k + 1, s, h => iter_lt p k _ (p.at_lt h)
theorem iter_beside {n k : Nat} {a b : List Nat} (p : IsPerm n a) (q : IsPerm k b) : ∀ (j s t : Nat), s < n → t < k → iter (beside a b) j (s * k + t) = iter a j s * k + iter b j t
  | 0, s, t, _, _ => rfl
  | j + 1, s, t, hs, ht => by
    have e := q.len
    show iter (beside a b) j ((beside a b).getD (s * k + t) 0) = _
    have h := beside_at (a := a) (b := b) (s := s) (t := t) (by omega) (by rw [p.len]; exact hs)
    rw [e] at h
    rw [h, iter_beside p q j _ _ (p.at_lt hs) (q.at_lt ht)]
    rfl
/-- the order side by side is the least common multiple -/
theorem ord_beside {n k : Nat} {a b : List Nat} {o o1 o2 : Nat} (p : IsPerm n a) (q : IsPerm k b) (hn : 0 < n) (hk : 0 < k) (h : OrdOf (beside a b) o) (h1 : OrdOf a o1) (h2 : OrdOf b o2) : o = Nat.lcm o1 o2 := by
  have hp := p.len
  have hq := q.len
  have key : ∀ j, o ∣ j ↔ o1 ∣ j ∧ o2 ∣ j := fun j => by
    rw [h.dvd, h1.dvd, h2.dvd, beside_len, hp, hq]
    constructor
    · intro g
      constructor
      · intro s hs
        have := g (s * k + 0) (pair_lt hs hk)
        rw [iter_beside p q j s 0 hs hk] at this
        exact (pair_inj (iter_lt q j 0 hk) hk this).1
      · intro t ht
        have := g (0 * k + t) (pair_lt hn ht)
        rw [iter_beside p q j 0 t hn ht] at this
        exact (pair_inj (iter_lt q j t ht) ht this).2
    · rintro ⟨g1, g2⟩ i hi
      obtain ⟨s, t, hs, ht, rfl⟩ := pair_of hi
      rw [iter_beside p q j s t hs ht, g1 s hs, g2 t ht]
  refine Nat.dvd_antisymm ?_ ?_
  · exact (key _).mpr ⟨Nat.dvd_lcm_left _ _, Nat.dvd_lcm_right _ _⟩
  · obtain ⟨g1, g2⟩ := (key o).mp (Nat.dvd_refl o)
    exact Nat.lcm_dvd g1 g2

/-! ### the law's least common multiple: b turns, each puts a more unless b divides -/
def leastStep (a b f : Nat) : Nat := if f % b > 0 then f + a else f
def leastFrom (a b : Nat) : Nat → Nat → Nat
  | 0, f => f
  | t + 1, f => leastFrom a b t (leastStep a b f)
theorem leastFrom_succ (a b : Nat) : ∀ (t f : Nat), leastFrom a b (t + 1) f = leastStep a b (leastFrom a b t f)
  | 0, f => rfl
  | t + 1, f => by
    show leastFrom a b (t + 1) (leastStep a b f) = _
    rw [leastFrom_succ a b t]
    rfl
theorem least_is {a b : Nat} (ha : 0 < a) (hb : 0 < b) : leastFrom a b b a = Nat.lcm a b := by
  have hl : 0 < Nat.lcm a b := Nat.lcm_pos ha hb
  obtain ⟨j, hj⟩ := Nat.dvd_lcm_left a b
  have hj0 : 0 < j := by
    rcases Nat.eq_zero_or_pos j with e | e
    · rw [e, Nat.mul_zero] at hj; omega
    · exact e
  have hjb : j ≤ b := by
    have h1 : Nat.lcm a b ∣ a * b := Nat.lcm_dvd (Nat.dvd_mul_right _ _) (Nat.dvd_mul_left _ _)
    have h2 : a * j ≤ a * b := by rw [← hj]; exact Nat.le_of_dvd (Nat.mul_pos ha hb) h1
    exact Nat.le_of_mul_le_mul_left h2 ha
  have inv : ∀ t, leastFrom a b t a = a * (if t + 1 ≤ j then t + 1 else j) := by
    intro t
    induction t with
    | zero =>
      show a = _
      rw [if_pos (by omega), Nat.mul_one]
    | succ t ih =>
      rw [leastFrom_succ, ih]
      unfold leastStep
      by_cases c : t + 1 < j
      · rw [if_pos (show t + 1 ≤ j by omega), if_pos (show t + 1 + 1 ≤ j by omega)]
        have hc : a * (t + 1) % b > 0 := by
          rcases Nat.eq_zero_or_pos (a * (t + 1) % b) with e | e
          · exfalso
            have h1 : Nat.lcm a b ∣ a * (t + 1) := Nat.lcm_dvd (Nat.dvd_mul_right _ _) (Nat.dvd_of_mod_eq_zero e)
            have h2 := Nat.le_of_dvd (Nat.mul_pos ha (Nat.succ_pos t)) h1
            rw [hj] at h2
            have := Nat.le_of_mul_le_mul_left h2 ha
            omega
          · exact e
        rw [if_pos hc]
        exact (Nat.mul_succ a (t + 1)).symm
      · have e1 : (if t + 1 ≤ j then t + 1 else j) = j := by split <;> omega
        rw [e1, if_neg (show ¬ (t + 1 + 1 ≤ j) by omega), ← hj]
        have e2 : Nat.lcm a b % b = 0 := Nat.mod_eq_zero_of_dvd (Nat.dvd_lcm_right a b)
        rw [e2, if_neg (Nat.lt_irrefl 0)]
  rw [inv b, if_neg (by omega), ← hj]
end Rb

set_option maxHeartbeats 2000000
/-! the data of worlds, and what each def promises -/
namespace Rb
open PySem PySem.Spec PyProof.Rows L2

/-- a text by its signs -/
abbrev T (l : List Nat) : Str := ⟨l.toArray⟩
abbrev S (l : List Nat) : V := .str (T l)

def up (c : Nat) : Nat := c - 32
def flip (c : Nat) : Nat := if c < 97 then c + 32 else c - 32
def lets (ds : List Nat) : List Nat := ds.flatMap fun d => [d, up d]
structure Deeds (ds : List Nat) : Prop where
  ne : 0 < ds.length
  len : ds.length ≤ 4
  lt : ∀ d ∈ ds, 97 ≤ d ∧ d ≤ 122
  asc : ds.Pairwise (· < ·)

/-- v is a tuple of these -/
def TupN (F : Hp) (v : V) (ns : List Nat) : Prop := ∃ a, v = .ref a ∧ Rd F a (.tup (ns.map iv))
/-- .. whose object is known -/
def TupX (F : Hp) (v : V) (ns : List Nat) : Prop := ∃ a o, v = .ref a ∧ F a = some (.frz o (.tup (ns.map iv))) ∧ o.cls = .type "tuple" ∧ o.dict = none
theorem TupX.n {F : Hp} {v : V} {ns : List Nat} (h : TupX F v ns) : TupN F v ns := by
  obtain ⟨a, o, e, h, _⟩ := h
  exact ⟨a, e, .inr ⟨o, h⟩⟩
theorem Ex.rd {F F' : Hp} {a : Addr} {u : HO} (e : Ex F F') (h : Rd F a u) : Rd F' a u := by
  rcases h with h | ⟨o, h⟩
  · exact .inl (e _ _ h)
  · exact .inr ⟨o, e _ _ h⟩
theorem Ex.tup {F F' : Hp} {v : V} {ns : List Nat} (e : Ex F F') (h : TupN F v ns) : TupN F' v ns := by
  obtain ⟨a, q, h⟩ := h
  exact ⟨a, q, e.rd h⟩
theorem Ex.tupX {F F' : Hp} {v : V} {ns : List Nat} (e : Ex F F') (h : TupX F v ns) : TupX F' v ns := by
  obtain ⟨a, o, q, h, r⟩ := h
  exact ⟨a, o, q, e _ _ h, r⟩

/-- a world's data: its deeds, each with its move -/
abbrev WD := List (Nat × List Nat)
def both (wd : WD) : WD := wd.flatMap fun p => [(p.1, p.2), (up p.1, inv p.2)]
/-- right data of so many standings -/
structure WOk (wd : WD) (n : Nat) : Prop where
  deeds : Deeds (wd.map (·.1))
  perm : ∀ p ∈ wd, IsPerm n p.2
  pos : 0 < n
/-- the pairs of a dict from letters to tuples -/
def AL (F : Hp) : WD → List (Key × V) → Prop := Paired fun p q => q.1 = Sum.inr (T [p.1]) ∧ TupN F q.2 p.2
def ALX (F : Hp) : WD → List (Key × V) → Prop := Paired fun p q => q.1 = Sum.inr (T [p.1]) ∧ TupX F q.2 p.2
theorem Ex.al {F F' : Hp} {wd : WD} {kvs : List (Key × V)} (e : Ex F F') (h : AL F wd kvs) : AL F' wd kvs := Paired.mapP h fun _ _ z => ⟨z.1, e.tup z.2⟩
theorem Ex.alX {F F' : Hp} {wd : WD} {kvs : List (Key × V)} (e : Ex F F') (h : ALX F wd kvs) : ALX F' wd kvs := Paired.mapP h fun _ _ z => ⟨z.1, e.tupX z.2⟩
theorem ALX.al {F : Hp} {wd : WD} {kvs : List (Key × V)} (h : ALX F wd kvs) : AL F wd kvs := Paired.mapP h fun _ _ z => ⟨z.1, z.2.n⟩
/-- v is a dict of such -/
def DictAt (F : Hp) (v : V) (wd : WD) : Prop := ∃ a kvs, v = .ref a ∧ F a = some (.dK kvs) ∧ AL F wd kvs
def DictX (F : Hp) (v : V) (wd : WD) : Prop := ∃ a kvs, v = .ref a ∧ F a = some (.dK kvs) ∧ ALX F wd kvs
theorem Ex.dict {F F' : Hp} {v : V} {wd : WD} (e : Ex F F') (h : DictAt F v wd) : DictAt F' v wd := by
  obtain ⟨a, kvs, q, h, r⟩ := h
  exact ⟨a, kvs, q, e _ _ h, e.al r⟩
theorem Ex.dictX {F F' : Hp} {v : V} {wd : WD} (e : Ex F F') (h : DictX F v wd) : DictX F' v wd := by
  obtain ⟨a, kvs, q, h, r⟩ := h
  exact ⟨a, kvs, q, e _ _ h, e.alX r⟩
theorem DictX.at {F : Hp} {v : V} {wd : WD} (h : DictX F v wd) : DictAt F v wd := by
  obtain ⟨a, kvs, q, h, r⟩ := h
  exact ⟨a, kvs, q, h, r.al⟩

/-- what the top tells of a class of worlds -/
structure WC (K : PySem.W.Frag) (C : Addr) : Prop where
  cl : Cls K C
  nD : NoAttr K C "deeds"
  nS : NoAttr K C "size"
  nM : NoAttr K C "kept_moves"
  nB : NoAttr K C "kept_backs"
  ha : PySem.W.findIn K (.ref C) "__class__" = some (some (.builtin "object.__class__"))
  hn : PySem.W.specialIn K (.builtin "object.__class__") "__get__" = some (some (.builtin "getset_descriptor.__get__"))
  htk : PySem.W.takesIn K (.builtin "object.__class__") = some true
  hm : PySem.W.mroIn K C (.type "object") = some true
/-- the fields of a world -/
def wf (ds : List Nat) (n : Nat) (km kb : V) : List (Str × V) := [("deeds", S ds), ("size", iv n), ("kept_moves", km), ("kept_backs", kb)]
/-- v is a world of the class C -/
def WorldAt (K : PySem.W.Frag) (C : Addr) (F : Hp) (v : V) (wd : WD) (n : Nat) : Prop :=
  ∃ x dx km kb, v = .ref x ∧ WC K C ∧ F x = some (.ins C dx (wf (wd.map (·.1)) n km kb)) ∧ DictAt F km (both wd) ∧ WOk wd n
theorem Ex.world {K : PySem.W.Frag} {C : Addr} {F F' : Hp} {v : V} {wd : WD} {n : Nat} (e : Ex F F') (h : WorldAt K C F v wd n) : WorldAt K C F' v wd n := by
  obtain ⟨x, dx, km, kb, q, c, h, d, o⟩ := h
  exact ⟨x, dx, km, kb, q, c, e _ _ h, e.dict d, o⟩
/-- .. side by side -/
def besideW (a b : WD) : WD := List.zipWith (fun p q => (p.1, beside p.2 q.2)) a b

/-- the move that a letter has -/
def mv (al : WD) (c : Nat) : List Nat := (al.lookup c).getD []
def rowMove (al : WD) (n : Nat) (rs : List Nat) : List Nat := rs.foldl (fun f c => comp f (mv al c)) (List.range n)
def ledBy (al : WD) (s : Nat) (rs : List Nat) : Nat := rs.foldl (fun s c => (mv al c).getD s 0) s

/-! ### the promises: checks -/
abbrev sp_is_integer : Sp := Sp1 fun x H Q _ => ∃ i, x = .int i ∧ Q (.bl true) H
abbrev sp_is_string_of : Sp := Sp2 fun x y H Q _ => ∃ z w, x = S z ∧ y = S w ∧ (∀ c ∈ z, c ∈ w) ∧ Q (.bl true) H
abbrev sp_is_word : Sp := Sp1 fun x H Q _ => ∃ z, x = S z ∧ (∀ c ∈ z, 97 ≤ c ∧ c ≤ 122) ∧ 0 < z.length ∧ z.length ≤ 1000 ∧ Q (.bl true) H
abbrev sp_is_deeds : Sp := Sp1 fun x H Q _ => ∃ z, x = S z ∧ Deeds z ∧ Q (.bl true) H
abbrev sp_undoing_of : Sp := Sp1 fun x H Q _ => ∃ c, x = S [c] ∧ (97 ≤ c ∧ c ≤ 122 ∨ 65 ≤ c ∧ c ≤ 90) ∧ Q (S [flip c]) H
abbrev sp_letters_over : Sp := Sp1 fun x H Q _ => ∃ F M ds, x = S ds ∧ HS F M H ∧ Deeds ds ∧ Ret F M Q fun F' v => ∃ a, v = .ref a ∧ F' a = some (.tup ((lets ds).map fun c => S [c]))
abbrev sp_is_row_over : Sp := Sp2 fun x y H Q _ => ∃ ds rs, x = S ds ∧ y = S rs ∧ Deeds ds ∧ (∀ c ∈ rs, c ∈ lets ds) ∧ Q (.bl true) H
abbrev sp_check_row : Sp := Sp2 fun x y H Q _ => ∃ ds rs, x = S ds ∧ y = S rs ∧ Deeds ds ∧ (∀ c ∈ rs, c ∈ lets ds) ∧ Q .non H
/-! ### turns -/
abbrev sp_standing_still : Sp := Sp1 fun x H Q _ => ∃ F M n, x = iv n ∧ HS F M H ∧ n ≤ 2000 ∧ Ret F M Q fun F' v => TupN F' v (List.range n)
abbrev sp_composed : Sp := Sp2 fun x y H Q _ => ∃ F M n f g, TupN F x f ∧ TupN F y g ∧ HS F M H ∧ IsPerm n f ∧ IsPerm n g ∧ n ≤ 2000 ∧ Ret F M Q fun F' v => TupN F' v (comp f g)
abbrev sp_turned_back : Sp := Sp1 fun x H Q _ => ∃ F M n m, TupN F x m ∧ HS F M H ∧ IsPerm n m ∧ n ≤ 2000 ∧ Ret F M Q fun F' v => TupN F' v (inv m)
/-- a list of lists of ints -/
def LLs (F : Hp) (v : V) (cs : List (List Nat)) : Prop := ∃ a as, v = .ref a ∧ F a = some (.lst (as.map V.ref)) ∧ Paired (fun a c => F a = some (.lst (c.map iv))) as cs
abbrev sp_circles_of : Sp := Sp1 fun x H Q _ => ∃ F M n m, TupN F x m ∧ HS F M H ∧ IsPerm n m ∧ n ≤ 2000 ∧ Ret F M Q fun F' v => ∃ cs, Circles m cs ∧ LLs F' v cs
abbrev sp_greatest_divisor : Sp := Sp2 fun x y H Q _ => ∃ a b : Nat, x = iv a ∧ y = iv b ∧ Q (iv (Nat.gcd a b)) H
abbrev sp_order_of : Sp := Sp1 fun x H Q _ => ∃ F M n m, TupN F x m ∧ HS F M H ∧ IsPerm n m ∧ n ≤ 2000 ∧ ∀ o F' H', OrdOf m o → Ex F F' → HS F' M H' → Q (iv o) H'
/-! ### worlds -/
abbrev sp_is_standing : Sp := Sp2 fun x y H Q _ => ∃ n s : Nat, x = iv n ∧ y = iv s ∧ s < n ∧ Q (.bl true) H
abbrev sp_is_move : Sp := Sp2 fun x y H Q _ => ∃ F M n m, x = iv n ∧ TupN F y m ∧ HS F M H ∧ IsPerm n m ∧ n ≤ 2000 ∧ RetV F M Q (.bl true)
abbrev sp_are_moves : Sp := Sp2 fun x y H Q _ => ∃ F M wd n, x = S (wd.map (·.1)) ∧ DictAt F y wd ∧ HS F M H ∧ WOk wd n ∧ n ≤ 24 ∧ RetV F M Q (.bl true)
abbrev sp_all_moves : Sp := Sp2 fun x y H Q _ => ∃ F M wd n, x = S (wd.map (·.1)) ∧ DictAt F y wd ∧ HS F M H ∧ WOk wd n ∧ n ≤ 2000 ∧ Ret F M Q fun F' v => DictAt F' v (both wd)
/-- an empty instance is filled -/
abbrev spFill (K : PySem.W.Frag) (C : Addr) (most : Nat) : Sp := Sp3 fun x y z H Q _ => ∃ F M p dx wd n, x = .ref p ∧ y = S (wd.map (·.1)) ∧ DictAt F z wd ∧ HS F ((p, .ins C dx []) :: M) H ∧ WC K C ∧ WOk wd n ∧ n ≤ most ∧
  ∀ F' H' km kb, Ex F F' → HS F' ((p, .ins C dx (wf (wd.map (·.1)) n km kb)) :: M) H' → DictAt F' km (both wd) → Q .non H'
abbrev sp_World_keep (K : PySem.W.Frag) (C : Addr) : Sp := spFill K C 2000
abbrev sp_World_init (K : PySem.W.Frag) (C : Addr) : Sp := spFill K C 24
abbrev sp_RawWorld_init (K : PySem.W.Frag) (C : Addr) : Sp := spFill K C 2000
abbrev sp_World_moves (K : PySem.W.Frag) (C : Addr) : Sp := Sp1 fun x H Q _ => ∃ F M wd n, WorldAt K C F x wd n ∧ HS F M H ∧ Ret F M Q fun F' v => DictAt F' v wd
/-- two worlds that are alike -/
def Alike (K : PySem.W.Frag) (C : Addr) (a b : Addr) (H : Hp) : Prop := ∃ wd n, WorldAt K C H (.ref a) wd n ∧ WorldAt K C H (.ref b) wd n
abbrev sp_World_eq (K : PySem.W.Frag) (C : Addr) : Sp := spEq (Alike K C)
abbrev sp_check_standing (K : PySem.W.Frag) : Sp := Sp2 fun x y H Q _ => ∃ C wd n s, WorldAt K C H x wd n ∧ y = iv s ∧ s < n ∧ Q .non H
abbrev sp_check_same_deeds (K : PySem.W.Frag) (CO : Addr) : Sp := Sp2 fun x y H Q E => ∃ C C' wd n wd' n', WorldAt K C H x wd n ∧ WorldAt K C' H y wd' n' ∧
  (wd.map (·.1) = wd'.map (·.1) → Q .non H) ∧ (wd.map (·.1) ≠ wd'.map (·.1) → E (.ref CO) none H)
abbrev sp_row_move (K : PySem.W.Frag) : Sp := Sp2 fun x y H Q _ => ∃ F M C wd n rs, WorldAt K C F x wd n ∧ y = S rs ∧ HS F M H ∧ n ≤ 2000 ∧ (∀ c ∈ rs, c ∈ lets (wd.map (·.1))) ∧ Ret F M Q fun F' v => TupN F' v (rowMove (both wd) n rs)
abbrev sp_led (K : PySem.W.Frag) : Sp := Sp3 fun x y z H Q _ => ∃ C wd n s rs, WorldAt K C H x wd n ∧ y = iv s ∧ s < n ∧ z = S rs ∧ (∀ c ∈ rs, c ∈ lets (wd.map (·.1))) ∧ Q (iv (ledBy (both wd) s rs)) H
abbrev sp_move_of (K : PySem.W.Frag) : Sp := Sp2 fun x y H Q _ => ∃ F M C wd n rs, WorldAt K C F x wd n ∧ y = S rs ∧ HS F M H ∧ n ≤ 2000 ∧ (∀ c ∈ rs, c ∈ lets (wd.map (·.1))) ∧ Ret F M Q fun F' v => TupN F' v (rowMove (both wd) n rs)
abbrev sp_order (K : PySem.W.Frag) : Sp := Sp2 fun x y H Q _ => ∃ F M C wd n rs, WorldAt K C F x wd n ∧ y = S rs ∧ HS F M H ∧ n ≤ 2000 ∧ (∀ c ∈ rs, c ∈ lets (wd.map (·.1))) ∧ ∀ o F' H', OrdOf (rowMove (both wd) n rs) o → Ex F F' → HS F' M H' → Q (iv o) H'
abbrev sp_beside (K : PySem.W.Frag) (CR CO CT : Addr) : Sp := Sp2 fun x y H Q E => ∃ F M C C' wd n wd' n', WorldAt K C F x wd n ∧ WorldAt K C' F y wd' n' ∧ HS F M H ∧ n ≤ 2000 ∧ n' ≤ 2000 ∧
  (wd.map (·.1) ≠ wd'.map (·.1) → E (.ref CO) none H) ∧ (wd.map (·.1) = wd'.map (·.1) → n * n' > 2000 → ∀ d, H d = none → E (.ref CT) (some d) (upd H d (.xd [("most", .int 2000)]))) ∧
  (wd.map (·.1) = wd'.map (·.1) → n * n' ≤ 2000 → Ret F M Q fun F' v => WorldAt K CR F' v (besideW wd wd') (n * n'))
/-! ### the law's own -/
/-- the pot stands at p beside the cells M -/
def PotS (F : Hp) (M : List (Addr × HO)) (p : Addr) (H : Hp) : Prop := ∃ (g s : Addr) (gs ss : List Int) (t u : Int),
  HS F ((p, .lst [.ref g, .ref s, .int t, .int u]) :: (g, .lst (gs.map V.int)) :: M) H ∧ F s = some (.lst (ss.map V.int)) ∧ 0 < ss.length ∧ ss.length ≤ 1000 ∧ gs.length ≤ 1000
abbrev sp__law_pot (K : PySem.W.Frag) : Sp := Sp1 fun x H Q _ => ∃ (a : Addr) (ns : List Int), x = .ref a ∧ SqL K H a (ns.map V.int) ∧ ns.length ≤ 63 ∧ ∀ F p H', PotS F [] p H' → SqL K H' a (ns.map V.int) → Q (.ref p) H'
abbrev sp__law_draw : Sp := Sp2 fun x y H Q _ => ∃ F M p m, x = .ref p ∧ y = iv m ∧ 0 < m ∧ m ≤ 100000 ∧ PotS F M p H ∧ ∀ r H', r < m → PotS F M p H' → Q (iv r) H'
abbrev sp__law_any : Sp := Sp2 fun x y H Q _ => ∃ F M p a xs, x = .ref p ∧ y = .ref a ∧ F a = some (.lst xs) ∧ 0 < xs.length ∧ xs.length ≤ 1000 ∧ PotS F M p H ∧ ∀ v H', v ∈ xs → PotS F M p H' → Q v H'
abbrev sp__law_deeds : Sp := Sp2 fun x y H Q _ => ∃ F M p, x = .ref p ∧ y = iv 3 ∧ PotS F M p H ∧ ∀ ds H', Deeds ds → ds.length ≤ 3 → PotS F M p H' → Q (S ds) H'
abbrev sp__law_letters : Sp := Sp1 fun x H Q _ => ∃ F M ds, x = S ds ∧ Deeds ds ∧ HS F M H ∧ Ret F M Q fun F' v => ∃ a, v = .ref a ∧ F' a = some (.lst ((lets ds).map fun c => S [c]))
abbrev sp__law_row : Sp := Sp3 fun x y z H Q _ => ∃ F M p ds m, x = .ref p ∧ y = S ds ∧ Deeds ds ∧ z = iv m ∧ m ≤ 1000 ∧ PotS F M p H ∧ ∀ rs F' H', (∀ c ∈ rs, c ∈ lets ds) → rs.length ≤ m → Ex F F' → PotS F' M p H' → Q (S rs) H'
abbrev sp__law_mixed : Sp := Sp2 fun x y H Q _ => ∃ F M p a n, x = .ref p ∧ y = .ref a ∧ F a = some (.lst ((List.range n).map iv)) ∧ n ≤ 1000 ∧ PotS F M p H ∧
  ∀ b m F' H', IsPerm n m → Ex F F' → PotS F' M p H' → F' b = some (.lst (m.map iv)) → Q (.ref b) H'
abbrev sp__law_moves : Sp := Sp3 fun x y z H Q _ => ∃ F M p ds n, x = .ref p ∧ y = S ds ∧ Deeds ds ∧ z = iv n ∧ 0 < n ∧ n ≤ 1000 ∧ PotS F M p H ∧
  ∀ v wd F' H', wd.map (·.1) = ds → WOk wd n → Ex F F' → PotS F' M p H' → DictX F' v wd → Q v H'
abbrev sp__law_step : Sp := Sp3 fun x y z H Q _ => ∃ wd n c s, DictX H x wd ∧ WOk wd n ∧ n ≤ 1000 ∧ y = S [c] ∧ c ∈ lets (wd.map (·.1)) ∧ z = iv s ∧ s < n ∧ Q (iv ((mv (both wd) c).getD s 0)) H
abbrev sp__law_led : Sp := Sp3 fun x y z H Q _ => ∃ wd n s rs, DictX H x wd ∧ WOk wd n ∧ n ≤ 1000 ∧ y = iv s ∧ s < n ∧ z = S rs ∧ (∀ c ∈ rs, c ∈ lets (wd.map (·.1))) ∧ Q (iv (ledBy (both wd) s rs)) H
abbrev sp__law_pairs : Sp := Sp3 fun x y z H Q _ => ∃ F M wd n wd' n', x = S (wd.map (·.1)) ∧ DictAt F y wd ∧ DictAt F z wd' ∧ wd.map (·.1) = wd'.map (·.1) ∧ WOk wd n ∧ WOk wd' n' ∧ n * n' ≤ 2000 ∧ HS F M H ∧ Ret F M Q fun F' v => DictAt F' v (besideW wd wd')
abbrev sp__law_asked (K : PySem.W.Frag) (CR CO CT : Addr) : Sp := Sp2 fun x y H Q _ => ∃ F M C C' wd n wd' n', WorldAt K C F x wd n ∧ WorldAt K C' F y wd' n' ∧ HS F M H ∧ n ≤ 2000 ∧ n' ≤ 2000 ∧
  Ret F M Q fun F' v => ∃ a, v = .ref a ∧ (wd.map (·.1) ≠ wd'.map (·.1) → F' a = some (.tup [.str "deeds", .non])) ∧ (wd.map (·.1) = wd'.map (·.1) → n * n' > 2000 → F' a = some (.tup [.str "large", .int 2000])) ∧
    (wd.map (·.1) = wd'.map (·.1) → n * n' ≤ 2000 → ∃ u, F' a = some (.tup [.str "told", u]) ∧ WorldAt K CR F' u (besideW wd wd') (n * n'))
abbrev sp__law_least : Sp := Sp2 fun x y H Q _ => ∃ a b : Nat, x = iv a ∧ y = iv b ∧ 0 < a ∧ 0 < b ∧ b ≤ 1000000 ∧ Q (iv (Nat.lcm a b)) H
abbrev sp_law (K : PySem.W.Frag) : Sp := Sp1 fun x H Q _ => ∃ (a : Addr) (ns : List Int), x = .ref a ∧ SqL K H a (ns.map V.int) ∧ ns.length ≤ 63 ∧ ∀ H', Q (.bl true) H'

/-! ### words of the generator -/
def GoodK (mg : Str → Option Value) (x : Str) (v : V) : Prop := ∃ u, mg x = some u ∧ RelV v u
theorem pe_gk {X : Cx} {x : Str} {v : V} {pos : Pos} (G : GoodK X.mg x v) (hg : Gl X x := by rfl) (hd : (x == ("__debug__" : Str)) = false := by decide) : PE X (.Name x pos) (tC v) := by
  obtain ⟨u, h, r⟩ := G
  exact pe_glob hg h r hd
end Rb

set_option maxHeartbeats 4000000
/-! printed by gen.py: the text by places, the readings, the derivations -/
namespace Rb
open PySem PySem.Spec PyProof.Rows L2
structure Blt (mg : Str → Option Value) : Prop where
  int : mg "int" = none
  str : mg "str" = none
  bool : mg "bool" = none
  tuple : mg "tuple" = none
  list : mg "list" = none
  dict : mg "dict" = none
  range : mg "range" = none
  enumerate : mg "enumerate" = none
  isinstance : mg "isinstance" = none
  len : mg "len" = none
  abs : mg "abs" = none
  sorted : mg "sorted" = none
  sum : mg "sum" = none
def top (i : Nat) : Stmt := PySem.Challenge.pw_runsback_k41_whole_worlds_side_by_side.main.body.getD i (.Pass ⟨0, 0, 0, 0⟩)
abbrev s_big : Stmt := inClass (top 3) 0
abbrev v_SMALL : V := V.str "abcdefghijklmnopqrstuvwxyz"
abbrev v_MOST_STANDINGS : V := V.int 24
abbrev v_MOST_PAIRS : V := V.int 2000

/-! is_integer: level 1, slots 0:thing -/
abbrev s_is_integer : Stmt := top 9
abbrev N_is_integer : List Str := ["thing"]
theorem sc_is_integer : FnScope N_is_integer ["thing"] (defScope s_is_integer) := ⟨rfl, rfl, rfl, by decide +kernel, rfl, by decide +kernel, by decide +kernel⟩
def t_is_integer (K : PySem.W.Frag) : TS :=
  tRet (tAndV (tCB (oIsi K) (tCons (tVar 0) (tCons (tC (.ty "int")) (tNil)))) (tNotV (tCB (oIsi K) (tCons (tVar 0) (tCons (tC (.ty "bool")) (tNil))))))
theorem der_is_integer {P : Program} {w : World} {K : PySem.W.Frag} {mg : Str → Option Value} {base : Heap} {f : Addr} {cdv : Value} {A : Around} {outer : List Env} {s : Shared} {H : Hp} {E : XK} (B : Blt mg)
    (hr : Room 0 (A.deeper (envOfC "is_integer" (defScope s_is_integer) s.heap.objs.size f cdv)))
     :
    PSs (cxOf (L2.CX P w) P w K mg base N_is_integer "is_integer" (defScope s_is_integer) f cdv A outer s H E) (defBody s_is_integer) (t_is_integer K) :=
  (pss_one (ps_ret (pe_and (pe_callB cr_isi (by rfl) B.isinstance (by decide +kernel) (pa_cons (pv 0) (pa_cons (pe_bltn (v := .ty "int") rfl B.int (by decide +kernel) rfl) pa_nil))) (pe_one (pe_not (pe_callB cr_isi (by rfl) B.isinstance (by decide +kernel) (pa_cons (pv 0) (pa_cons (pe_bltn (v := .ty "bool") rfl B.bool (by decide +kernel) rfl) pa_nil))))))))

/-! is_string_of: level 1, slots 0:thing 1:signs 2:sign -/
abbrev s_is_string_of : Stmt := top 10
abbrev N_is_string_of : List Str := ["thing", "signs", "sign"]
theorem sc_is_string_of : FnScope N_is_string_of ["thing", "signs"] (defScope s_is_string_of) := ⟨rfl, rfl, rfl, by decide +kernel, rfl, by decide +kernel, by decide +kernel⟩
def t_is_string_of (K : PySem.W.Frag) : TS :=
  tSeq (tIfS (tNot (tTr K (tCB (oIsi K) (tCons (tVar 0) (tCons (tC (.ty "str")) (tNil)))))) (tRet (tC (.bl false))) (tNext)) (tSeq (tFor (iSeq K (tVar 0)) (gName 2) (tIfS (tNinT K (tVar 2) (tVar 1)) (tRet (tC (.bl false))) (tNext))) (tRet (tC (.bl true))))
theorem der_is_string_of {P : Program} {w : World} {K : PySem.W.Frag} {mg : Str → Option Value} {base : Heap} {f : Addr} {cdv : Value} {A : Around} {outer : List Env} {s : Shared} {H : Hp} {E : XK} (B : Blt mg)
    (hr : Room 0 (A.deeper (envOfC "is_string_of" (defScope s_is_string_of) s.heap.objs.size f cdv)))
     :
    PSs (cxOf (L2.CX P w) P w K mg base N_is_string_of "is_string_of" (defScope s_is_string_of) f cdv A outer s H E) (defBody s_is_string_of) (t_is_string_of K) :=
  (pss_cons (ps_if (pt_not (pt_tr (pe_callB cr_isi (by rfl) B.isinstance (by decide +kernel) (pa_cons (pv 0) (pa_cons (pe_bltn (v := .ty "str") rfl B.str (by decide +kernel) rfl) pa_nil))))) (pss_one (ps_ret pe_bl)) pss_nil)
      (pss_cons (ps_for (passes_of rfl) rfl (pi_seq (pv 0)) (pg_name (i := 2) sc_is_string_of.nd rfl (by first | exact Or.inl rfl | exact Or.inr rfl))
      (pss_one (ps_if (pt_nin (hu_of hr) (pv 2) (pv 1)) (pss_one (ps_ret pe_bl)) pss_nil)))
      (pss_one (ps_ret pe_bl))))

/-! is_word: level 2, slots 0:thing -/
abbrev s_is_word : Stmt := top 11
abbrev N_is_word : List Str := ["thing"]
theorem sc_is_word : FnScope N_is_word ["thing"] (defScope s_is_word) := ⟨rfl, rfl, rfl, by decide +kernel, rfl, by decide +kernel, by decide +kernel⟩
def t_is_word (K : PySem.W.Frag) : TS :=
  tRet (tAndV (tCall sp_is_string_of [] E0 (tCons (tVar 0) (tCons (tC v_SMALL) (tNil)))) (tOp cGt (tCB (oLen K) (tCons (tVar 0) (tNil))) (tC (.int 0))))
theorem der_is_word {P : Program} {w : World} {K : PySem.W.Frag} {mg : Str → Option Value} {base : Heap} {f : Addr} {cdv : Value} {A : Around} {outer : List Env} {s : Shared} {H : Hp} {E : XK} (B : Blt mg)
    (hr : Room 1 (A.deeper (envOfC "is_word" (defScope s_is_word) s.heap.objs.size f cdv)))
    (h0 : GoodK mg "SMALL" v_SMALL)
    (h1 : GoodF P w K mg base 1 "is_string_of" ["thing", "signs"] sp_is_string_of) :
    PSs (cxOf (L2.CX P w) P w K mg base N_is_word "is_word" (defScope s_is_word) f cdv A outer s H E) (defBody s_is_word) (t_is_word K) :=
  (pss_one (ps_ret (pe_and (pe_f h1 (hr.mono (by decide)) (pa_cons (pv 0) (pa_cons (pe_gk h0) pa_nil))) (pe_one (pe_cmpR op_gtA (pe_callB cr_len (by rfl) B.len (by decide +kernel) (pa_cons (pv 0) pa_nil)) pe_int (nomark _))))))

/-! is_deeds: level 3, slots 0:thing 1:at -/
abbrev s_is_deeds : Stmt := top 12
abbrev N_is_deeds : List Str := ["thing", "at"]
theorem sc_is_deeds : FnScope N_is_deeds ["thing"] (defScope s_is_deeds) := ⟨rfl, rfl, rfl, by decide +kernel, rfl, by decide +kernel, by decide +kernel⟩
def t_is_deeds (K : PySem.W.Frag) : TS :=
  tSeq (tIfS (tOr (tNot (tTr K (tCall sp_is_word [] E0 (tCons (tVar 0) (tNil))))) (tTest (tOp cGt (tCB (oLen K) (tCons (tVar 0) (tNil))) (tC (.int 4))))) (tRet (tC (.bl false))) (tNext)) (tSeq (tFor (iRng2 (tCons (tC (.int 1)) (tCons (tCB (oLen K) (tCons (tVar 0) (tNil))) (tNil)))) (gName 1) (tIfS (tTest (tOp cGe (tIx K (tVar 0) (tOp oSub (tVar 1) (tC (.int 1)))) (tIx K (tVar 0) (tVar 1)))) (tRet (tC (.bl false))) (tNext))) (tRet (tC (.bl true))))
theorem der_is_deeds {P : Program} {w : World} {K : PySem.W.Frag} {mg : Str → Option Value} {base : Heap} {f : Addr} {cdv : Value} {A : Around} {outer : List Env} {s : Shared} {H : Hp} {E : XK} (B : Blt mg)
    (hr : Room 2 (A.deeper (envOfC "is_deeds" (defScope s_is_deeds) s.heap.objs.size f cdv)))
    (h0 : GoodF P w K mg base 2 "is_word" ["thing"] sp_is_word) :
    PSs (cxOf (L2.CX P w) P w K mg base N_is_deeds "is_deeds" (defScope s_is_deeds) f cdv A outer s H E) (defBody s_is_deeds) (t_is_deeds K) :=
  (pss_cons (ps_if (PW.pt (pw_or (pt_not (pt_tr (pe_f h0 (hr.mono (by decide)) (pa_cons (pv 0) pa_nil)))) (pw_or1 (pt_cmpR op_gtA (pe_callB cr_len (by rfl) B.len (by decide +kernel) (pa_cons (pv 0) pa_nil)) pe_int (nomark _))))) (pss_one (ps_ret pe_bl)) pss_nil)
      (pss_cons (ps_for (passes_of rfl) rfl (pi_range2 rfl B.range (pa_cons pe_int (pa_cons (pe_callB cr_len (by rfl) B.len (by decide +kernel) (pa_cons (pv 0) pa_nil)) pa_nil))) (pg_name (i := 1) sc_is_deeds.nd rfl (by first | exact Or.inl rfl | exact Or.inr rfl))
      (pss_one (ps_if (pt_cmpR op_geA (pe_sub (hu_of hr) (pv 0) (pe_op op_subA (pv 1) pe_int)) (pe_sub (hu_of hr) (pv 0) (pv 1)) (nomark _)) (pss_one (ps_ret pe_bl)) pss_nil)))
      (pss_one (ps_ret pe_bl))))

/-! undoing_of: level 1, slots 0:letter -/
abbrev s_undoing_of : Stmt := top 13
abbrev N_undoing_of : List Str := ["letter"]
theorem sc_undoing_of : FnScope N_undoing_of ["letter"] (defScope s_undoing_of) := ⟨rfl, rfl, rfl, by decide +kernel, rfl, by decide +kernel, by decide +kernel⟩
def t_undoing_of (K : PySem.W.Frag) : TS :=
  tRet (tM0 mSwap (tVar 0))
theorem der_undoing_of {P : Program} {w : World} {K : PySem.W.Frag} {mg : Str → Option Value} {base : Heap} {f : Addr} {cdv : Value} {A : Around} {outer : List Env} {s : Shared} {H : Hp} {E : XK} (B : Blt mg)
    (hr : Room 0 (A.deeper (envOfC "undoing_of" (defScope s_undoing_of) s.heap.objs.size f cdv)))
     :
    PSs (cxOf (L2.CX P w) P w K mg base N_undoing_of "undoing_of" (defScope s_undoing_of) f cdv A outer s H E) (defBody s_undoing_of) (t_undoing_of K) :=
  (pss_one (ps_ret (pe_swap (pv 0))))

/-! letters_over: level 1, slots 0:deeds 1:deed 2:letter -/
abbrev s_letters_over : Stmt := top 14
abbrev N_letters_over : List Str := ["deeds", "deed", "letter"]
theorem sc_letters_over : FnScope N_letters_over ["deeds"] (defScope s_letters_over) := ⟨rfl, rfl, rfl, by decide +kernel, rfl, by decide +kernel, by decide +kernel⟩
def t_letters_over (K : PySem.W.Frag) : TS :=
  tRet (tCB (oTupleA K) (tCons (tLc2 (iSeq K (tVar 0)) (gName 1) (tYes) (iSeq K (tTup (tCons (tVar 1) (tCons (tM0 mUp (tVar 1)) (tNil))))) (gName 2) (tYes) (tVar 2) [1, 2] [2]) (tNil)))
theorem der_letters_over {P : Program} {w : World} {K : PySem.W.Frag} {mg : Str → Option Value} {base : Heap} {f : Addr} {cdv : Value} {A : Around} {outer : List Env} {s : Shared} {H : Hp} {E : XK} (B : Blt mg)
    (hr : Room 0 (A.deeper (envOfC "letters_over" (defScope s_letters_over) s.heap.objs.size f cdv)))
     :
    PSs (cxOf (L2.CX P w) P w K mg base N_letters_over "letters_over" (defScope s_letters_over) f cdv A outer s H E) (defBody s_letters_over) (t_letters_over K) :=
  (pss_one (ps_ret (pe_callTy cr_tupleA (by rfl) B.tuple (by decide +kernel) (pa_cons (pe_lc2 (own := [("deed", 1), ("letter", 2)]) (vs1 := [2]) rfl sc_letters_over.nd (pi_seq (pv 0)) (blkOk_by (own := [("deed", 1), ("letter", 2)]) (N := N_letters_over) (sc := defScope s_letters_over) (by decide +kernel)) (by decide) (fun _ _ _ _ _ => (pg_name (i := 1) sc_letters_over.nd rfl (by first | exact Or.inl rfl | exact Or.inr rfl))) (fun _ _ _ _ _ => pts_nil) (fun _ _ _ _ _ => (pi_seq (pe_tup (pa_cons (pv 1) (pa_cons (pe_up (pv 1)) pa_nil))))) (fun _ _ _ _ _ => (pg_name (i := 2) sc_letters_over.nd rfl (by first | exact Or.inl rfl | exact Or.inr rfl))) (fun _ _ _ _ _ => pts_nil) (fun _ _ _ _ _ => (pv 2))) pa_nil))))

/-! is_row_over: level 2, slots 0:deeds 1:thing -/
abbrev s_is_row_over : Stmt := top 15
abbrev N_is_row_over : List Str := ["deeds", "thing"]
theorem sc_is_row_over : FnScope N_is_row_over ["deeds", "thing"] (defScope s_is_row_over) := ⟨rfl, rfl, rfl, by decide +kernel, rfl, by decide +kernel, by decide +kernel⟩
def t_is_row_over (K : PySem.W.Frag) : TS :=
  tRet (tCall sp_is_string_of [] E0 (tCons (tVar 1) (tCons (tOp oAdd (tVar 0) (tM0 mUp (tVar 0))) (tNil))))
theorem der_is_row_over {P : Program} {w : World} {K : PySem.W.Frag} {mg : Str → Option Value} {base : Heap} {f : Addr} {cdv : Value} {A : Around} {outer : List Env} {s : Shared} {H : Hp} {E : XK} (B : Blt mg)
    (hr : Room 1 (A.deeper (envOfC "is_row_over" (defScope s_is_row_over) s.heap.objs.size f cdv)))
    (h0 : GoodF P w K mg base 1 "is_string_of" ["thing", "signs"] sp_is_string_of) :
    PSs (cxOf (L2.CX P w) P w K mg base N_is_row_over "is_row_over" (defScope s_is_row_over) f cdv A outer s H E) (defBody s_is_row_over) (t_is_row_over K) :=
  (pss_one (ps_ret (pe_f h0 (hr.mono (by decide)) (pa_cons (pv 1) (pa_cons (pe_op op_addA (pv 0) (pe_up (pv 0))) pa_nil)))))

/-! check_row: level 3, slots 0:deeds 1:thing -/
abbrev s_check_row : Stmt := top 16
abbrev N_check_row : List Str := ["deeds", "thing"]
theorem sc_check_row : FnScope N_check_row ["deeds", "thing"] (defScope s_check_row) := ⟨rfl, rfl, rfl, by decide +kernel, rfl, by decide +kernel, by decide +kernel⟩
def t_check_row (K : PySem.W.Frag) : TS :=
  tIfS (tNot (tTr K (tCall sp_is_row_over [] E0 (tCons (tVar 0) (tCons (tVar 1) (tNil)))))) (tNever) (tNext)
theorem der_check_row {P : Program} {w : World} {K : PySem.W.Frag} {mg : Str → Option Value} {base : Heap} {f : Addr} {cdv : Value} {A : Around} {outer : List Env} {s : Shared} {H : Hp} {E : XK} (B : Blt mg)
    (hr : Room 2 (A.deeper (envOfC "check_row" (defScope s_check_row) s.heap.objs.size f cdv)))
    (h0 : GoodF P w K mg base 2 "is_row_over" ["deeds", "thing"] sp_is_row_over) :
    PSs (cxOf (L2.CX P w) P w K mg base N_check_row "check_row" (defScope s_check_row) f cdv A outer s H E) (defBody s_check_row) (t_check_row K) :=
  (pss_one (ps_if (pt_not (pt_tr (pe_f h0 (hr.mono (by decide)) (pa_cons (pv 0) (pa_cons (pv 1) pa_nil))))) (pss_one ps_never) pss_nil))

/-! standing_still: level 1, slots 0:size -/
abbrev s_standing_still : Stmt := top 18
abbrev N_standing_still : List Str := ["size"]
theorem sc_standing_still : FnScope N_standing_still ["size"] (defScope s_standing_still) := ⟨rfl, rfl, rfl, by decide +kernel, rfl, by decide +kernel, by decide +kernel⟩
def t_standing_still (K : PySem.W.Frag) : TS :=
  tRet (tCB (oTupleA K) (tCons (tLstRg (tRg1 (tVar 0))) (tNil)))
theorem der_standing_still {P : Program} {w : World} {K : PySem.W.Frag} {mg : Str → Option Value} {base : Heap} {f : Addr} {cdv : Value} {A : Around} {outer : List Env} {s : Shared} {H : Hp} {E : XK} (B : Blt mg)
    (hr : Room 0 (A.deeper (envOfC "standing_still" (defScope s_standing_still) s.heap.objs.size f cdv)))
     :
    PSs (cxOf (L2.CX P w) P w K mg base N_standing_still "standing_still" (defScope s_standing_still) f cdv A outer s H E) (defBody s_standing_still) (t_standing_still K) :=
  (pss_one (ps_ret (pe_callTy cr_tupleA (by rfl) B.tuple (by decide +kernel) (pa_cons (pe_listRg rfl rfl B.list (prg_1 rfl B.range (pv 0))) pa_nil))))

/-! composed: level 1, slots 0:first 1:second 2:standing -/
abbrev s_composed : Stmt := top 19
abbrev N_composed : List Str := ["first", "second", "standing"]
theorem sc_composed : FnScope N_composed ["first", "second"] (defScope s_composed) := ⟨rfl, rfl, rfl, by decide +kernel, rfl, by decide +kernel, by decide +kernel⟩
def t_composed (K : PySem.W.Frag) : TS :=
  tRet (tCB (oTupleA K) (tCons (tLc (iSeq K (tVar 0)) (gName 2) (tYes) (tIx K (tVar 1) (tVar 2)) [2]) (tNil)))
theorem der_composed {P : Program} {w : World} {K : PySem.W.Frag} {mg : Str → Option Value} {base : Heap} {f : Addr} {cdv : Value} {A : Around} {outer : List Env} {s : Shared} {H : Hp} {E : XK} (B : Blt mg)
    (hr : Room 0 (A.deeper (envOfC "composed" (defScope s_composed) s.heap.objs.size f cdv)))
     :
    PSs (cxOf (L2.CX P w) P w K mg base N_composed "composed" (defScope s_composed) f cdv A outer s H E) (defBody s_composed) (t_composed K) :=
  (pss_one (ps_ret (pe_callTy cr_tupleA (by rfl) B.tuple (by decide +kernel) (pa_cons (pe_lc (own := [("standing", 2)]) rfl sc_composed.nd (pi_seq (pv 0)) (blkOk_by (own := [("standing", 2)]) (N := N_composed) (sc := defScope s_composed) (by decide +kernel)) (fun _ _ _ _ _ => (pg_name (i := 2) sc_composed.nd rfl (by first | exact Or.inl rfl | exact Or.inr rfl))) (fun _ _ _ _ _ => pts_nil) (fun _ _ _ _ _ => (pe_sub (hu_of hr) (pv 1) (pv 2)))) pa_nil))))

/-! turned_back: level 1, slots 0:move 1:found 2:standing 3:goal -/
abbrev s_turned_back : Stmt := top 20
abbrev N_turned_back : List Str := ["move", "found", "standing", "goal"]
theorem sc_turned_back : FnScope N_turned_back ["move"] (defScope s_turned_back) := ⟨rfl, rfl, rfl, by decide +kernel, rfl, by decide +kernel, by decide +kernel⟩
def t_turned_back (K : PySem.W.Frag) : TS :=
  tSeq (tAsg (tLc (iSeq K (tVar 0)) (gName 2) (tYes) (tC (.int 0)) [2]) (gName 1)) (tSeq (tFor (iEn K (tCons (tVar 0) (tNil))) (gTup K 2 (gCons (gName 2) (gCons (gName 3) (gNil)))) (sPut (tVar 1) (tVar 3) (tVar 2))) (tRet (tCB (oTupleA K) (tCons (tVar 1) (tNil)))))
theorem der_turned_back {P : Program} {w : World} {K : PySem.W.Frag} {mg : Str → Option Value} {base : Heap} {f : Addr} {cdv : Value} {A : Around} {outer : List Env} {s : Shared} {H : Hp} {E : XK} (B : Blt mg)
    (hr : Room 0 (A.deeper (envOfC "turned_back" (defScope s_turned_back) s.heap.objs.size f cdv)))
     :
    PSs (cxOf (L2.CX P w) P w K mg base N_turned_back "turned_back" (defScope s_turned_back) f cdv A outer s H E) (defBody s_turned_back) (t_turned_back K) :=
  (pss_cons (ps_setLc (i := 1) (own := [("standing", 2)]) rfl sc_turned_back.nd rfl rfl (sw_true rfl rfl rfl (by decide +kernel)) (pi_seq (pv 0)) (blkOk_by (own := [("standing", 2)]) (N := N_turned_back) (sc := defScope s_turned_back) (by decide +kernel)) (fun _ _ _ _ _ => (pg_name (i := 2) sc_turned_back.nd rfl (by first | exact Or.inl rfl | exact Or.inr rfl))) (fun _ _ _ _ _ => pts_nil) (fun _ _ _ _ _ => pe_int))
      (pss_cons (ps_for (passes_of rfl) rfl (pi_en rfl B.enumerate (pa_cons (pv 0) pa_nil)) (pg_tup rfl (pgs_cons (pg_name (i := 2) sc_turned_back.nd rfl (by first | exact Or.inl rfl | exact Or.inr rfl)) (pgs_cons (pg_name (i := 3) sc_turned_back.nd rfl (by first | exact Or.inl rfl | exact Or.inr rfl)) pgs_nil)))
      (pss_one (ps_put (hu_of hr) (pv 1) (pv 3) (pv 2) (pg_sub (pv 1) (pv 3) set_list))))
      (pss_one (ps_ret (pe_callTy cr_tupleA (by rfl) B.tuple (by decide +kernel) (pa_cons (pv 1) pa_nil))))))

/-! circles_of: level 1, slots 0:move 1:known 2:standing 3:found 4:start 5:circle -/
abbrev s_circles_of : Stmt := top 21
abbrev N_circles_of : List Str := ["move", "known", "standing", "found", "start", "circle"]
theorem sc_circles_of : FnScope N_circles_of ["move"] (defScope s_circles_of) := ⟨rfl, rfl, rfl, by decide +kernel, rfl, by decide +kernel, by decide +kernel⟩
def t_circles_of (K : PySem.W.Frag) : TS :=
  tSeq (tAsg (tLc (iSeq K (tVar 0)) (gName 2) (tYes) (tC (.bl false)) [2]) (gName 1)) (tSeq (tAsg (tLst (tNil)) (gName 3)) (tSeq (tFor (iRng1 (tCons (tCB (oLen K) (tCons (tVar 0) (tNil))) (tNil))) (gName 4) (tSeq (tAsg (tLst (tNil)) (gName 5)) (tSeq (tAsg (tVar 4) (gName 2)) (tSeq (tWhile (tNot (tTr K (tIx K (tVar 1) (tVar 2)))) (tSeq (sPut (tVar 1) (tVar 2) (tC (.bl true))) (tSeq (tDrop (tBM K "list" rAppend (tVar 5) (tCons (tVar 2) (tNil)))) (tAsg (tIx K (tVar 0) (tVar 2)) (gName 2))))) (tIfS (tTr K (tVar 5)) (tDrop (tBM K "list" rAppend (tVar 3) (tCons (tVar 5) (tNil)))) (tNext)))))) (tRet (tVar 3))))
theorem der_circles_of {P : Program} {w : World} {K : PySem.W.Frag} {mg : Str → Option Value} {base : Heap} {f : Addr} {cdv : Value} {A : Around} {outer : List Env} {s : Shared} {H : Hp} {E : XK} (B : Blt mg)
    (hr : Room 0 (A.deeper (envOfC "circles_of" (defScope s_circles_of) s.heap.objs.size f cdv)))
     :
    PSs (cxOf (L2.CX P w) P w K mg base N_circles_of "circles_of" (defScope s_circles_of) f cdv A outer s H E) (defBody s_circles_of) (t_circles_of K) :=
  (pss_cons (ps_setLc (i := 1) (own := [("standing", 2)]) rfl sc_circles_of.nd rfl rfl (sw_true rfl rfl rfl (by decide +kernel)) (pi_seq (pv 0)) (blkOk_by (own := [("standing", 2)]) (N := N_circles_of) (sc := defScope s_circles_of) (by decide +kernel)) (fun _ _ _ _ _ => (pg_name (i := 2) sc_circles_of.nd rfl (by first | exact Or.inl rfl | exact Or.inr rfl))) (fun _ _ _ _ _ => pts_nil) (fun _ _ _ _ _ => pe_bl))
      (pss_cons (ps_set (i := 3) sc_circles_of.nd rfl (by first | exact Or.inl rfl | exact Or.inr rfl) (pe_lst pa_nil))
      (pss_cons (ps_for (passes_of rfl) rfl (pi_range1 rfl B.range (pa_cons (pe_callB cr_len (by rfl) B.len (by decide +kernel) (pa_cons (pv 0) pa_nil)) pa_nil)) (pg_name (i := 4) sc_circles_of.nd rfl (by first | exact Or.inl rfl | exact Or.inr rfl))
      (pss_cons (ps_set (i := 5) sc_circles_of.nd rfl (by first | exact Or.inl rfl | exact Or.inr rfl) (pe_lst pa_nil))
      (pss_cons (ps_set (i := 2) sc_circles_of.nd rfl (by first | exact Or.inl rfl | exact Or.inr rfl) (pv 4))
      (pss_cons (ps_while (passes_of rfl) (pt_not (pt_tr (pe_sub (hu_of hr) (pv 1) (pv 2))))
      (pss_cons (ps_put (hu_of hr) (pv 1) (pv 2) pe_bl (pg_sub (pv 1) (pv 2) set_list))
      (pss_cons (ps_expr (pe_bm PySem.F.plainAttrs_list PySem.F.slot_list_append PySem.F.type_list_append mt_append (pv 5) (pa_cons (pv 2) pa_nil)))
      (pss_one (ps_set (i := 2) sc_circles_of.nd rfl (by first | exact Or.inl rfl | exact Or.inr rfl) (pe_sub (hu_of hr) (pv 0) (pv 2)))))))
      (pss_one (ps_if (pt_tr (pv 5)) (pss_one (ps_expr (pe_bm PySem.F.plainAttrs_list PySem.F.slot_list_append PySem.F.type_list_append mt_append (pv 3) (pa_cons (pv 5) pa_nil)))) pss_nil))))))
      (pss_one (ps_ret (pv 3))))))

/-! greatest_divisor: level 1, slots 0:one 1:other -/
abbrev s_greatest_divisor : Stmt := top 22
abbrev N_greatest_divisor : List Str := ["one", "other"]
theorem sc_greatest_divisor : FnScope N_greatest_divisor ["one", "other"] (defScope s_greatest_divisor) := ⟨rfl, rfl, rfl, by decide +kernel, rfl, by decide +kernel, by decide +kernel⟩
def t_greatest_divisor (K : PySem.W.Frag) : TS :=
  tSeq (tWhile (tTest (tOp cGt (tVar 1) (tC (.int 0)))) (tPar 0 1 (tCons (tVar 1) (tCons (tOp oMod (tVar 0) (tVar 1)) (tNil))))) (tRet (tVar 0))
theorem der_greatest_divisor {P : Program} {w : World} {K : PySem.W.Frag} {mg : Str → Option Value} {base : Heap} {f : Addr} {cdv : Value} {A : Around} {outer : List Env} {s : Shared} {H : Hp} {E : XK} (B : Blt mg)
    (hr : Room 0 (A.deeper (envOfC "greatest_divisor" (defScope s_greatest_divisor) s.heap.objs.size f cdv)))
     :
    PSs (cxOf (L2.CX P w) P w K mg base N_greatest_divisor "greatest_divisor" (defScope s_greatest_divisor) f cdv A outer s H E) (defBody s_greatest_divisor) (t_greatest_divisor K) :=
  (pss_cons (ps_while (passes_of rfl) (pt_cmpR op_gtA (pv 1) pe_int (nomark _))
      (pss_one (ps_par rfl sc_greatest_divisor.nd rfl rfl (by decide) rfl rfl (pa_cons (pv 1) (pa_cons (pe_op op_modA (pv 0) (pv 1)) pa_nil)) (by rfl))))
      (pss_one (ps_ret (pv 0))))

/-! order_of: level 2, slots 0:move 1:found 2:circle -/
abbrev s_order_of : Stmt := top 23
abbrev N_order_of : List Str := ["move", "found", "circle"]
theorem sc_order_of : FnScope N_order_of ["move"] (defScope s_order_of) := ⟨rfl, rfl, rfl, by decide +kernel, rfl, by decide +kernel, by decide +kernel⟩
def t_order_of (K : PySem.W.Frag) : TS :=
  tSeq (tAsg (tC (.int 1)) (gName 1)) (tSeq (tFor (iSeq K (tCall sp_circles_of [] E0 (tCons (tVar 0) (tNil)))) (gName 2) (tAsg (tOp oMul (tOp oDiv (tVar 1) (tCall sp_greatest_divisor [] E0 (tCons (tVar 1) (tCons (tCB (oLen K) (tCons (tVar 2) (tNil))) (tNil))))) (tCB (oLen K) (tCons (tVar 2) (tNil)))) (gName 1))) (tRet (tVar 1)))
theorem der_order_of {P : Program} {w : World} {K : PySem.W.Frag} {mg : Str → Option Value} {base : Heap} {f : Addr} {cdv : Value} {A : Around} {outer : List Env} {s : Shared} {H : Hp} {E : XK} (B : Blt mg)
    (hr : Room 1 (A.deeper (envOfC "order_of" (defScope s_order_of) s.heap.objs.size f cdv)))
    (h0 : GoodF P w K mg base 1 "circles_of" ["move"] sp_circles_of)
    (h1 : GoodF P w K mg base 1 "greatest_divisor" ["one", "other"] sp_greatest_divisor) :
    PSs (cxOf (L2.CX P w) P w K mg base N_order_of "order_of" (defScope s_order_of) f cdv A outer s H E) (defBody s_order_of) (t_order_of K) :=
  (pss_cons (ps_set (i := 1) sc_order_of.nd rfl (by first | exact Or.inl rfl | exact Or.inr rfl) pe_int)
      (pss_cons (ps_for (passes_of rfl) rfl (pi_seq (pe_f h0 (hr.mono (by decide)) (pa_cons (pv 0) pa_nil))) (pg_name (i := 2) sc_order_of.nd rfl (by first | exact Or.inl rfl | exact Or.inr rfl))
      (pss_one (ps_set (i := 1) sc_order_of.nd rfl (by first | exact Or.inl rfl | exact Or.inr rfl) (pe_op op_mulA (pe_op op_divA (pv 1) (pe_f h1 (hr.mono (by decide)) (pa_cons (pv 1) (pa_cons (pe_callB cr_len (by rfl) B.len (by decide +kernel) (pa_cons (pv 2) pa_nil)) pa_nil)))) (pe_callB cr_len (by rfl) B.len (by decide +kernel) (pa_cons (pv 2) pa_nil))))))
      (pss_one (ps_ret (pv 1)))))

/-! is_standing: level 2, slots 0:size 1:thing -/
abbrev s_is_standing : Stmt := top 27
abbrev N_is_standing : List Str := ["size", "thing"]
theorem sc_is_standing : FnScope N_is_standing ["size", "thing"] (defScope s_is_standing) := ⟨rfl, rfl, rfl, by decide +kernel, rfl, by decide +kernel, by decide +kernel⟩
def t_is_standing (K : PySem.W.Frag) : TS :=
  tRet (tAndV (tCall sp_is_integer [] E0 (tCons (tVar 1) (tNil))) (tChain cLe cLt (tC (.int 0)) (tVar 1) (tVar 0)))
theorem der_is_standing {P : Program} {w : World} {K : PySem.W.Frag} {mg : Str → Option Value} {base : Heap} {f : Addr} {cdv : Value} {A : Around} {outer : List Env} {s : Shared} {H : Hp} {E : XK} (B : Blt mg)
    (hr : Room 1 (A.deeper (envOfC "is_standing" (defScope s_is_standing) s.heap.objs.size f cdv)))
    (h0 : GoodF P w K mg base 1 "is_integer" ["thing"] sp_is_integer) :
    PSs (cxOf (L2.CX P w) P w K mg base N_is_standing "is_standing" (defScope s_is_standing) f cdv A outer s H E) (defBody s_is_standing) (t_is_standing K) :=
  (pss_one (ps_ret (pe_and (pe_f h0 (hr.mono (by decide)) (pa_cons (pv 1) pa_nil)) (pe_one (pe_chain op_leA op_ltA pe_int (pv 1) (pv 0))))))

/-! is_move: level 3, slots 0:size 1:thing 2:seen 3:standing -/
abbrev s_is_move : Stmt := top 28
abbrev N_is_move : List Str := ["size", "thing", "seen", "standing"]
theorem sc_is_move : FnScope N_is_move ["size", "thing"] (defScope s_is_move) := ⟨rfl, rfl, rfl, by decide +kernel, rfl, by decide +kernel, by decide +kernel⟩
def t_is_move (K : PySem.W.Frag) : TS :=
  tSeq (tIfS (tOr (tNot (tTr K (tCB (oIsi K) (tCons (tVar 1) (tCons (tC (.ty "tuple")) (tNil)))))) (tTest (tOp (cNe K) (tCB (oLen K) (tCons (tVar 1) (tNil))) (tVar 0)))) (tRet (tC (.bl false))) (tNext)) (tSeq (tAsg (tDNewK) (gName 2)) (tSeq (tFor (iSeq K (tVar 1)) (gName 3) (tSeq (tIfS (tOr (tNot (tTr K (tCall sp_is_standing [] E0 (tCons (tVar 0) (tCons (tVar 3) (tNil)))))) (tInT K (tVar 3) (tVar 2))) (tRet (tC (.bl false))) (tNext)) (sPut (tVar 2) (tVar 3) (tC (.bl true))))) (tRet (tC (.bl true)))))
theorem der_is_move {P : Program} {w : World} {K : PySem.W.Frag} {mg : Str → Option Value} {base : Heap} {f : Addr} {cdv : Value} {A : Around} {outer : List Env} {s : Shared} {H : Hp} {E : XK} (B : Blt mg)
    (hr : Room 2 (A.deeper (envOfC "is_move" (defScope s_is_move) s.heap.objs.size f cdv)))
    (h0 : GoodF P w K mg base 2 "is_standing" ["size", "thing"] sp_is_standing) :
    PSs (cxOf (L2.CX P w) P w K mg base N_is_move "is_move" (defScope s_is_move) f cdv A outer s H E) (defBody s_is_move) (t_is_move K) :=
  (pss_cons (ps_if (PW.pt (pw_or (pt_not (pt_tr (pe_callB cr_isi (by rfl) B.isinstance (by decide +kernel) (pa_cons (pv 1) (pa_cons (pe_bltn (v := .ty "tuple") rfl B.tuple (by decide +kernel) rfl) pa_nil))))) (pw_or1 (pt_cmpR (op_neA hr.units) (pe_callB cr_len (by rfl) B.len (by decide +kernel) (pa_cons (pv 1) pa_nil)) (pv 0) (nomark _))))) (pss_one (ps_ret pe_bl)) pss_nil)
      (pss_cons (ps_set (i := 2) sc_is_move.nd rfl (by first | exact Or.inl rfl | exact Or.inr rfl) pe_dnewK)
      (pss_cons (ps_for (passes_of rfl) rfl (pi_seq (pv 1)) (pg_name (i := 3) sc_is_move.nd rfl (by first | exact Or.inl rfl | exact Or.inr rfl))
      (pss_cons (ps_if (PW.pt (pw_or (pt_not (pt_tr (pe_f h0 (hr.mono (by decide)) (pa_cons (pv 0) (pa_cons (pv 3) pa_nil))))) (pw_or1 (pt_in (hu_of hr) (pv 3) (pv 2))))) (pss_one (ps_ret pe_bl)) pss_nil)
      (pss_one (ps_put (hu_of hr) (pv 2) (pv 3) pe_bl (pg_sub (pv 2) (pv 3) set_list)))))
      (pss_one (ps_ret pe_bl)))))

/-! are_moves: level 4, slots 0:deeds 1:thing 2:deed 3:first -/
abbrev s_are_moves : Stmt := top 29
abbrev N_are_moves : List Str := ["deeds", "thing", "deed", "first"]
theorem sc_are_moves : FnScope N_are_moves ["deeds", "thing"] (defScope s_are_moves) := ⟨rfl, rfl, rfl, by decide +kernel, rfl, by decide +kernel, by decide +kernel⟩
def t_are_moves (K : PySem.W.Frag) : TS :=
  tSeq (tIfS (tOr (tNot (tTr K (tCB (oIsi K) (tCons (tVar 1) (tCons (tC (.ty "dict")) (tNil)))))) (tTest (tOp (cNe K) (tCB (oLen K) (tCons (tVar 1) (tNil))) (tCB (oLen K) (tCons (tVar 0) (tNil)))))) (tRet (tC (.bl false))) (tNext)) (tSeq (tLock (tFor (iKeys (tVar 1)) (gName 2) (tIfS (tOr (tNot (tTr K (tCB (oIsi K) (tCons (tVar 2) (tCons (tC (.ty "str")) (tNil)))))) (tOr (tTest (tOp (cNe K) (tCB (oLen K) (tCons (tVar 2) (tNil))) (tC (.int 1)))) (tNinT K (tVar 2) (tVar 0)))) (tRet (tC (.bl false))) (tNext)))) (tSeq (tAsg (tIx K (tVar 1) (tIx K (tVar 0) (tC (.int 0)))) (gName 3)) (tSeq (tIfS (tOr (tNot (tTr K (tCB (oIsi K) (tCons (tVar 3) (tCons (tC (.ty "tuple")) (tNil)))))) (tNot (tTest (tChain cLe cLe (tC (.int 1)) (tCB (oLen K) (tCons (tVar 3) (tNil))) (tC v_MOST_STANDINGS))))) (tRet (tC (.bl false))) (tNext)) (tSeq (tFor (iSeq K (tVar 0)) (gName 2) (tIfS (tNot (tTr K (tCall sp_is_move [] E0 (tCons (tCB (oLen K) (tCons (tVar 3) (tNil))) (tCons (tIx K (tVar 1) (tVar 2)) (tNil)))))) (tRet (tC (.bl false))) (tNext))) (tRet (tC (.bl true)))))))
theorem der_are_moves {P : Program} {w : World} {K : PySem.W.Frag} {mg : Str → Option Value} {base : Heap} {f : Addr} {cdv : Value} {A : Around} {outer : List Env} {s : Shared} {H : Hp} {E : XK} (B : Blt mg)
    (hr : Room 3 (A.deeper (envOfC "are_moves" (defScope s_are_moves) s.heap.objs.size f cdv)))
    (h0 : GoodK mg "MOST_STANDINGS" v_MOST_STANDINGS)
    (h1 : GoodF P w K mg base 3 "is_move" ["size", "thing"] sp_is_move) :
    PSs (cxOf (L2.CX P w) P w K mg base N_are_moves "are_moves" (defScope s_are_moves) f cdv A outer s H E) (defBody s_are_moves) (t_are_moves K) :=
  (pss_cons (ps_if (PW.pt (pw_or (pt_not (pt_tr (pe_callB cr_isi (by rfl) B.isinstance (by decide +kernel) (pa_cons (pv 1) (pa_cons (pe_bltn (v := .ty "dict") rfl B.dict (by decide +kernel) rfl) pa_nil))))) (pw_or1 (pt_cmpR (op_neA hr.units) (pe_callB cr_len (by rfl) B.len (by decide +kernel) (pa_cons (pv 1) pa_nil)) (pe_callB cr_len (by rfl) B.len (by decide +kernel) (pa_cons (pv 0) pa_nil)) (nomark _))))) (pss_one (ps_ret pe_bl)) pss_nil)
      (pss_cons (ps_lock (ps_for (passes_of rfl) rfl (pi_keys (pv 1)) (pg_name (i := 2) sc_are_moves.nd rfl (by first | exact Or.inl rfl | exact Or.inr rfl))
      (pss_one (ps_if (PW.pt (pw_or (pt_not (pt_tr (pe_callB cr_isi (by rfl) B.isinstance (by decide +kernel) (pa_cons (pv 2) (pa_cons (pe_bltn (v := .ty "str") rfl B.str (by decide +kernel) rfl) pa_nil))))) (pw_or (pt_cmpR (op_neA hr.units) (pe_callB cr_len (by rfl) B.len (by decide +kernel) (pa_cons (pv 2) pa_nil)) pe_int (nomark _)) (pw_or1 (pt_nin (hu_of hr) (pv 2) (pv 0)))))) (pss_one (ps_ret pe_bl)) pss_nil))))
      (pss_cons (ps_set (i := 3) sc_are_moves.nd rfl (by first | exact Or.inl rfl | exact Or.inr rfl) (pe_sub (hu_of hr) (pv 1) (pe_sub (hu_of hr) (pv 0) pe_int)))
      (pss_cons (ps_if (PW.pt (pw_or (pt_not (pt_tr (pe_callB cr_isi (by rfl) B.isinstance (by decide +kernel) (pa_cons (pv 3) (pa_cons (pe_bltn (v := .ty "tuple") rfl B.tuple (by decide +kernel) rfl) pa_nil))))) (pw_or1 (pt_not (pt_chain op_leA op_leA pe_int (pe_callB cr_len (by rfl) B.len (by decide +kernel) (pa_cons (pv 3) pa_nil)) (pe_gk h0)))))) (pss_one (ps_ret pe_bl)) pss_nil)
      (pss_cons (ps_for (passes_of rfl) rfl (pi_seq (pv 0)) (pg_name (i := 2) sc_are_moves.nd rfl (by first | exact Or.inl rfl | exact Or.inr rfl))
      (pss_one (ps_if (pt_not (pt_tr (pe_f h1 (hr.mono (by decide)) (pa_cons (pe_callB cr_len (by rfl) B.len (by decide +kernel) (pa_cons (pv 3) pa_nil)) (pa_cons (pe_sub (hu_of hr) (pv 1) (pv 2)) pa_nil))))) (pss_one (ps_ret pe_bl)) pss_nil)))
      (pss_one (ps_ret pe_bl)))))))

/-! all_moves: level 2, slots 0:deeds 1:moves 2:found 3:deed -/
abbrev s_all_moves : Stmt := top 30
abbrev N_all_moves : List Str := ["deeds", "moves", "found", "deed"]
theorem sc_all_moves : FnScope N_all_moves ["deeds", "moves"] (defScope s_all_moves) := ⟨rfl, rfl, rfl, by decide +kernel, rfl, by decide +kernel, by decide +kernel⟩
def t_all_moves (K : PySem.W.Frag) : TS :=
  tSeq (tAsg (tDNewK) (gName 2)) (tSeq (tFor (iSeq K (tVar 0)) (gName 3) (tSeq (sPut (tVar 2) (tVar 3) (tIx K (tVar 1) (tVar 3))) (sPut (tVar 2) (tCall sp_undoing_of [] E0 (tCons (tVar 3) (tNil))) (tCall sp_turned_back [] E0 (tCons (tIx K (tVar 1) (tVar 3)) (tNil)))))) (tRet (tVar 2)))
theorem der_all_moves {P : Program} {w : World} {K : PySem.W.Frag} {mg : Str → Option Value} {base : Heap} {f : Addr} {cdv : Value} {A : Around} {outer : List Env} {s : Shared} {H : Hp} {E : XK} (B : Blt mg)
    (hr : Room 1 (A.deeper (envOfC "all_moves" (defScope s_all_moves) s.heap.objs.size f cdv)))
    (h0 : GoodF P w K mg base 1 "undoing_of" ["letter"] sp_undoing_of)
    (h1 : GoodF P w K mg base 1 "turned_back" ["move"] sp_turned_back) :
    PSs (cxOf (L2.CX P w) P w K mg base N_all_moves "all_moves" (defScope s_all_moves) f cdv A outer s H E) (defBody s_all_moves) (t_all_moves K) :=
  (pss_cons (ps_set (i := 2) sc_all_moves.nd rfl (by first | exact Or.inl rfl | exact Or.inr rfl) pe_dnewK)
      (pss_cons (ps_for (passes_of rfl) rfl (pi_seq (pv 0)) (pg_name (i := 3) sc_all_moves.nd rfl (by first | exact Or.inl rfl | exact Or.inr rfl))
      (pss_cons (ps_put (hu_of hr) (pv 2) (pv 3) (pe_sub (hu_of hr) (pv 1) (pv 3)) (pg_sub (pv 2) (pv 3) set_list))
      (pss_one (ps_put (hu_of hr) (pv 2) (pe_f h0 (hr.mono (by decide)) (pa_cons (pv 3) pa_nil)) (pe_f h1 (hr.mono (by decide)) (pa_cons (pe_sub (hu_of hr) (pv 1) (pv 3)) pa_nil)) (pg_sub (pv 2) (pe_f h0 (hr.mono (by decide)) (pa_cons (pv 3) pa_nil)) set_list)))))
      (pss_one (ps_ret (pv 2)))))

/-! World.__init__: level 5, slots 0:self 1:deeds 2:moves -/
abbrev s_World_init : Stmt := inClass (top 31) 0
abbrev N_World_init : List Str := ["self", "deeds", "moves"]
theorem sc_World_init : FnScope N_World_init ["self", "deeds", "moves"] (defScope s_World_init) := ⟨rfl, rfl, rfl, by decide +kernel, rfl, by decide +kernel, by decide +kernel⟩
def t_World_init (K : PySem.W.Frag) (CW : Addr) : TS :=
  tSeq (tIfS (tNot (tTr K (tCall sp_is_deeds [] E0 (tCons (tVar 1) (tNil))))) (tNever) (tNext)) (tSeq (tIfS (tNot (tTr K (tCall sp_are_moves [] E0 (tCons (tVar 1) (tCons (tVar 2) (tNil)))))) (tNever) (tNext)) (tDrop (tMeth CW "keep" (sp_World_keep K CW) [] E0 (tVar 0) (tCons (tVar 1) (tCons (tVar 2) (tNil))))))
theorem der_World_init {P : Program} {w : World} {K : PySem.W.Frag} {mg : Str → Option Value} {base : Heap} {f : Addr} {cdv : Value} {A : Around} {outer : List Env} {s : Shared} {H : Hp} {E : XK} {CW : Addr} (B : Blt mg)
    (hr : Room 4 (A.deeper (envOfC "World.__init__" (defScope s_World_init) s.heap.objs.size f cdv)))
    (h0 : GoodF P w K mg base 3 "is_deeds" ["thing"] sp_is_deeds)
    (h1 : GoodF P w K mg base 4 "are_moves" ["deeds", "thing"] sp_are_moves)
    (h2 : Cls K CW ∧ GoodM P w K mg base 3 CW "keep" ["self", "deeds", "moves"] (sp_World_keep K CW)) :
    PSs (cxOf (L2.CX P w) P w K mg base N_World_init "World.__init__" (defScope s_World_init) f cdv A outer s H E) (defBody s_World_init) (t_World_init K CW) :=
  (pss_cons (ps_if (pt_not (pt_tr (pe_f h0 (hr.mono (by decide)) (pa_cons (pv 1) pa_nil)))) (pss_one ps_never) pss_nil)
      (pss_cons (ps_if (pt_not (pt_tr (pe_f h1 (hr.mono (by decide)) (pa_cons (pv 1) (pa_cons (pv 2) pa_nil))))) (pss_one ps_never) pss_nil)
      (pss_one (ps_expr (pe_me (pv 0) h2 (hr.mono (by decide)) (pa_cons (pv 1) (pa_cons (pv 2) pa_nil)))))))

/-! World.keep: level 3, slots 0:self 1:deeds 2:moves 3:letter -/
abbrev s_World_keep : Stmt := inClass (top 31) 1
abbrev N_World_keep : List Str := ["self", "deeds", "moves", "letter"]
theorem sc_World_keep : FnScope N_World_keep ["self", "deeds", "moves"] (defScope s_World_keep) := ⟨rfl, rfl, rfl, by decide +kernel, rfl, by decide +kernel, by decide +kernel⟩
def t_World_keep (K : PySem.W.Frag) : TS :=
  tSeq (sFld K (tVar 0) (tVar 1) "deeds") (tSeq (sFld K (tVar 0) (tCB (oLen K) (tCons (tIx K (tVar 2) (tIx K (tVar 1) (tC (.int 0)))) (tNil))) "size") (tSeq (sFld K (tVar 0) (tCall sp_all_moves [] E0 (tCons (tVar 1) (tCons (tVar 2) (tNil)))) "kept_moves") (sFld K (tVar 0) (tDc (iSeq K (tCall sp_letters_over [] E0 (tCons (tVar 1) (tNil)))) (gName 3) (tYes) (tVar 3) (tIx K (tFld K (tVar 0) "kept_moves") (tCall sp_undoing_of [] E0 (tCons (tVar 3) (tNil)))) [3]) "kept_backs")))
theorem der_World_keep {P : Program} {w : World} {K : PySem.W.Frag} {mg : Str → Option Value} {base : Heap} {f : Addr} {cdv : Value} {A : Around} {outer : List Env} {s : Shared} {H : Hp} {E : XK} (B : Blt mg)
    (hr : Room 2 (A.deeper (envOfC "World.keep" (defScope s_World_keep) s.heap.objs.size f cdv)))
    (h0 : GoodF P w K mg base 2 "all_moves" ["deeds", "moves"] sp_all_moves)
    (h1 : GoodF P w K mg base 1 "letters_over" ["deeds"] sp_letters_over)
    (h2 : GoodF P w K mg base 1 "undoing_of" ["letter"] sp_undoing_of) :
    PSs (cxOf (L2.CX P w) P w K mg base N_World_keep "World.keep" (defScope s_World_keep) f cdv A outer s H E) (defBody s_World_keep) (t_World_keep K) :=
  (pss_cons (ps_fld (pv 0) (pv 1) rfl)
      (pss_cons (ps_fld (pv 0) (pe_callB cr_len (by rfl) B.len (by decide +kernel) (pa_cons (pe_sub (hu_of hr) (pv 2) (pe_sub (hu_of hr) (pv 1) pe_int)) pa_nil)) rfl)
      (pss_cons (ps_fld (pv 0) (pe_f h0 (hr.mono (by decide)) (pa_cons (pv 1) (pa_cons (pv 2) pa_nil))) rfl)
      (pss_one (ps_fld (pv 0) (pe_dc (own := [("letter", 3)]) rfl sc_World_keep.nd (pi_seq (pe_f h1 (hr.mono (by decide)) (pa_cons (pv 1) pa_nil))) (blkOk_by (own := [("letter", 3)]) (N := N_World_keep) (sc := defScope s_World_keep) (by decide +kernel)) (fun _ _ _ _ _ => (pg_name (i := 3) sc_World_keep.nd rfl (by first | exact Or.inl rfl | exact Or.inr rfl))) (fun _ _ _ _ _ => pts_nil) (fun _ _ _ _ _ => (pv 3)) (fun _ _ _ _ _ => (pe_sub (hu_of hr) (pe_fld (pv 0) rfl) (pe_f h2 (hr.mono (by decide)) (pa_cons (pv 3) pa_nil))))) rfl)))))

/-! World.moves: level 1, slots 0:self 1:deed -/
abbrev s_World_moves : Stmt := inClass (top 31) 2
abbrev N_World_moves : List Str := ["self", "deed"]
theorem sc_World_moves : FnScope N_World_moves ["self"] (defScope s_World_moves) := ⟨rfl, rfl, rfl, by decide +kernel, rfl, by decide +kernel, by decide +kernel⟩
def t_World_moves (K : PySem.W.Frag) : TS :=
  tRet (tDc (iSeq K (tFld K (tVar 0) "deeds")) (gName 1) (tYes) (tVar 1) (tIx K (tFld K (tVar 0) "kept_moves") (tVar 1)) [1])
theorem der_World_moves {P : Program} {w : World} {K : PySem.W.Frag} {mg : Str → Option Value} {base : Heap} {f : Addr} {cdv : Value} {A : Around} {outer : List Env} {s : Shared} {H : Hp} {E : XK} (B : Blt mg)
    (hr : Room 0 (A.deeper (envOfC "World.moves" (defScope s_World_moves) s.heap.objs.size f cdv)))
     :
    PSs (cxOf (L2.CX P w) P w K mg base N_World_moves "World.moves" (defScope s_World_moves) f cdv A outer s H E) (defBody s_World_moves) (t_World_moves K) :=
  (pss_one (ps_ret (pe_dc (own := [("deed", 1)]) rfl sc_World_moves.nd (pi_seq (pe_fld (pv 0) rfl)) (blkOk_by (own := [("deed", 1)]) (N := N_World_moves) (sc := defScope s_World_moves) (by decide +kernel)) (fun _ _ _ _ _ => (pg_name (i := 1) sc_World_moves.nd rfl (by first | exact Or.inl rfl | exact Or.inr rfl))) (fun _ _ _ _ _ => pts_nil) (fun _ _ _ _ _ => (pv 1)) (fun _ _ _ _ _ => (pe_sub (hu_of hr) (pe_fld (pv 0) rfl) (pv 1))))))

/-! World.__eq__: level 1, slots 0:self 1:thing -/
abbrev s_World_eq : Stmt := inClass (top 31) 3
abbrev N_World_eq : List Str := ["self", "thing"]
theorem sc_World_eq : FnScope N_World_eq ["self", "thing"] (defScope s_World_eq) := ⟨rfl, rfl, rfl, by decide +kernel, rfl, by decide +kernel, by decide +kernel⟩
def t_World_eq (K : PySem.W.Frag) (CW : Addr) : TS :=
  tSeq (tIfS (tNot (tTr K (tCB (oIsi K) (tCons (tVar 1) (tCons (tC (.ref CW)) (tNil)))))) (tRet (tC (.bl false))) (tNext)) (tRet (tAndV (tOp (cEq K) (tFld K (tVar 0) "deeds") (tFld K (tVar 1) "deeds")) (tOp (rEqDT K) (tFld K (tVar 0) "kept_moves") (tFld K (tVar 1) "kept_moves"))))
theorem der_World_eq {P : Program} {w : World} {K : PySem.W.Frag} {mg : Str → Option Value} {base : Heap} {f : Addr} {cdv : Value} {A : Around} {outer : List Env} {s : Shared} {H : Hp} {E : XK} {CW : Addr} (B : Blt mg)
    (hr : Room 0 (A.deeper (envOfC "World.__eq__" (defScope s_World_eq) s.heap.objs.size f cdv)))
    (h0 : GoodK mg "World" (.ref CW)) :
    PSs (cxOf (L2.CX P w) P w K mg base N_World_eq "World.__eq__" (defScope s_World_eq) f cdv A outer s H E) (defBody s_World_eq) (t_World_eq K CW) :=
  (pss_cons (ps_if (pt_not (pt_tr (pe_callB cr_isi (by rfl) B.isinstance (by decide +kernel) (pa_cons (pv 1) (pa_cons (pe_gk h0) pa_nil))))) (pss_one (ps_ret pe_bl)) pss_nil)
      (pss_one (ps_ret (pe_and (pe_cmpR (op_eqA hr.units) (pe_fld (pv 0) rfl) (pe_fld (pv 1) rfl) (nomark _)) (pe_one (pe_cmpR (op_eqDT hr.units) (pe_fld (pv 0) rfl) (pe_fld (pv 1) rfl) (nomark _)))))))

/-! RawWorld.__init__: level 4, slots 0:self 1:deeds 2:moves -/
abbrev s_RawWorld_init : Stmt := inClass (top 32) 0
abbrev N_RawWorld_init : List Str := ["self", "deeds", "moves"]
theorem sc_RawWorld_init : FnScope N_RawWorld_init ["self", "deeds", "moves"] (defScope s_RawWorld_init) := ⟨rfl, rfl, rfl, by decide +kernel, rfl, by decide +kernel, by decide +kernel⟩
def t_RawWorld_init (K : PySem.W.Frag) (CR : Addr) : TS :=
  tDrop (tMeth CR "keep" (sp_World_keep K CR) [] E0 (tVar 0) (tCons (tVar 1) (tCons (tVar 2) (tNil))))
theorem der_RawWorld_init {P : Program} {w : World} {K : PySem.W.Frag} {mg : Str → Option Value} {base : Heap} {f : Addr} {cdv : Value} {A : Around} {outer : List Env} {s : Shared} {H : Hp} {E : XK} {CR : Addr} (B : Blt mg)
    (hr : Room 3 (A.deeper (envOfC "RawWorld.__init__" (defScope s_RawWorld_init) s.heap.objs.size f cdv)))
    (h0 : Cls K CR ∧ GoodM P w K mg base 3 CR "keep" ["self", "deeds", "moves"] (sp_World_keep K CR)) :
    PSs (cxOf (L2.CX P w) P w K mg base N_RawWorld_init "RawWorld.__init__" (defScope s_RawWorld_init) f cdv A outer s H E) (defBody s_RawWorld_init) (t_RawWorld_init K CR) :=
  (pss_one (ps_expr (pe_me (pv 0) h0 (hr.mono (by decide)) (pa_cons (pv 1) (pa_cons (pv 2) pa_nil)))))

/-! check_standing: level 3, slots 0:world 1:standing -/
abbrev s_check_standing : Stmt := top 33
abbrev N_check_standing : List Str := ["world", "standing"]
theorem sc_check_standing : FnScope N_check_standing ["world", "standing"] (defScope s_check_standing) := ⟨rfl, rfl, rfl, by decide +kernel, rfl, by decide +kernel, by decide +kernel⟩
def t_check_standing (K : PySem.W.Frag) : TS :=
  tIfS (tNot (tTr K (tCall sp_is_standing [] E0 (tCons (tFld K (tVar 0) "size") (tCons (tVar 1) (tNil)))))) (tNever) (tNext)
theorem der_check_standing {P : Program} {w : World} {K : PySem.W.Frag} {mg : Str → Option Value} {base : Heap} {f : Addr} {cdv : Value} {A : Around} {outer : List Env} {s : Shared} {H : Hp} {E : XK} (B : Blt mg)
    (hr : Room 2 (A.deeper (envOfC "check_standing" (defScope s_check_standing) s.heap.objs.size f cdv)))
    (h0 : GoodF P w K mg base 2 "is_standing" ["size", "thing"] sp_is_standing) :
    PSs (cxOf (L2.CX P w) P w K mg base N_check_standing "check_standing" (defScope s_check_standing) f cdv A outer s H E) (defBody s_check_standing) (t_check_standing K) :=
  (pss_one (ps_if (pt_not (pt_tr (pe_f h0 (hr.mono (by decide)) (pa_cons (pe_fld (pv 0) rfl) (pa_cons (pv 1) pa_nil))))) (pss_one ps_never) pss_nil))

/-! check_same_deeds: level 1, slots 0:one 1:second -/
abbrev s_check_same_deeds : Stmt := top 34
abbrev N_check_same_deeds : List Str := ["one", "second"]
theorem sc_check_same_deeds : FnScope N_check_same_deeds ["one", "second"] (defScope s_check_same_deeds) := ⟨rfl, rfl, rfl, by decide +kernel, rfl, by decide +kernel, by decide +kernel⟩
def t_check_same_deeds (K : PySem.W.Frag) (CO : Addr) (E : XK) : TS :=
  tIfS (tTest (tOp (cNe K) (tFld K (tVar 0) "deeds") (tFld K (tVar 1) "deeds"))) (tRaise0 CO (fun cls d _ H => E cls d H)) (tNext)
theorem der_check_same_deeds {P : Program} {w : World} {K : PySem.W.Frag} {mg : Str → Option Value} {base : Heap} {f : Addr} {cdv : Value} {A : Around} {outer : List Env} {s : Shared} {H : Hp} {E : XK} {CO : Addr} (B : Blt mg)
    (hr : Room 0 (A.deeper (envOfC "check_same_deeds" (defScope s_check_same_deeds) s.heap.objs.size f cdv)))
    (h0 : Exc0 K mg "OtherDeeds" CO) :
    PSs (cxOf (L2.CX P w) P w K mg base N_check_same_deeds "check_same_deeds" (defScope s_check_same_deeds) f cdv A outer s H E) (defBody s_check_same_deeds) (t_check_same_deeds K CO E) :=
  (pss_one (ps_if (pt_cmpR (op_neA hr.units) (pe_fld (pv 0) rfl) (pe_fld (pv 1) rfl) (nomark _)) (pss_one (ps_raise0 rfl h0 (takes_of rfl rfl rfl rfl))) pss_nil))

/-! row_move: level 2, slots 0:world 1:row 2:found 3:letter -/
abbrev s_row_move : Stmt := top 35
abbrev N_row_move : List Str := ["world", "row", "found", "letter"]
theorem sc_row_move : FnScope N_row_move ["world", "row"] (defScope s_row_move) := ⟨rfl, rfl, rfl, by decide +kernel, rfl, by decide +kernel, by decide +kernel⟩
def t_row_move (K : PySem.W.Frag) : TS :=
  tSeq (tAsg (tCall sp_standing_still [] E0 (tCons (tFld K (tVar 0) "size") (tNil))) (gName 2)) (tSeq (tFor (iSeq K (tVar 1)) (gName 3) (tAsg (tCall sp_composed [] E0 (tCons (tVar 2) (tCons (tIx K (tFld K (tVar 0) "kept_moves") (tVar 3)) (tNil)))) (gName 2))) (tRet (tVar 2)))
theorem der_row_move {P : Program} {w : World} {K : PySem.W.Frag} {mg : Str → Option Value} {base : Heap} {f : Addr} {cdv : Value} {A : Around} {outer : List Env} {s : Shared} {H : Hp} {E : XK} (B : Blt mg)
    (hr : Room 1 (A.deeper (envOfC "row_move" (defScope s_row_move) s.heap.objs.size f cdv)))
    (h0 : GoodF P w K mg base 1 "standing_still" ["size"] sp_standing_still)
    (h1 : GoodF P w K mg base 1 "composed" ["first", "second"] sp_composed) :
    PSs (cxOf (L2.CX P w) P w K mg base N_row_move "row_move" (defScope s_row_move) f cdv A outer s H E) (defBody s_row_move) (t_row_move K) :=
  (pss_cons (ps_set (i := 2) sc_row_move.nd rfl (by first | exact Or.inl rfl | exact Or.inr rfl) (pe_f h0 (hr.mono (by decide)) (pa_cons (pe_fld (pv 0) rfl) pa_nil)))
      (pss_cons (ps_for (passes_of rfl) rfl (pi_seq (pv 1)) (pg_name (i := 3) sc_row_move.nd rfl (by first | exact Or.inl rfl | exact Or.inr rfl))
      (pss_one (ps_set (i := 2) sc_row_move.nd rfl (by first | exact Or.inl rfl | exact Or.inr rfl) (pe_f h1 (hr.mono (by decide)) (pa_cons (pv 2) (pa_cons (pe_sub (hu_of hr) (pe_fld (pv 0) rfl) (pv 3)) pa_nil))))))
      (pss_one (ps_ret (pv 2)))))

/-! led: level 4, slots 0:world 1:standing 2:row 3:letter -/
abbrev s_led : Stmt := top 36
abbrev N_led : List Str := ["world", "standing", "row", "letter"]
theorem sc_led : FnScope N_led ["world", "standing", "row"] (defScope s_led) := ⟨rfl, rfl, rfl, by decide +kernel, rfl, by decide +kernel, by decide +kernel⟩
def t_led (K : PySem.W.Frag) : TS :=
  tSeq (tDrop (tCall (sp_check_standing K) [] E0 (tCons (tVar 0) (tCons (tVar 1) (tNil))))) (tSeq (tDrop (tCall sp_check_row [] E0 (tCons (tFld K (tVar 0) "deeds") (tCons (tVar 2) (tNil))))) (tSeq (tFor (iSeq K (tVar 2)) (gName 3) (tAsg (tIx K (tIx K (tFld K (tVar 0) "kept_moves") (tVar 3)) (tVar 1)) (gName 1))) (tRet (tVar 1))))
theorem der_led {P : Program} {w : World} {K : PySem.W.Frag} {mg : Str → Option Value} {base : Heap} {f : Addr} {cdv : Value} {A : Around} {outer : List Env} {s : Shared} {H : Hp} {E : XK} (B : Blt mg)
    (hr : Room 3 (A.deeper (envOfC "led" (defScope s_led) s.heap.objs.size f cdv)))
    (h0 : GoodF P w K mg base 3 "check_standing" ["world", "standing"] (sp_check_standing K))
    (h1 : GoodF P w K mg base 3 "check_row" ["deeds", "thing"] sp_check_row) :
    PSs (cxOf (L2.CX P w) P w K mg base N_led "led" (defScope s_led) f cdv A outer s H E) (defBody s_led) (t_led K) :=
  (pss_cons (ps_expr (pe_f h0 (hr.mono (by decide)) (pa_cons (pv 0) (pa_cons (pv 1) pa_nil))))
      (pss_cons (ps_expr (pe_f h1 (hr.mono (by decide)) (pa_cons (pe_fld (pv 0) rfl) (pa_cons (pv 2) pa_nil))))
      (pss_cons (ps_for (passes_of rfl) rfl (pi_seq (pv 2)) (pg_name (i := 3) sc_led.nd rfl (by first | exact Or.inl rfl | exact Or.inr rfl))
      (pss_one (ps_set (i := 1) sc_led.nd rfl (by first | exact Or.inl rfl | exact Or.inr rfl) (pe_sub (hu_of hr) (pe_sub (hu_of hr) (pe_fld (pv 0) rfl) (pv 3)) (pv 1)))))
      (pss_one (ps_ret (pv 1))))))

/-! move_of: level 4, slots 0:world 1:row -/
abbrev s_move_of : Stmt := top 37
abbrev N_move_of : List Str := ["world", "row"]
theorem sc_move_of : FnScope N_move_of ["world", "row"] (defScope s_move_of) := ⟨rfl, rfl, rfl, by decide +kernel, rfl, by decide +kernel, by decide +kernel⟩
def t_move_of (K : PySem.W.Frag) : TS :=
  tSeq (tDrop (tCall sp_check_row [] E0 (tCons (tFld K (tVar 0) "deeds") (tCons (tVar 1) (tNil))))) (tRet (tCall (sp_row_move K) [] E0 (tCons (tVar 0) (tCons (tVar 1) (tNil)))))
theorem der_move_of {P : Program} {w : World} {K : PySem.W.Frag} {mg : Str → Option Value} {base : Heap} {f : Addr} {cdv : Value} {A : Around} {outer : List Env} {s : Shared} {H : Hp} {E : XK} (B : Blt mg)
    (hr : Room 3 (A.deeper (envOfC "move_of" (defScope s_move_of) s.heap.objs.size f cdv)))
    (h0 : GoodF P w K mg base 3 "check_row" ["deeds", "thing"] sp_check_row)
    (h1 : GoodF P w K mg base 2 "row_move" ["world", "row"] (sp_row_move K)) :
    PSs (cxOf (L2.CX P w) P w K mg base N_move_of "move_of" (defScope s_move_of) f cdv A outer s H E) (defBody s_move_of) (t_move_of K) :=
  (pss_cons (ps_expr (pe_f h0 (hr.mono (by decide)) (pa_cons (pe_fld (pv 0) rfl) (pa_cons (pv 1) pa_nil))))
      (pss_one (ps_ret (pe_f h1 (hr.mono (by decide)) (pa_cons (pv 0) (pa_cons (pv 1) pa_nil))))))

/-! order: level 4, slots 0:world 1:row -/
abbrev s_order : Stmt := top 38
abbrev N_order : List Str := ["world", "row"]
theorem sc_order : FnScope N_order ["world", "row"] (defScope s_order) := ⟨rfl, rfl, rfl, by decide +kernel, rfl, by decide +kernel, by decide +kernel⟩
def t_order (K : PySem.W.Frag) : TS :=
  tSeq (tDrop (tCall sp_check_row [] E0 (tCons (tFld K (tVar 0) "deeds") (tCons (tVar 1) (tNil))))) (tRet (tCall sp_order_of [] E0 (tCons (tCall (sp_row_move K) [] E0 (tCons (tVar 0) (tCons (tVar 1) (tNil)))) (tNil))))
theorem der_order {P : Program} {w : World} {K : PySem.W.Frag} {mg : Str → Option Value} {base : Heap} {f : Addr} {cdv : Value} {A : Around} {outer : List Env} {s : Shared} {H : Hp} {E : XK} (B : Blt mg)
    (hr : Room 3 (A.deeper (envOfC "order" (defScope s_order) s.heap.objs.size f cdv)))
    (h0 : GoodF P w K mg base 3 "check_row" ["deeds", "thing"] sp_check_row)
    (h1 : GoodF P w K mg base 2 "row_move" ["world", "row"] (sp_row_move K))
    (h2 : GoodF P w K mg base 2 "order_of" ["move"] sp_order_of) :
    PSs (cxOf (L2.CX P w) P w K mg base N_order "order" (defScope s_order) f cdv A outer s H E) (defBody s_order) (t_order K) :=
  (pss_cons (ps_expr (pe_f h0 (hr.mono (by decide)) (pa_cons (pe_fld (pv 0) rfl) (pa_cons (pv 1) pa_nil))))
      (pss_one (ps_ret (pe_f h2 (hr.mono (by decide)) (pa_cons (pe_f h1 (hr.mono (by decide)) (pa_cons (pv 0) (pa_cons (pv 1) pa_nil))) pa_nil)))))

/-! beside: level 6, slots 0:one 1:second 2:moves 3:deed 4:row 5:goal 6:later -/
abbrev s_beside : Stmt := top 39
abbrev N_beside : List Str := ["one", "second", "moves", "deed", "row", "goal", "later"]
theorem sc_beside : FnScope N_beside ["one", "second"] (defScope s_beside) := ⟨rfl, rfl, rfl, by decide +kernel, rfl, by decide +kernel, by decide +kernel⟩
def t_beside (K : PySem.W.Frag) (CR : Addr) (CO : Addr) (CT : Addr) (E : XK) : TS :=
  tSeq (tDrop (tCallS (sp_check_same_deeds K CO) (WE (fun cls d _ H => E cls d H)) (tCons (tVar 0) (tCons (tVar 1) (tNil))))) (tSeq (tIfS (tTest (tOp cGt (tOp oMul (tFld K (tVar 0) "size") (tFld K (tVar 1) "size")) (tC v_MOST_PAIRS))) (tRaiseB CT "most" (fun cls d _ H => E cls d H) (tCons (tC v_MOST_PAIRS) (tNil))) (tNext)) (tSeq (tAsg (tDNewK) (gName 2)) (tSeq (tFor (iSeq K (tFld K (tVar 0) "deeds")) (gName 3) (tSeq (tAsg (tLst (tNil)) (gName 4)) (tSeq (tFor (iSeq K (tIx K (tFld K (tVar 0) "kept_moves") (tVar 3))) (gName 5) (tDrop (tBM K "list" rExtend (tVar 4) (tCons (tLc (iSeq K (tIx K (tFld K (tVar 1) "kept_moves") (tVar 3))) (gName 6) (tYes) (tOp oAdd (tOp oMul (tVar 5) (tFld K (tVar 1) "size")) (tVar 6)) [6]) (tNil))))) (sPut (tVar 2) (tVar 3) (tCB (oTupleA K) (tCons (tVar 4) (tNil))))))) (tRet (tMake CR (sp_RawWorld_init K CR) [] E0 (tCons (tFld K (tVar 0) "deeds") (tCons (tVar 2) (tNil))))))))
theorem der_beside {P : Program} {w : World} {K : PySem.W.Frag} {mg : Str → Option Value} {base : Heap} {f : Addr} {cdv : Value} {A : Around} {outer : List Env} {s : Shared} {H : Hp} {E : XK} {CO : Addr} {CR : Addr} {CT : Addr} (B : Blt mg)
    (hr : Room 5 (A.deeper (envOfC "beside" (defScope s_beside) s.heap.objs.size f cdv)))
    (h0 : GoodF P w K mg base 1 "check_same_deeds" ["one", "second"] (sp_check_same_deeds K CO))
    (h1 : GoodK mg "MOST_PAIRS" v_MOST_PAIRS)
    (h2 : ∃ fI, BigT P K mg "TooLarge" CT fI "most" "TooLarge.__init__" s_big)
    (h3 : BigS P "most" s_big)
    (h4 : GoodC P w K mg base 4 "RawWorld" CR ["self", "deeds", "moves"] (sp_RawWorld_init K CR)) :
    PSs (cxOf (L2.CX P w) P w K mg base N_beside "beside" (defScope s_beside) f cdv A outer s H E) (defBody s_beside) (t_beside K CR CO CT E) :=
  (pss_cons (ps_expr (pe_fS _ (takes_of rfl rfl rfl rfl) h0 (hr.mono (by decide)) (pa_cons (pv 0) (pa_cons (pv 1) pa_nil))))
      (pss_cons (ps_if (pt_cmpR op_gtA (pe_op op_mulA (pe_fld (pv 0) rfl) (pe_fld (pv 1) rfl)) (pe_gk h1) (nomark _)) (pss_one (ps_raiseBig rfl h2 h3 hr (takes_of rfl rfl rfl rfl) (pa_cons (pe_gk h1) pa_nil))) pss_nil)
      (pss_cons (ps_set (i := 2) sc_beside.nd rfl (by first | exact Or.inl rfl | exact Or.inr rfl) pe_dnewK)
      (pss_cons (ps_for (passes_of rfl) rfl (pi_seq (pe_fld (pv 0) rfl)) (pg_name (i := 3) sc_beside.nd rfl (by first | exact Or.inl rfl | exact Or.inr rfl))
      (pss_cons (ps_set (i := 4) sc_beside.nd rfl (by first | exact Or.inl rfl | exact Or.inr rfl) (pe_lst pa_nil))
      (pss_cons (ps_for (passes_of rfl) rfl (pi_seq (pe_sub (hu_of hr) (pe_fld (pv 0) rfl) (pv 3))) (pg_name (i := 5) sc_beside.nd rfl (by first | exact Or.inl rfl | exact Or.inr rfl))
      (pss_one (ps_expr (pe_bm PySem.F.plainAttrs_list PySem.F.slot_list_extend PySem.F.type_list_extend mt_extend (pv 4) (pa_cons (pe_lc (own := [("later", 6)]) rfl sc_beside.nd (pi_seq (pe_sub (hu_of hr) (pe_fld (pv 1) rfl) (pv 3))) (blkOk_by (own := [("later", 6)]) (N := N_beside) (sc := defScope s_beside) (by decide +kernel)) (fun _ _ _ _ _ => (pg_name (i := 6) sc_beside.nd rfl (by first | exact Or.inl rfl | exact Or.inr rfl))) (fun _ _ _ _ _ => pts_nil) (fun _ _ _ _ _ => (pe_op op_addA (pe_op op_mulA (pv 5) (pe_fld (pv 1) rfl)) (pv 6)))) pa_nil)))))
      (pss_one (ps_put (hu_of hr) (pv 2) (pv 3) (pe_callTy cr_tupleA (by rfl) B.tuple (by decide +kernel) (pa_cons (pv 4) pa_nil)) (pg_sub (pv 2) (pv 3) set_list))))))
      (pss_one (ps_ret (pe_new h4 (hr.mono (by decide)) (pa_cons (pe_fld (pv 0) rfl) (pa_cons (pv 2) pa_nil)))))))))

/-! _law_pot: level 1, slots 0:_law_script 1:_law_cells 2:_law_cell 3:_law_greats 4:_law_smalls -/
abbrev s__law_pot : Stmt := top 41
abbrev N__law_pot : List Str := ["_law_script", "_law_cells", "_law_cell", "_law_greats", "_law_smalls"]
theorem sc__law_pot : FnScope N__law_pot ["_law_script"] (defScope s__law_pot) := ⟨rfl, rfl, rfl, by decide +kernel, rfl, by decide +kernel, by decide +kernel⟩
def t__law_pot (K : PySem.W.Frag) : TS :=
  tSeq (tAsg (tLc (iSeq K (tSl (oSl K) (tVar 0) (tNoPart) (tPart (tC (.int 63))))) (gName 2) (tYes) (tCB (oInt) (tCons (tVar 2) (tNil))) [2]) (gName 1)) (tSeq (tAsg (tLc (iSeq K (tVar 1)) (gName 2) (tTest (tOp cGe (tCB (oAbs) (tCons (tVar 2) (tNil))) (tOp oPow (tC (.int 10)) (tC (.int 18))))) (tCB (oAbs) (tCons (tVar 2) (tNil))) [2]) (gName 3)) (tSeq (tAsg (tOp oAdd (tLc (iSeq K (tVar 1)) (gName 2) (tTest (tOp cLt (tCB (oAbs) (tCons (tVar 2) (tNil))) (tOp oPow (tC (.int 10)) (tC (.int 18))))) (tOp oMod (tCB (oInt) (tCons (tVar 2) (tNil))) (tC (.int 1000000007))) [2]) (tLst (tCons (tOp oAdd (tCB (oLen K) (tCons (tVar 1) (tNil))) (tC (.int 1))) (tNil)))) (gName 4)) (tRet (tLst (tCons (tVar 3) (tCons (tVar 4) (tCons (tC (.int 0)) (tCons (tOp oMod (tCB (oInt) (tCons (tCB (rSum K) (tCons (tVar 4) (tNil))) (tNil))) (tC (.int 999983))) (tNil)))))))))
theorem der__law_pot {P : Program} {w : World} {K : PySem.W.Frag} {mg : Str → Option Value} {base : Heap} {f : Addr} {cdv : Value} {A : Around} {outer : List Env} {s : Shared} {H : Hp} {E : XK} (B : Blt mg)
    (hr : Room 0 (A.deeper (envOfC "_law_pot" (defScope s__law_pot) s.heap.objs.size f cdv)))
     :
    PSs (cxOf (L2.CX P w) P w K mg base N__law_pot "_law_pot" (defScope s__law_pot) f cdv A outer s H E) (defBody s__law_pot) (t__law_pot K) :=
  (pss_cons (ps_setLc (i := 1) (own := [("_law_cell", 2)]) rfl sc__law_pot.nd rfl rfl (sw_true rfl rfl rfl (by decide +kernel)) (pi_seq (pe_slice sl_any (pv 0) po_none (po_some pe_int))) (blkOk_by (own := [("_law_cell", 2)]) (N := N__law_pot) (sc := defScope s__law_pot) (by decide +kernel)) (fun _ _ _ _ _ => (pg_name (i := 2) sc__law_pot.nd rfl (by first | exact Or.inl rfl | exact Or.inr rfl))) (fun _ _ _ _ _ => pts_nil) (fun _ _ _ _ _ => (pe_callTy cr_int (by rfl) B.int (by decide +kernel) (pa_cons (pv 2) pa_nil))))
      (pss_cons (ps_setLc (i := 3) (own := [("_law_cell", 2)]) rfl sc__law_pot.nd rfl rfl (sw_true rfl rfl rfl (by decide +kernel)) (pi_seq (pv 1)) (blkOk_by (own := [("_law_cell", 2)]) (N := N__law_pot) (sc := defScope s__law_pot) (by decide +kernel)) (fun _ _ _ _ _ => (pg_name (i := 2) sc__law_pot.nd rfl (by first | exact Or.inl rfl | exact Or.inr rfl))) (fun _ _ _ _ _ => (pts_one (pt_cmpR op_geA (pe_callB cr_abs (by rfl) B.abs (by decide +kernel) (pa_cons (pv 2) pa_nil)) (pe_op op_powA pe_int pe_int) (nomark _)))) (fun _ _ _ _ _ => (pe_callB cr_abs (by rfl) B.abs (by decide +kernel) (pa_cons (pv 2) pa_nil))))
      (pss_cons (ps_set (i := 4) sc__law_pot.nd rfl (by first | exact Or.inl rfl | exact Or.inr rfl) (pe_op op_addA (pe_lc (own := [("_law_cell", 2)]) rfl sc__law_pot.nd (pi_seq (pv 1)) (blkOk_by (own := [("_law_cell", 2)]) (N := N__law_pot) (sc := defScope s__law_pot) (by decide +kernel)) (fun _ _ _ _ _ => (pg_name (i := 2) sc__law_pot.nd rfl (by first | exact Or.inl rfl | exact Or.inr rfl))) (fun _ _ _ _ _ => (pts_one (pt_cmpR op_ltA (pe_callB cr_abs (by rfl) B.abs (by decide +kernel) (pa_cons (pv 2) pa_nil)) (pe_op op_powA pe_int pe_int) (nomark _)))) (fun _ _ _ _ _ => (pe_op op_modA (pe_callTy cr_int (by rfl) B.int (by decide +kernel) (pa_cons (pv 2) pa_nil)) pe_int))) (pe_lst (pa_cons (pe_op op_addA (pe_callB cr_len (by rfl) B.len (by decide +kernel) (pa_cons (pv 1) pa_nil)) pe_int) pa_nil))))
      (pss_one (ps_ret (pe_lst (pa_cons (pv 3) (pa_cons (pv 4) (pa_cons pe_int (pa_cons (pe_op op_modA (pe_callTy cr_int (by rfl) B.int (by decide +kernel) (pa_cons (pe_callB (cr_sum rfl) (by rfl) B.sum (by decide +kernel) (pa_cons (pv 4) pa_nil)) pa_nil)) pe_int) pa_nil))))))))))

/-! _law_draw: level 1, slots 0:_law_pot_here 1:_law_many 2:_law_turn 3:_law_number 4:_law_seed -/
abbrev s__law_draw : Stmt := top 42
abbrev N__law_draw : List Str := ["_law_pot_here", "_law_many", "_law_turn", "_law_number", "_law_seed"]
theorem sc__law_draw : FnScope N__law_draw ["_law_pot_here", "_law_many"] (defScope s__law_draw) := ⟨rfl, rfl, rfl, by decide +kernel, rfl, by decide +kernel, by decide +kernel⟩
def t__law_draw (K : PySem.W.Frag) : TS :=
  tSeq (tAsg (tIx K (tVar 0) (tC (.int 2))) (gName 2)) (tSeq (sPut (tVar 0) (tC (.int 2)) (tOp oAdd (tVar 2) (tC (.int 1)))) (tSeq (tIfS (tTest (tOp cGt (tCB (oLen K) (tCons (tIx K (tVar 0) (tC (.int 0))) (tNil))) (tC (.int 0)))) (tSeq (tAsg (tIx K (tIx K (tVar 0) (tC (.int 0))) (tC (.int 0))) (gName 3)) (tSeq (sPut (tIx K (tVar 0) (tC (.int 0))) (tC (.int 0)) (tOp oDiv (tVar 3) (tVar 1))) (tSeq (tIfS (tTest (tOp cLt (tVar 3) (tVar 1))) (tDrop (tBM K "list" rPopAt (tIx K (tVar 0) (tC (.int 0))) (tCons (tC (.int 0)) (tNil)))) (tNext)) (tRet (tOp oMod (tCB (oInt) (tCons (tVar 3) (tNil))) (tVar 1)))))) (tNext)) (tSeq (tAsg (tOp oAdd (tOp oAdd (tOp oMul (tIx K (tIx K (tVar 0) (tC (.int 1))) (tOp oMod (tCB (oInt) (tCons (tVar 2) (tNil))) (tCB (oLen K) (tCons (tIx K (tVar 0) (tC (.int 1))) (tNil))))) (tC (.int 7919))) (tOp oMul (tC (.int 104729)) (tVar 2))) (tOp oMul (tIx K (tVar 0) (tC (.int 3))) (tC (.int 31)))) (gName 4)) (tSeq (tAsg (tOp oMod (tCB (oInt) (tCons (tOp oAdd (tOp oMul (tVar 4) (tC (.int 48271))) (tC (.int 11))) (tNil))) (tC (.int 2147483647))) (gName 3)) (tSeq (tAsg (tOp oMod (tCB (oInt) (tCons (tOp oMul (tVar 3) (tOp oAdd (tOp oDiv (tVar 3) (tC (.int 1009))) (tC (.int 69621)))) (tNil))) (tC (.int 2147483629))) (gName 3)) (tSeq (tAsg (tOp oMod (tCB (oInt) (tCons (tOp oAdd (tOp oMul (tVar 3) (tOp oAdd (tOp oDiv (tVar 3) (tC (.int 2003))) (tC (.int 40692)))) (tVar 2)) (tNil))) (tC (.int 2147483399))) (gName 3)) (tRet (tOp oMod (tCB (oInt) (tCons (tOp oDiv (tVar 3) (tC (.int 64))) (tNil))) (tVar 1)))))))))
theorem der__law_draw {P : Program} {w : World} {K : PySem.W.Frag} {mg : Str → Option Value} {base : Heap} {f : Addr} {cdv : Value} {A : Around} {outer : List Env} {s : Shared} {H : Hp} {E : XK} (B : Blt mg)
    (hr : Room 0 (A.deeper (envOfC "_law_draw" (defScope s__law_draw) s.heap.objs.size f cdv)))
     :
    PSs (cxOf (L2.CX P w) P w K mg base N__law_draw "_law_draw" (defScope s__law_draw) f cdv A outer s H E) (defBody s__law_draw) (t__law_draw K) :=
  (pss_cons (ps_set (i := 2) sc__law_draw.nd rfl (by first | exact Or.inl rfl | exact Or.inr rfl) (pe_sub (hu_of hr) (pv 0) pe_int))
      (pss_cons (ps_put (hu_of hr) (pv 0) pe_int (pe_op op_addA (pv 2) pe_int) (pg_sub (pv 0) pe_int set_list))
      (pss_cons (ps_if (pt_cmpR op_gtA (pe_callB cr_len (by rfl) B.len (by decide +kernel) (pa_cons (pe_sub (hu_of hr) (pv 0) pe_int) pa_nil)) pe_int (nomark _)) (pss_cons (ps_set (i := 3) sc__law_draw.nd rfl (by first | exact Or.inl rfl | exact Or.inr rfl) (pe_sub (hu_of hr) (pe_sub (hu_of hr) (pv 0) pe_int) pe_int))
      (pss_cons (ps_put (hu_of hr) (pe_sub (hu_of hr) (pv 0) pe_int) pe_int (pe_op op_divA (pv 3) (pv 1)) (pg_sub (pe_sub (hu_of hr) (pv 0) pe_int) pe_int set_list))
      (pss_cons (ps_if (pt_cmpR op_ltA (pv 3) (pv 1) (nomark _)) (pss_one (ps_expr (pe_bm PySem.F.plainAttrs_list PySem.F.slot_list_pop PySem.F.type_list_pop mt_popAt (pe_sub (hu_of hr) (pv 0) pe_int) (pa_cons pe_int pa_nil)))) pss_nil)
      (pss_one (ps_ret (pe_op op_modA (pe_callTy cr_int (by rfl) B.int (by decide +kernel) (pa_cons (pv 3) pa_nil)) (pv 1))))))) pss_nil)
      (pss_cons (ps_set (i := 4) sc__law_draw.nd rfl (by first | exact Or.inl rfl | exact Or.inr rfl) (pe_op op_addA (pe_op op_addA (pe_op op_mulA (pe_sub (hu_of hr) (pe_sub (hu_of hr) (pv 0) pe_int) (pe_op op_modA (pe_callTy cr_int (by rfl) B.int (by decide +kernel) (pa_cons (pv 2) pa_nil)) (pe_callB cr_len (by rfl) B.len (by decide +kernel) (pa_cons (pe_sub (hu_of hr) (pv 0) pe_int) pa_nil)))) pe_int) (pe_op op_mulA pe_int (pv 2))) (pe_op op_mulA (pe_sub (hu_of hr) (pv 0) pe_int) pe_int)))
      (pss_cons (ps_set (i := 3) sc__law_draw.nd rfl (by first | exact Or.inl rfl | exact Or.inr rfl) (pe_op op_modA (pe_callTy cr_int (by rfl) B.int (by decide +kernel) (pa_cons (pe_op op_addA (pe_op op_mulA (pv 4) pe_int) pe_int) pa_nil)) pe_int))
      (pss_cons (ps_set (i := 3) sc__law_draw.nd rfl (by first | exact Or.inl rfl | exact Or.inr rfl) (pe_op op_modA (pe_callTy cr_int (by rfl) B.int (by decide +kernel) (pa_cons (pe_op op_mulA (pv 3) (pe_op op_addA (pe_op op_divA (pv 3) pe_int) pe_int)) pa_nil)) pe_int))
      (pss_cons (ps_set (i := 3) sc__law_draw.nd rfl (by first | exact Or.inl rfl | exact Or.inr rfl) (pe_op op_modA (pe_callTy cr_int (by rfl) B.int (by decide +kernel) (pa_cons (pe_op op_addA (pe_op op_mulA (pv 3) (pe_op op_addA (pe_op op_divA (pv 3) pe_int) pe_int)) (pv 2)) pa_nil)) pe_int))
      (pss_one (ps_ret (pe_op op_modA (pe_callTy cr_int (by rfl) B.int (by decide +kernel) (pa_cons (pe_op op_divA (pv 3) pe_int) pa_nil)) (pv 1)))))))))))

/-! _law_any: level 2, slots 0:_law_pot_here 1:_law_items -/
abbrev s__law_any : Stmt := top 43
abbrev N__law_any : List Str := ["_law_pot_here", "_law_items"]
theorem sc__law_any : FnScope N__law_any ["_law_pot_here", "_law_items"] (defScope s__law_any) := ⟨rfl, rfl, rfl, by decide +kernel, rfl, by decide +kernel, by decide +kernel⟩
def t__law_any (K : PySem.W.Frag) : TS :=
  tRet (tIx K (tVar 1) (tCall sp__law_draw [] E0 (tCons (tVar 0) (tCons (tCB (oLen K) (tCons (tVar 1) (tNil))) (tNil)))))
theorem der__law_any {P : Program} {w : World} {K : PySem.W.Frag} {mg : Str → Option Value} {base : Heap} {f : Addr} {cdv : Value} {A : Around} {outer : List Env} {s : Shared} {H : Hp} {E : XK} (B : Blt mg)
    (hr : Room 1 (A.deeper (envOfC "_law_any" (defScope s__law_any) s.heap.objs.size f cdv)))
    (h0 : GoodF P w K mg base 1 "_law_draw" ["_law_pot_here", "_law_many"] sp__law_draw) :
    PSs (cxOf (L2.CX P w) P w K mg base N__law_any "_law_any" (defScope s__law_any) f cdv A outer s H E) (defBody s__law_any) (t__law_any K) :=
  (pss_one (ps_ret (pe_sub (hu_of hr) (pv 1) (pe_f h0 (hr.mono (by decide)) (pa_cons (pv 0) (pa_cons (pe_callB cr_len (by rfl) B.len (by decide +kernel) (pa_cons (pv 1) pa_nil)) pa_nil))))))

/-! _law_deeds: level 2, slots 0:_law_pot_here 1:_law_most 2:_law_at 3:_law_deeds_here 4:_law_k -/
abbrev s__law_deeds : Stmt := top 44
abbrev N__law_deeds : List Str := ["_law_pot_here", "_law_most", "_law_at", "_law_deeds_here", "_law_k"]
theorem sc__law_deeds : FnScope N__law_deeds ["_law_pot_here", "_law_most"] (defScope s__law_deeds) := ⟨rfl, rfl, rfl, by decide +kernel, rfl, by decide +kernel, by decide +kernel⟩
def t__law_deeds (K : PySem.W.Frag) : TS :=
  tSeq (tAsg (tCall sp__law_draw [] E0 (tCons (tVar 0) (tCons (tC (.int 18)) (tNil)))) (gName 2)) (tSeq (tAsg (tIx K (tC (.str "abcdefghijklmnopqrstuvwxyz")) (tVar 2)) (gName 3)) (tSeq (tFor (iRng1 (tCons (tCall sp__law_draw [] E0 (tCons (tVar 0) (tCons (tVar 1) (tNil)))) (tNil))) (gName 4) (tSeq (tAsg (tOp oAdd (tOp oAdd (tVar 2) (tC (.int 1))) (tCall sp__law_draw [] E0 (tCons (tVar 0) (tCons (tC (.int 2)) (tNil))))) (gName 2)) (tAsg (tOp oAdd (tVar 3) (tIx K (tC (.str "abcdefghijklmnopqrstuvwxyz")) (tVar 2))) (gName 3)))) (tRet (tVar 3))))
theorem der__law_deeds {P : Program} {w : World} {K : PySem.W.Frag} {mg : Str → Option Value} {base : Heap} {f : Addr} {cdv : Value} {A : Around} {outer : List Env} {s : Shared} {H : Hp} {E : XK} (B : Blt mg)
    (hr : Room 1 (A.deeper (envOfC "_law_deeds" (defScope s__law_deeds) s.heap.objs.size f cdv)))
    (h0 : GoodF P w K mg base 1 "_law_draw" ["_law_pot_here", "_law_many"] sp__law_draw) :
    PSs (cxOf (L2.CX P w) P w K mg base N__law_deeds "_law_deeds" (defScope s__law_deeds) f cdv A outer s H E) (defBody s__law_deeds) (t__law_deeds K) :=
  (pss_cons (ps_set (i := 2) sc__law_deeds.nd rfl (by first | exact Or.inl rfl | exact Or.inr rfl) (pe_f h0 (hr.mono (by decide)) (pa_cons (pv 0) (pa_cons pe_int pa_nil))))
      (pss_cons (ps_set (i := 3) sc__law_deeds.nd rfl (by first | exact Or.inl rfl | exact Or.inr rfl) (pe_sub (hu_of hr) pe_str (pv 2)))
      (pss_cons (ps_for (passes_of rfl) rfl (pi_range1 rfl B.range (pa_cons (pe_f h0 (hr.mono (by decide)) (pa_cons (pv 0) (pa_cons (pv 1) pa_nil))) pa_nil)) (pg_name (i := 4) sc__law_deeds.nd rfl (by first | exact Or.inl rfl | exact Or.inr rfl))
      (pss_cons (ps_set (i := 2) sc__law_deeds.nd rfl (by first | exact Or.inl rfl | exact Or.inr rfl) (pe_op op_addA (pe_op op_addA (pv 2) pe_int) (pe_f h0 (hr.mono (by decide)) (pa_cons (pv 0) (pa_cons pe_int pa_nil)))))
      (pss_one (ps_set (i := 3) sc__law_deeds.nd rfl (by first | exact Or.inl rfl | exact Or.inr rfl) (pe_op op_addA (pv 3) (pe_sub (hu_of hr) pe_str (pv 2)))))))
      (pss_one (ps_ret (pv 3))))))

/-! _law_letters: level 1, slots 0:_law_deeds_here 1:_law_letters_here 2:_law_deed -/
abbrev s__law_letters : Stmt := top 45
abbrev N__law_letters : List Str := ["_law_deeds_here", "_law_letters_here", "_law_deed"]
theorem sc__law_letters : FnScope N__law_letters ["_law_deeds_here"] (defScope s__law_letters) := ⟨rfl, rfl, rfl, by decide +kernel, rfl, by decide +kernel, by decide +kernel⟩
def t__law_letters (K : PySem.W.Frag) : TS :=
  tSeq (tAsg (tLst (tNil)) (gName 1)) (tSeq (tFor (iSeq K (tVar 0)) (gName 2) (tAsg (tOp oAdd (tVar 1) (tLst (tCons (tVar 2) (tCons (tM0 mUp (tVar 2)) (tNil))))) (gName 1))) (tRet (tVar 1)))
theorem der__law_letters {P : Program} {w : World} {K : PySem.W.Frag} {mg : Str → Option Value} {base : Heap} {f : Addr} {cdv : Value} {A : Around} {outer : List Env} {s : Shared} {H : Hp} {E : XK} (B : Blt mg)
    (hr : Room 0 (A.deeper (envOfC "_law_letters" (defScope s__law_letters) s.heap.objs.size f cdv)))
     :
    PSs (cxOf (L2.CX P w) P w K mg base N__law_letters "_law_letters" (defScope s__law_letters) f cdv A outer s H E) (defBody s__law_letters) (t__law_letters K) :=
  (pss_cons (ps_set (i := 1) sc__law_letters.nd rfl (by first | exact Or.inl rfl | exact Or.inr rfl) (pe_lst pa_nil))
      (pss_cons (ps_for (passes_of rfl) rfl (pi_seq (pv 0)) (pg_name (i := 2) sc__law_letters.nd rfl (by first | exact Or.inl rfl | exact Or.inr rfl))
      (pss_one (ps_set (i := 1) sc__law_letters.nd rfl (by first | exact Or.inl rfl | exact Or.inr rfl) (pe_op op_addA (pv 1) (pe_lst (pa_cons (pv 2) (pa_cons (pe_up (pv 2)) pa_nil)))))))
      (pss_one (ps_ret (pv 1)))))

/-! _law_row: level 3, slots 0:_law_pot_here 1:_law_deeds_here 2:_law_most 3:_law_k -/
abbrev s__law_row : Stmt := top 46
abbrev N__law_row : List Str := ["_law_pot_here", "_law_deeds_here", "_law_most", "_law_k"]
theorem sc__law_row : FnScope N__law_row ["_law_pot_here", "_law_deeds_here", "_law_most"] (defScope s__law_row) := ⟨rfl, rfl, rfl, by decide +kernel, rfl, by decide +kernel, by decide +kernel⟩
def t__law_row (K : PySem.W.Frag) : TS :=
  tRet (tM1 (mJoin K) (tC (.str "")) (tLc (iRng1 (tCons (tCall sp__law_draw [] E0 (tCons (tVar 0) (tCons (tOp oAdd (tVar 2) (tC (.int 1))) (tNil)))) (tNil))) (gName 3) (tYes) (tCall sp__law_any [] E0 (tCons (tVar 0) (tCons (tCall sp__law_letters [] E0 (tCons (tVar 1) (tNil))) (tNil)))) [3]))
theorem der__law_row {P : Program} {w : World} {K : PySem.W.Frag} {mg : Str → Option Value} {base : Heap} {f : Addr} {cdv : Value} {A : Around} {outer : List Env} {s : Shared} {H : Hp} {E : XK} (B : Blt mg)
    (hr : Room 2 (A.deeper (envOfC "_law_row" (defScope s__law_row) s.heap.objs.size f cdv)))
    (h0 : GoodF P w K mg base 1 "_law_draw" ["_law_pot_here", "_law_many"] sp__law_draw)
    (h1 : GoodF P w K mg base 1 "_law_letters" ["_law_deeds_here"] sp__law_letters)
    (h2 : GoodF P w K mg base 2 "_law_any" ["_law_pot_here", "_law_items"] sp__law_any) :
    PSs (cxOf (L2.CX P w) P w K mg base N__law_row "_law_row" (defScope s__law_row) f cdv A outer s H E) (defBody s__law_row) (t__law_row K) :=
  (pss_one (ps_ret (pe_jn pe_str (pe_lc (own := [("_law_k", 3)]) rfl sc__law_row.nd (pi_range1 rfl B.range (pa_cons (pe_f h0 (hr.mono (by decide)) (pa_cons (pv 0) (pa_cons (pe_op op_addA (pv 2) pe_int) pa_nil))) pa_nil)) (blkOk_by (own := [("_law_k", 3)]) (N := N__law_row) (sc := defScope s__law_row) (by decide +kernel)) (fun _ _ _ _ _ => (pg_name (i := 3) sc__law_row.nd rfl (by first | exact Or.inl rfl | exact Or.inr rfl))) (fun _ _ _ _ _ => pts_nil) (fun _ _ _ _ _ => (pe_f h2 (hr.mono (by decide)) (pa_cons (pv 0) (pa_cons (pe_f h1 (hr.mono (by decide)) (pa_cons (pv 1) pa_nil)) pa_nil))))))))

/-! _law_mixed: level 2, slots 0:_law_pot_here 1:_law_items 2:_law_line 3:_law_k 4:_law_at -/
abbrev s__law_mixed : Stmt := top 47
abbrev N__law_mixed : List Str := ["_law_pot_here", "_law_items", "_law_line", "_law_k", "_law_at"]
theorem sc__law_mixed : FnScope N__law_mixed ["_law_pot_here", "_law_items"] (defScope s__law_mixed) := ⟨rfl, rfl, rfl, by decide +kernel, rfl, by decide +kernel, by decide +kernel⟩
def t__law_mixed (K : PySem.W.Frag) : TS :=
  tSeq (tAsg (tCB (oList K) (tCons (tVar 1) (tNil))) (gName 2)) (tSeq (tFor (iRng1 (tCons (tCB (oLen K) (tCons (tVar 2) (tNil))) (tNil))) (gName 3) (tSeq (tAsg (tCall sp__law_draw [] E0 (tCons (tVar 0) (tCons (tCB (oLen K) (tCons (tVar 2) (tNil))) (tNil)))) (gName 4)) (tAsg (tTup (tCons (tIx K (tVar 2) (tVar 4)) (tCons (tIx K (tVar 2) (tVar 3)) (tNil)))) (gTup K 2 (gCons (gSub (tVar 2) (tVar 3) rSetL) (gCons (gSub (tVar 2) (tVar 4) rSetL) (gNil))))))) (tRet (tVar 2)))
theorem der__law_mixed {P : Program} {w : World} {K : PySem.W.Frag} {mg : Str → Option Value} {base : Heap} {f : Addr} {cdv : Value} {A : Around} {outer : List Env} {s : Shared} {H : Hp} {E : XK} (B : Blt mg)
    (hr : Room 1 (A.deeper (envOfC "_law_mixed" (defScope s__law_mixed) s.heap.objs.size f cdv)))
    (h0 : GoodF P w K mg base 1 "_law_draw" ["_law_pot_here", "_law_many"] sp__law_draw) :
    PSs (cxOf (L2.CX P w) P w K mg base N__law_mixed "_law_mixed" (defScope s__law_mixed) f cdv A outer s H E) (defBody s__law_mixed) (t__law_mixed K) :=
  (pss_cons (ps_set (i := 2) sc__law_mixed.nd rfl (by first | exact Or.inl rfl | exact Or.inr rfl) (pe_callTy cr_list (by rfl) B.list (by decide +kernel) (pa_cons (pv 1) pa_nil)))
      (pss_cons (ps_for (passes_of rfl) rfl (pi_range1 rfl B.range (pa_cons (pe_callB cr_len (by rfl) B.len (by decide +kernel) (pa_cons (pv 2) pa_nil)) pa_nil)) (pg_name (i := 3) sc__law_mixed.nd rfl (by first | exact Or.inl rfl | exact Or.inr rfl))
      (pss_cons (ps_set (i := 4) sc__law_mixed.nd rfl (by first | exact Or.inl rfl | exact Or.inr rfl) (pe_f h0 (hr.mono (by decide)) (pa_cons (pv 0) (pa_cons (pe_callB cr_len (by rfl) B.len (by decide +kernel) (pa_cons (pv 2) pa_nil)) pa_nil))))
      (pss_one (ps_asg (pe_tup (pa_cons (pe_sub (hu_of hr) (pv 2) (pv 4)) (pa_cons (pe_sub (hu_of hr) (pv 2) (pv 3)) pa_nil))) (pg_tup rfl (pgs_cons (pg_sub (pv 2) (pv 3) set_list) (pgs_cons (pg_sub (pv 2) (pv 4) set_list) pgs_nil)))))))
      (pss_one (ps_ret (pv 2)))))

/-! _law_moves: level 3, slots 0:_law_pot_here 1:_law_deeds_here 2:_law_size 3:_law_moves_here 4:_law_deed -/
abbrev s__law_moves : Stmt := top 48
abbrev N__law_moves : List Str := ["_law_pot_here", "_law_deeds_here", "_law_size", "_law_moves_here", "_law_deed"]
theorem sc__law_moves : FnScope N__law_moves ["_law_pot_here", "_law_deeds_here", "_law_size"] (defScope s__law_moves) := ⟨rfl, rfl, rfl, by decide +kernel, rfl, by decide +kernel, by decide +kernel⟩
def t__law_moves (K : PySem.W.Frag) : TS :=
  tSeq (tAsg (tDNewK) (gName 3)) (tSeq (tFor (iSeq K (tVar 1)) (gName 4) (sPut (tVar 3) (tVar 4) (tCB (oTupleA K) (tCons (tCall sp__law_mixed [] E0 (tCons (tVar 0) (tCons (tLstRg (tRg1 (tVar 2))) (tNil)))) (tNil))))) (tRet (tVar 3)))
theorem der__law_moves {P : Program} {w : World} {K : PySem.W.Frag} {mg : Str → Option Value} {base : Heap} {f : Addr} {cdv : Value} {A : Around} {outer : List Env} {s : Shared} {H : Hp} {E : XK} (B : Blt mg)
    (hr : Room 2 (A.deeper (envOfC "_law_moves" (defScope s__law_moves) s.heap.objs.size f cdv)))
    (h0 : GoodF P w K mg base 2 "_law_mixed" ["_law_pot_here", "_law_items"] sp__law_mixed) :
    PSs (cxOf (L2.CX P w) P w K mg base N__law_moves "_law_moves" (defScope s__law_moves) f cdv A outer s H E) (defBody s__law_moves) (t__law_moves K) :=
  (pss_cons (ps_set (i := 3) sc__law_moves.nd rfl (by first | exact Or.inl rfl | exact Or.inr rfl) pe_dnewK)
      (pss_cons (ps_for (passes_of rfl) rfl (pi_seq (pv 1)) (pg_name (i := 4) sc__law_moves.nd rfl (by first | exact Or.inl rfl | exact Or.inr rfl))
      (pss_one (ps_put (hu_of hr) (pv 3) (pv 4) (pe_callTy cr_tupleA (by rfl) B.tuple (by decide +kernel) (pa_cons (pe_f h0 (hr.mono (by decide)) (pa_cons (pv 0) (pa_cons (pe_listRg rfl rfl B.list (prg_1 rfl B.range (pv 2))) pa_nil))) pa_nil)) (pg_sub (pv 3) (pv 4) set_list))))
      (pss_one (ps_ret (pv 3)))))

/-! _law_step: level 1, slots 0:_law_moves_here 1:_law_letter 2:_law_standing -/
abbrev s__law_step : Stmt := top 49
abbrev N__law_step : List Str := ["_law_moves_here", "_law_letter", "_law_standing"]
theorem sc__law_step : FnScope N__law_step ["_law_moves_here", "_law_letter", "_law_standing"] (defScope s__law_step) := ⟨rfl, rfl, rfl, by decide +kernel, rfl, by decide +kernel, by decide +kernel⟩
def t__law_step (K : PySem.W.Frag) : TS :=
  tSeq (tIfS (tTest (tOp (cEq K) (tVar 1) (tC (.str "")))) (tRet (tVar 2)) (tNext)) (tSeq (tIfS (tInT K (tVar 1) (tVar 0)) (tRet (tIx K (tIx K (tVar 0) (tVar 1)) (tVar 2))) (tNext)) (tRet (tTix (tIx K (tVar 0) (tM0 mLow (tVar 1))) (tVar 2))))
theorem der__law_step {P : Program} {w : World} {K : PySem.W.Frag} {mg : Str → Option Value} {base : Heap} {f : Addr} {cdv : Value} {A : Around} {outer : List Env} {s : Shared} {H : Hp} {E : XK} (B : Blt mg)
    (hr : Room 0 (A.deeper (envOfC "_law_step" (defScope s__law_step) s.heap.objs.size f cdv)))
     :
    PSs (cxOf (L2.CX P w) P w K mg base N__law_step "_law_step" (defScope s__law_step) f cdv A outer s H E) (defBody s__law_step) (t__law_step K) :=
  (pss_cons (ps_if (pt_cmpR (op_eqA hr.units) (pv 1) pe_str (nomark _)) (pss_one (ps_ret (pv 2))) pss_nil)
      (pss_cons (ps_if (pt_in (hu_of hr) (pv 1) (pv 0)) (pss_one (ps_ret (pe_sub (hu_of hr) (pe_sub (hu_of hr) (pv 0) (pv 1)) (pv 2)))) pss_nil)
      (pss_one (ps_ret (pe_tix (pe_sub (hu_of hr) (pv 0) (pe_low (pv 1))) (pv 2))))))

/-! _law_led: level 2, slots 0:_law_moves_here 1:_law_standing 2:_law_row_here 3:_law_letter -/
abbrev s__law_led : Stmt := top 50
abbrev N__law_led : List Str := ["_law_moves_here", "_law_standing", "_law_row_here", "_law_letter"]
theorem sc__law_led : FnScope N__law_led ["_law_moves_here", "_law_standing", "_law_row_here"] (defScope s__law_led) := ⟨rfl, rfl, rfl, by decide +kernel, rfl, by decide +kernel, by decide +kernel⟩
def t__law_led (K : PySem.W.Frag) : TS :=
  tSeq (tFor (iSeq K (tVar 2)) (gName 3) (tAsg (tCall sp__law_step [] E0 (tCons (tVar 0) (tCons (tVar 3) (tCons (tVar 1) (tNil))))) (gName 1))) (tRet (tVar 1))
theorem der__law_led {P : Program} {w : World} {K : PySem.W.Frag} {mg : Str → Option Value} {base : Heap} {f : Addr} {cdv : Value} {A : Around} {outer : List Env} {s : Shared} {H : Hp} {E : XK} (B : Blt mg)
    (hr : Room 1 (A.deeper (envOfC "_law_led" (defScope s__law_led) s.heap.objs.size f cdv)))
    (h0 : GoodF P w K mg base 1 "_law_step" ["_law_moves_here", "_law_letter", "_law_standing"] sp__law_step) :
    PSs (cxOf (L2.CX P w) P w K mg base N__law_led "_law_led" (defScope s__law_led) f cdv A outer s H E) (defBody s__law_led) (t__law_led K) :=
  (pss_cons (ps_for (passes_of rfl) rfl (pi_seq (pv 2)) (pg_name (i := 3) sc__law_led.nd rfl (by first | exact Or.inl rfl | exact Or.inr rfl))
      (pss_one (ps_set (i := 1) sc__law_led.nd rfl (by first | exact Or.inl rfl | exact Or.inr rfl) (pe_f h0 (hr.mono (by decide)) (pa_cons (pv 0) (pa_cons (pv 3) (pa_cons (pv 1) pa_nil)))))))
      (pss_one (ps_ret (pv 1))))

/-! _law_pairs: level 1, slots 0:_law_deeds_here 1:_law_one 2:_law_other 3:_law_moves_here 4:_law_deed 5:_law_row_here 6:_law_standing 7:_law_goal -/
abbrev s__law_pairs : Stmt := top 51
abbrev N__law_pairs : List Str := ["_law_deeds_here", "_law_one", "_law_other", "_law_moves_here", "_law_deed", "_law_row_here", "_law_standing", "_law_goal"]
theorem sc__law_pairs : FnScope N__law_pairs ["_law_deeds_here", "_law_one", "_law_other"] (defScope s__law_pairs) := ⟨rfl, rfl, rfl, by decide +kernel, rfl, by decide +kernel, by decide +kernel⟩
def t__law_pairs (K : PySem.W.Frag) : TS :=
  tSeq (tAsg (tDNewK) (gName 3)) (tSeq (tFor (iSeq K (tVar 0)) (gName 4) (tSeq (tAsg (tLst (tNil)) (gName 5)) (tSeq (tFor (iSeq K (tIx K (tVar 1) (tVar 4))) (gName 6) (tDrop (tBM K "list" rExtend (tVar 5) (tCons (tLc (iSeq K (tIx K (tVar 2) (tVar 4))) (gName 7) (tYes) (tOp oAdd (tOp oMul (tVar 6) (tCB (oLen K) (tCons (tIx K (tVar 2) (tVar 4)) (tNil)))) (tVar 7)) [7]) (tNil))))) (sPut (tVar 3) (tVar 4) (tCB (oTupleA K) (tCons (tVar 5) (tNil))))))) (tRet (tVar 3)))
theorem der__law_pairs {P : Program} {w : World} {K : PySem.W.Frag} {mg : Str → Option Value} {base : Heap} {f : Addr} {cdv : Value} {A : Around} {outer : List Env} {s : Shared} {H : Hp} {E : XK} (B : Blt mg)
    (hr : Room 0 (A.deeper (envOfC "_law_pairs" (defScope s__law_pairs) s.heap.objs.size f cdv)))
     :
    PSs (cxOf (L2.CX P w) P w K mg base N__law_pairs "_law_pairs" (defScope s__law_pairs) f cdv A outer s H E) (defBody s__law_pairs) (t__law_pairs K) :=
  (pss_cons (ps_set (i := 3) sc__law_pairs.nd rfl (by first | exact Or.inl rfl | exact Or.inr rfl) pe_dnewK)
      (pss_cons (ps_for (passes_of rfl) rfl (pi_seq (pv 0)) (pg_name (i := 4) sc__law_pairs.nd rfl (by first | exact Or.inl rfl | exact Or.inr rfl))
      (pss_cons (ps_set (i := 5) sc__law_pairs.nd rfl (by first | exact Or.inl rfl | exact Or.inr rfl) (pe_lst pa_nil))
      (pss_cons (ps_for (passes_of rfl) rfl (pi_seq (pe_sub (hu_of hr) (pv 1) (pv 4))) (pg_name (i := 6) sc__law_pairs.nd rfl (by first | exact Or.inl rfl | exact Or.inr rfl))
      (pss_one (ps_expr (pe_bm PySem.F.plainAttrs_list PySem.F.slot_list_extend PySem.F.type_list_extend mt_extend (pv 5) (pa_cons (pe_lc (own := [("_law_goal", 7)]) rfl sc__law_pairs.nd (pi_seq (pe_sub (hu_of hr) (pv 2) (pv 4))) (blkOk_by (own := [("_law_goal", 7)]) (N := N__law_pairs) (sc := defScope s__law_pairs) (by decide +kernel)) (fun _ _ _ _ _ => (pg_name (i := 7) sc__law_pairs.nd rfl (by first | exact Or.inl rfl | exact Or.inr rfl))) (fun _ _ _ _ _ => pts_nil) (fun _ _ _ _ _ => (pe_op op_addA (pe_op op_mulA (pv 6) (pe_callB cr_len (by rfl) B.len (by decide +kernel) (pa_cons (pe_sub (hu_of hr) (pv 2) (pv 4)) pa_nil))) (pv 7)))) pa_nil)))))
      (pss_one (ps_put (hu_of hr) (pv 3) (pv 4) (pe_callTy cr_tupleA (by rfl) B.tuple (by decide +kernel) (pa_cons (pv 5) pa_nil)) (pg_sub (pv 3) (pv 4) set_list))))))
      (pss_one (ps_ret (pv 3)))))

/-! _law_asked: level 7, slots 0:_law_one 1:_law_other 2:_law_found 3:e -/
abbrev s__law_asked : Stmt := top 52
abbrev N__law_asked : List Str := ["_law_one", "_law_other", "_law_found", "e"]
theorem sc__law_asked : FnScope N__law_asked ["_law_one", "_law_other"] (defScope s__law_asked) := ⟨rfl, rfl, rfl, by decide +kernel, rfl, by decide +kernel, by decide +kernel⟩
def t__law_asked (K : PySem.W.Frag) (CR : Addr) (CO : Addr) (CT : Addr) (E : XK) : TS :=
  tSeq (tAsg (tC .non) (gName 2)) (tSeq (tTry K (fun _ _ _ _ => False) (fun W => tAsg (tTup (tCons (tC (.str "told")) (tCons (tCallS (sp_beside K CR CO CT) (WE W) (tCons (tVar 0) (tCons (tVar 1) (tNil)))) (tNil)))) (gName 2)) (Cl.un (.ref CO) (fun a cls d => tAsg (tTup (tCons (tC (.str "deeds")) (tCons (tC .non) (tNil)))) (gName 2)) :: Cl.as (.ref CT) 3 (fun a cls d => tAsg (tTup (tCons (tC (.str "large")) (tCons (tByB CT "most" a cls d (tVar 3)) (tNil)))) (gName 2)) :: [])) (tRet (tVar 2)))
theorem der__law_asked {P : Program} {w : World} {K : PySem.W.Frag} {mg : Str → Option Value} {base : Heap} {f : Addr} {cdv : Value} {A : Around} {outer : List Env} {s : Shared} {H : Hp} {E : XK} {CO : Addr} {CR : Addr} {CT : Addr} (B : Blt mg)
    (hr : Room 6 (A.deeper (envOfC "_law_asked" (defScope s__law_asked) s.heap.objs.size f cdv)))
    (h0 : GoodF P w K mg base 6 "beside" ["one", "second"] (sp_beside K CR CO CT))
    (h1 : ∃ fI, BigT P K mg "TooLarge" CT fI "most" "TooLarge.__init__" s_big)
    (h2 : Exc0 K mg "OtherDeeds" CO) :
    PSs (cxOf (L2.CX P w) P w K mg base N__law_asked "_law_asked" (defScope s__law_asked) f cdv A outer s H E) (defBody s__law_asked) (t__law_asked K CR CO CT E) :=
  (pss_cons (ps_set (i := 2) sc__law_asked.nd rfl (by first | exact Or.inl rfl | exact Or.inr rfl) pe_non)
      (pss_cons (ps_tryCl rfl rfl sc__law_asked.nd takes_none5 (fun W pn xe tk hp => (pss_one (ps_set (i := 2) sc__law_asked.nd rfl (by first | exact Or.inl rfl | exact Or.inr rfl) (pe_tup (pa_cons pe_str (pa_cons (pe_fS _ tk h0 (hr.mono (by decide)) (pa_cons (pv 0) (pa_cons (pv 1) pa_nil))) pa_nil))))))
      (ClsOk.un ⟨rfl, by decide, .inl h2.gC⟩ (fun a oe cls d pn hz hf => (pss_one (ps_set (i := 2) sc__law_asked.nd rfl (by first | exact Or.inl rfl | exact Or.inr rfl) (pe_tup (pa_cons pe_str (pa_cons pe_non pa_nil)))))) (ClsOk.as (i := 3) rfl rfl ⟨rfl, by decide, .inl (Exists.elim h1 fun _ T => T.gC)⟩ (fun a oe cls d pn hz hf => (pss_one (ps_set (i := 2) sc__law_asked.nd rfl (by first | exact Or.inl rfl | exact Or.inr rfl) (pe_tup (pa_cons pe_str (pa_cons (pe_byB h1 hz hf (pv 3)) pa_nil)))))) ClsOk.nil)))
      (pss_one (ps_ret (pv 2)))))

/-! _law_least: level 1, slots 0:_law_one 1:_law_other 2:_law_found 3:_law_turn -/
abbrev s__law_least : Stmt := top 53
abbrev N__law_least : List Str := ["_law_one", "_law_other", "_law_found", "_law_turn"]
theorem sc__law_least : FnScope N__law_least ["_law_one", "_law_other"] (defScope s__law_least) := ⟨rfl, rfl, rfl, by decide +kernel, rfl, by decide +kernel, by decide +kernel⟩
def t__law_least (K : PySem.W.Frag) : TS :=
  tSeq (tAsg (tVar 0) (gName 2)) (tSeq (tFor (iRng1 (tCons (tVar 1) (tNil))) (gName 3) (tIfS (tTest (tOp cGt (tOp oMod (tCB (oInt) (tCons (tVar 2) (tNil))) (tVar 1)) (tC (.int 0)))) (tAsg (tOp oAdd (tVar 2) (tVar 0)) (gName 2)) (tNext))) (tRet (tVar 2)))
theorem der__law_least {P : Program} {w : World} {K : PySem.W.Frag} {mg : Str → Option Value} {base : Heap} {f : Addr} {cdv : Value} {A : Around} {outer : List Env} {s : Shared} {H : Hp} {E : XK} (B : Blt mg)
    (hr : Room 0 (A.deeper (envOfC "_law_least" (defScope s__law_least) s.heap.objs.size f cdv)))
     :
    PSs (cxOf (L2.CX P w) P w K mg base N__law_least "_law_least" (defScope s__law_least) f cdv A outer s H E) (defBody s__law_least) (t__law_least K) :=
  (pss_cons (ps_set (i := 2) sc__law_least.nd rfl (by first | exact Or.inl rfl | exact Or.inr rfl) (pv 0))
      (pss_cons (ps_for (passes_of rfl) rfl (pi_range1 rfl B.range (pa_cons (pv 1) pa_nil)) (pg_name (i := 3) sc__law_least.nd rfl (by first | exact Or.inl rfl | exact Or.inr rfl))
      (pss_one (ps_if (pt_cmpR op_gtA (pe_op op_modA (pe_callTy cr_int (by rfl) B.int (by decide +kernel) (pa_cons (pv 2) pa_nil)) (pv 1)) pe_int (nomark _)) (pss_one (ps_set (i := 2) sc__law_least.nd rfl (by first | exact Or.inl rfl | exact Or.inr rfl) (pe_op op_addA (pv 2) (pv 0)))) pss_nil)))
      (pss_one (ps_ret (pv 2)))))

/-! law: level 8, slots 0:_law_script 1:_law_pot_here 2:_law_deeds_here 3:_law_sizes 4:_law_k 5:_law_great 6:_law_moves_here 7:_law_size 8:_law_worlds 9:_law_move 10:_law_told 11:_law_due 12:_law_row_here 13:_law_s 14:_law_t 15:_law_goal 16:_law_found 17:_law_spare 18:_law_sign 19:_law_other 20:_law_second -/
abbrev s_law : Stmt := top 54
abbrev N_law : List Str := ["_law_script", "_law_pot_here", "_law_deeds_here", "_law_sizes", "_law_k", "_law_great", "_law_moves_here", "_law_size", "_law_worlds", "_law_move", "_law_told", "_law_due", "_law_row_here", "_law_s", "_law_t", "_law_goal", "_law_found", "_law_spare", "_law_sign", "_law_other", "_law_second"]
theorem sc_law : FnScope N_law ["_law_script"] (defScope s_law) := ⟨rfl, rfl, rfl, by decide +kernel, rfl, by decide +kernel, by decide +kernel⟩
def t_law (K : PySem.W.Frag) (CW : Addr) (CR : Addr) (CO : Addr) (CT : Addr) : TS :=
  tSeq (tAsg (tCall (sp__law_pot K) [] E0 (tCons (tVar 0) (tNil))) (gName 1)) (tSeq (tAsg (tCall sp__law_deeds [] E0 (tCons (tVar 1) (tCons (tC (.int 3)) (tNil)))) (gName 2)) (tSeq (tAsg (tLc (iRng1 (tCons (tC (.int 3)) (tNil))) (gName 4) (tYes) (tIx K (tTup (tCons (tC (.int 1)) (tCons (tC (.int 2)) (tCons (tC (.int 3)) (tCons (tC (.int 4)) (tCons (tC (.int 5)) (tCons (tC (.int 6)) (tNil)))))))) (tCall sp__law_draw [] E0 (tCons (tVar 1) (tCons (tC (.int 6)) (tNil))))) [4]) (gName 3)) (tSeq (tAsg (tOp (cEq K) (tCall sp__law_draw [] E0 (tCons (tVar 1) (tCons (tC (.int 8)) (tNil)))) (tC (.int 0))) (gName 5)) (tSeq (tIfS (tTr K (tVar 5)) (tAsg (tLst (tCons (tC (.int 24)) (tCons (tC (.int 24)) (tCons (tOp oAdd (tC (.int 3)) (tCall sp__law_draw [] E0 (tCons (tVar 1) (tCons (tC (.int 3)) (tNil))))) (tNil))))) (gName 3)) (tNext)) (tSeq (tAsg (tLc (iSeq K (tVar 3)) (gName 7) (tYes) (tCall sp__law_moves [] E0 (tCons (tVar 1) (tCons (tVar 2) (tCons (tVar 7) (tNil))))) [7]) (gName 6)) (tSeq (tAsg (tLc (iSeq K (tVar 6)) (gName 9) (tYes) (tMake CW (sp_World_init K CW) [] E0 (tCons (tVar 2) (tCons (tVar 9) (tNil)))) [9]) (gName 8)) (tSeq (tAsg (tCall (sp_beside K CR CO CT) [] E0 (tCons (tIx K (tVar 8) (tC (.int 0))) (tCons (tIx K (tVar 8) (tC (.int 1))) (tNil)))) (gName 10)) (tSeq (tAsg (tCall sp__law_pairs [] E0 (tCons (tVar 2) (tCons (tIx K (tVar 6) (tC (.int 0))) (tCons (tIx K (tVar 6) (tC (.int 1))) (tNil))))) (gName 11)) (tSeq (tIfS (tOr (tNot (tTr K (tCB (oIsi K) (tCons (tVar 10) (tCons (tC (.ref CW)) (tNil)))))) (tOr (tTest (tOp (cNe K) (tFld K (tVar 10) "deeds") (tVar 2))) (tOr (tTest (tOp (rNeDT K) (tProp CR (sp_World_moves K CR) [] E0 (tVar 10)) (tVar 11))) (tTest (tOp (cNe K) (tFld K (tVar 10) "size") (tOp oMul (tIx K (tVar 3) (tC (.int 0))) (tIx K (tVar 3) (tC (.int 1))))))))) (tRet (tC (.bl false))) (tNext)) (tSeq (tAsg (tCall sp__law_row [] E0 (tCons (tVar 1) (tCons (tVar 2) (tCons (tC (.int 10)) (tNil))))) (gName 12)) (tSeq (tPar 13 14 (tCons (tCall sp__law_draw [] E0 (tCons (tVar 1) (tCons (tIx K (tVar 3) (tC (.int 0))) (tNil)))) (tCons (tCall sp__law_draw [] E0 (tCons (tVar 1) (tCons (tIx K (tVar 3) (tC (.int 1))) (tNil)))) (tNil)))) (tSeq (tAsg (tOp oAdd (tOp oMul (tCall sp__law_led [] E0 (tCons (tIx K (tVar 6) (tC (.int 0))) (tCons (tVar 13) (tCons (tVar 12) (tNil))))) (tIx K (tVar 3) (tC (.int 1)))) (tCall sp__law_led [] E0 (tCons (tIx K (tVar 6) (tC (.int 1))) (tCons (tVar 14) (tCons (tVar 12) (tNil)))))) (gName 15)) (tSeq (tIfS (tOr (tTest (tOp (cNe K) (tCall (sp_led K) [] E0 (tCons (tVar 10) (tCons (tOp oAdd (tOp oMul (tVar 13) (tIx K (tVar 3) (tC (.int 1)))) (tVar 14)) (tCons (tVar 12) (tNil))))) (tVar 15))) (tTest (tOp (cNe K) (tIx K (tCall (sp_move_of K) [] E0 (tCons (tVar 10) (tCons (tVar 12) (tNil)))) (tOp oAdd (tOp oMul (tVar 13) (tIx K (tVar 3) (tC (.int 1)))) (tVar 14))) (tVar 15)))) (tRet (tC (.bl false))) (tNext)) (tSeq (tIfS (tAnd (tNot (tTr K (tVar 5))) (tTest (tOp (cNe K) (tCall (sp_order K) [] E0 (tCons (tVar 10) (tCons (tVar 12) (tNil)))) (tCall sp__law_least [] E0 (tCons (tCall (sp_order K) [] E0 (tCons (tIx K (tVar 8) (tC (.int 0))) (tCons (tVar 12) (tNil)))) (tCons (tCall (sp_order K) [] E0 (tCons (tIx K (tVar 8) (tC (.int 1))) (tCons (tVar 12) (tNil)))) (tNil))))))) (tRet (tC (.bl false))) (tNext)) (tSeq (tAsg (tCall (sp__law_asked K CR CO CT) [] E0 (tCons (tVar 10) (tCons (tIx K (tVar 8) (tC (.int 2))) (tNil)))) (gName 16)) (tSeq (tIfS (tTest (tOp cGt (tOp oMul (tOp oMul (tIx K (tVar 3) (tC (.int 0))) (tIx K (tVar 3) (tC (.int 1)))) (tIx K (tVar 3) (tC (.int 2)))) (tC (.int 2000)))) (tIfS (tOr (tTest (tOp (cNe K) (tVar 16) (tTup (tCons (tC (.str "large")) (tCons (tC (.int 2000)) (tNil)))))) (tTest (tOp (cNe K) (tCall (sp__law_asked K CR CO CT) [] E0 (tCons (tIx K (tVar 8) (tC (.int 2))) (tCons (tVar 10) (tNil)))) (tTup (tCons (tC (.str "large")) (tCons (tC (.int 2000)) (tNil))))))) (tRet (tC (.bl false))) (tNext)) (tIfS (tOr (tTest (tOp (cNe K) (tIx K (tVar 16) (tC (.int 0))) (tC (.str "told")))) (tTest (tOp (rNeDT K) (tProp CR (sp_World_moves K CR) [] E0 (tIx K (tVar 16) (tC (.int 1)))) (tCall sp__law_pairs [] E0 (tCons (tVar 2) (tCons (tVar 11) (tCons (tIx K (tVar 6) (tC (.int 2))) (tNil)))))))) (tRet (tC (.bl false))) (tIfS (tTest (tOp (rNeG (DIns CR (Alike K CR))) (tIx K (tVar 16) (tC (.int 1))) (tCall (sp_beside K CR CO CT) [] E0 (tCons (tIx K (tVar 8) (tC (.int 0))) (tCons (tCall (sp_beside K CR CO CT) [] E0 (tCons (tIx K (tVar 8) (tC (.int 1))) (tCons (tIx K (tVar 8) (tC (.int 2))) (tNil)))) (tNil)))))) (tRet (tC (.bl false))) (tNext)))) (tSeq (tAsg (tIx K (tLc (iSeq K (tC (.str "abcdefghijklmnopqrstuvwxyz"))) (gName 18) (tNinT K (tVar 18) (tVar 2)) (tVar 18) [18]) (tC (.int 0))) (gName 17)) (tSeq (tAsg (tM1 (mJoin K) (tC (.str "")) (tCB (oSortedZ K) (tCons (tOp oAdd (tSl (oSl K) (tVar 2) (tPart (tC (.int 1))) (tNoPart)) (tVar 17)) (tNil)))) (gName 19)) (tSeq (tAsg (tMake CW (sp_World_init K CW) [] E0 (tCons (tVar 19) (tCons (tCall sp__law_moves [] E0 (tCons (tVar 1) (tCons (tVar 19) (tCons (tIx K (tVar 3) (tC (.int 1))) (tNil))))) (tNil)))) (gName 20)) (tSeq (tIfS (tOr (tTest (tOp (cNe K) (tCall (sp__law_asked K CR CO CT) [] E0 (tCons (tIx K (tVar 8) (tC (.int 0))) (tCons (tVar 20) (tNil)))) (tTup (tCons (tC (.str "deeds")) (tCons (tC .non) (tNil)))))) (tTest (tOp (cNe K) (tCall (sp__law_asked K CR CO CT) [] E0 (tCons (tVar 20) (tCons (tVar 10) (tNil)))) (tTup (tCons (tC (.str "deeds")) (tCons (tC .non) (tNil))))))) (tRet (tC (.bl false))) (tNext)) (tRet (tAndV (tOp (rEqG (DIns CW (Alike K CW))) (tIx K (tVar 8) (tC (.int 0))) (tMake CW (sp_World_init K CW) [] E0 (tCons (tVar 2) (tCons (tIx K (tVar 6) (tC (.int 0))) (tNil))))) (tOp (rEqG (DIns CW (Alike K CW))) (tIx K (tVar 8) (tC (.int 1))) (tMake CW (sp_World_init K CW) [] E0 (tCons (tVar 2) (tCons (tIx K (tVar 6) (tC (.int 1))) (tNil)))))))))))))))))))))))))))
theorem der_law {P : Program} {w : World} {K : PySem.W.Frag} {mg : Str → Option Value} {base : Heap} {f : Addr} {cdv : Value} {A : Around} {outer : List Env} {s : Shared} {H : Hp} {E : XK} {CO : Addr} {CR : Addr} {CT : Addr} {CW : Addr} (B : Blt mg)
    (hr : Room 7 (A.deeper (envOfC "law" (defScope s_law) s.heap.objs.size f cdv)))
    (h0 : GoodF P w K mg base 1 "_law_pot" ["_law_script"] (sp__law_pot K))
    (h1 : GoodF P w K mg base 2 "_law_deeds" ["_law_pot_here", "_law_most"] sp__law_deeds)
    (h2 : GoodF P w K mg base 1 "_law_draw" ["_law_pot_here", "_law_many"] sp__law_draw)
    (h3 : GoodF P w K mg base 3 "_law_moves" ["_law_pot_here", "_law_deeds_here", "_law_size"] sp__law_moves)
    (h4 : GoodC P w K mg base 5 "World" CW ["self", "deeds", "moves"] (sp_World_init K CW))
    (h5 : GoodF P w K mg base 6 "beside" ["one", "second"] (sp_beside K CR CO CT))
    (h6 : GoodF P w K mg base 1 "_law_pairs" ["_law_deeds_here", "_law_one", "_law_other"] sp__law_pairs)
    (h7 : GoodK mg "World" (.ref CW))
    (h8 : GoodP P w K mg base 1 CR "moves" (sp_World_moves K CR))
    (h9 : GoodF P w K mg base 3 "_law_row" ["_law_pot_here", "_law_deeds_here", "_law_most"] sp__law_row)
    (h10 : GoodF P w K mg base 2 "_law_led" ["_law_moves_here", "_law_standing", "_law_row_here"] sp__law_led)
    (h11 : GoodF P w K mg base 4 "led" ["world", "standing", "row"] (sp_led K))
    (h12 : GoodF P w K mg base 4 "move_of" ["world", "row"] (sp_move_of K))
    (h13 : GoodF P w K mg base 4 "order" ["world", "row"] (sp_order K))
    (h14 : GoodF P w K mg base 1 "_law_least" ["_law_one", "_law_other"] sp__law_least)
    (h15 : GoodF P w K mg base 7 "_law_asked" ["_law_one", "_law_other"] (sp__law_asked K CR CO CT))
    (h16 : GoodNe P w K mg base 1 CR (Alike K CR) ["self", "thing"])
    (h17 : GoodEq P w K mg base 1 CW (Alike K CW) ["self", "thing"]) :
    PSs (cxOf (L2.CX P w) P w K mg base N_law "law" (defScope s_law) f cdv A outer s H E) (defBody s_law) (t_law K CW CR CO CT) :=
  (pss_cons (ps_set (i := 1) sc_law.nd rfl (by first | exact Or.inl rfl | exact Or.inr rfl) (pe_f h0 (hr.mono (by decide)) (pa_cons (pv 0) pa_nil)))
      (pss_cons (ps_set (i := 2) sc_law.nd rfl (by first | exact Or.inl rfl | exact Or.inr rfl) (pe_f h1 (hr.mono (by decide)) (pa_cons (pv 1) (pa_cons pe_int pa_nil))))
      (pss_cons (ps_setLc (i := 3) (own := [("_law_k", 4)]) rfl sc_law.nd rfl rfl (sw_true rfl rfl rfl (by decide +kernel)) (pi_range1 rfl B.range (pa_cons pe_int pa_nil)) (blkOk_by (own := [("_law_k", 4)]) (N := N_law) (sc := defScope s_law) (by decide +kernel)) (fun _ _ _ _ _ => (pg_name (i := 4) sc_law.nd rfl (by first | exact Or.inl rfl | exact Or.inr rfl))) (fun _ _ _ _ _ => pts_nil) (fun _ _ _ _ _ => (pe_sub (hu_of hr) (pe_tup (pa_cons pe_int (pa_cons pe_int (pa_cons pe_int (pa_cons pe_int (pa_cons pe_int (pa_cons pe_int pa_nil))))))) (pe_f h2 (hr.mono (by decide)) (pa_cons (pv 1) (pa_cons pe_int pa_nil))))))
      (pss_cons (ps_set (i := 5) sc_law.nd rfl (by first | exact Or.inl rfl | exact Or.inr rfl) (pe_cmpR (op_eqA hr.units) (pe_f h2 (hr.mono (by decide)) (pa_cons (pv 1) (pa_cons pe_int pa_nil))) pe_int (nomark _)))
      (pss_cons (ps_if (pt_tr (pv 5)) (pss_one (ps_set (i := 3) sc_law.nd rfl (by first | exact Or.inl rfl | exact Or.inr rfl) (pe_lst (pa_cons pe_int (pa_cons pe_int (pa_cons (pe_op op_addA pe_int (pe_f h2 (hr.mono (by decide)) (pa_cons (pv 1) (pa_cons pe_int pa_nil)))) pa_nil)))))) pss_nil)
      (pss_cons (ps_setLc (i := 6) (own := [("_law_size", 7)]) rfl sc_law.nd rfl rfl (sw_true rfl rfl rfl (by decide +kernel)) (pi_seq (pv 3)) (blkOk_by (own := [("_law_size", 7)]) (N := N_law) (sc := defScope s_law) (by decide +kernel)) (fun _ _ _ _ _ => (pg_name (i := 7) sc_law.nd rfl (by first | exact Or.inl rfl | exact Or.inr rfl))) (fun _ _ _ _ _ => pts_nil) (fun _ _ _ _ _ => (pe_f h3 (hr.mono (by decide)) (pa_cons (pv 1) (pa_cons (pv 2) (pa_cons (pv 7) pa_nil))))))
      (pss_cons (ps_setLc (i := 8) (own := [("_law_move", 9)]) rfl sc_law.nd rfl rfl (sw_true rfl rfl rfl (by decide +kernel)) (pi_seq (pv 6)) (blkOk_by (own := [("_law_move", 9)]) (N := N_law) (sc := defScope s_law) (by decide +kernel)) (fun _ _ _ _ _ => (pg_name (i := 9) sc_law.nd rfl (by first | exact Or.inl rfl | exact Or.inr rfl))) (fun _ _ _ _ _ => pts_nil) (fun _ _ _ _ _ => (pe_new h4 (hr.mono (by decide)) (pa_cons (pv 2) (pa_cons (pv 9) pa_nil)))))
      (pss_cons (ps_set (i := 10) sc_law.nd rfl (by first | exact Or.inl rfl | exact Or.inr rfl) (pe_f h5 (hr.mono (by decide)) (pa_cons (pe_sub (hu_of hr) (pv 8) pe_int) (pa_cons (pe_sub (hu_of hr) (pv 8) pe_int) pa_nil))))
      (pss_cons (ps_set (i := 11) sc_law.nd rfl (by first | exact Or.inl rfl | exact Or.inr rfl) (pe_f h6 (hr.mono (by decide)) (pa_cons (pv 2) (pa_cons (pe_sub (hu_of hr) (pv 6) pe_int) (pa_cons (pe_sub (hu_of hr) (pv 6) pe_int) pa_nil)))))
      (pss_cons (ps_if (PW.pt (pw_or (pt_not (pt_tr (pe_callB cr_isi (by rfl) B.isinstance (by decide +kernel) (pa_cons (pv 10) (pa_cons (pe_gk h7) pa_nil))))) (pw_or (pt_cmpR (op_neA hr.units) (pe_fld (pv 10) rfl) (pv 2) (nomark _)) (pw_or (pt_cmpR (op_neDT hr.units) (pe_pr h8 (hr.mono (by decide)) (pv 10)) (pv 11) (nomark _)) (pw_or1 (pt_cmpR (op_neA hr.units) (pe_fld (pv 10) rfl) (pe_op op_mulA (pe_sub (hu_of hr) (pv 3) pe_int) (pe_sub (hu_of hr) (pv 3) pe_int)) (nomark _))))))) (pss_one (ps_ret pe_bl)) pss_nil)
      (pss_cons (ps_set (i := 12) sc_law.nd rfl (by first | exact Or.inl rfl | exact Or.inr rfl) (pe_f h9 (hr.mono (by decide)) (pa_cons (pv 1) (pa_cons (pv 2) (pa_cons pe_int pa_nil)))))
      (pss_cons (ps_par rfl sc_law.nd rfl rfl (by decide) rfl rfl (pa_cons (pe_f h2 (hr.mono (by decide)) (pa_cons (pv 1) (pa_cons (pe_sub (hu_of hr) (pv 3) pe_int) pa_nil))) (pa_cons (pe_f h2 (hr.mono (by decide)) (pa_cons (pv 1) (pa_cons (pe_sub (hu_of hr) (pv 3) pe_int) pa_nil))) pa_nil)) (by rfl))
      (pss_cons (ps_set (i := 15) sc_law.nd rfl (by first | exact Or.inl rfl | exact Or.inr rfl) (pe_op op_addA (pe_op op_mulA (pe_f h10 (hr.mono (by decide)) (pa_cons (pe_sub (hu_of hr) (pv 6) pe_int) (pa_cons (pv 13) (pa_cons (pv 12) pa_nil)))) (pe_sub (hu_of hr) (pv 3) pe_int)) (pe_f h10 (hr.mono (by decide)) (pa_cons (pe_sub (hu_of hr) (pv 6) pe_int) (pa_cons (pv 14) (pa_cons (pv 12) pa_nil))))))
      (pss_cons (ps_if (PW.pt (pw_or (pt_cmpR (op_neA hr.units) (pe_f h11 (hr.mono (by decide)) (pa_cons (pv 10) (pa_cons (pe_op op_addA (pe_op op_mulA (pv 13) (pe_sub (hu_of hr) (pv 3) pe_int)) (pv 14)) (pa_cons (pv 12) pa_nil)))) (pv 15) (nomark _)) (pw_or1 (pt_cmpR (op_neA hr.units) (pe_sub (hu_of hr) (pe_f h12 (hr.mono (by decide)) (pa_cons (pv 10) (pa_cons (pv 12) pa_nil))) (pe_op op_addA (pe_op op_mulA (pv 13) (pe_sub (hu_of hr) (pv 3) pe_int)) (pv 14))) (pv 15) (nomark _))))) (pss_one (ps_ret pe_bl)) pss_nil)
      (pss_cons (ps_if (PW.pt (pw_and (pt_not (pt_tr (pv 5))) (pw_and1 (pt_cmpR (op_neA hr.units) (pe_f h13 (hr.mono (by decide)) (pa_cons (pv 10) (pa_cons (pv 12) pa_nil))) (pe_f h14 (hr.mono (by decide)) (pa_cons (pe_f h13 (hr.mono (by decide)) (pa_cons (pe_sub (hu_of hr) (pv 8) pe_int) (pa_cons (pv 12) pa_nil))) (pa_cons (pe_f h13 (hr.mono (by decide)) (pa_cons (pe_sub (hu_of hr) (pv 8) pe_int) (pa_cons (pv 12) pa_nil))) pa_nil))) (nomark _))))) (pss_one (ps_ret pe_bl)) pss_nil)
      (pss_cons (ps_set (i := 16) sc_law.nd rfl (by first | exact Or.inl rfl | exact Or.inr rfl) (pe_f h15 (hr.mono (by decide)) (pa_cons (pv 10) (pa_cons (pe_sub (hu_of hr) (pv 8) pe_int) pa_nil))))
      (pss_cons (ps_if (pt_cmpR op_gtA (pe_op op_mulA (pe_op op_mulA (pe_sub (hu_of hr) (pv 3) pe_int) (pe_sub (hu_of hr) (pv 3) pe_int)) (pe_sub (hu_of hr) (pv 3) pe_int)) pe_int (nomark _)) (pss_one (ps_if (PW.pt (pw_or (pt_cmpR (op_neA hr.units) (pv 16) (pe_tup (pa_cons pe_str (pa_cons pe_int pa_nil))) (nomark _)) (pw_or1 (pt_cmpR (op_neA hr.units) (pe_f h15 (hr.mono (by decide)) (pa_cons (pe_sub (hu_of hr) (pv 8) pe_int) (pa_cons (pv 10) pa_nil))) (pe_tup (pa_cons pe_str (pa_cons pe_int pa_nil))) (nomark _))))) (pss_one (ps_ret pe_bl)) pss_nil)) (pss_one (ps_if (PW.pt (pw_or (pt_cmpR (op_neA hr.units) (pe_sub (hu_of hr) (pv 16) pe_int) pe_str (nomark _)) (pw_or1 (pt_cmpR (op_neDT hr.units) (pe_pr h8 (hr.mono (by decide)) (pe_sub (hu_of hr) (pv 16) pe_int)) (pe_f h6 (hr.mono (by decide)) (pa_cons (pv 2) (pa_cons (pv 11) (pa_cons (pe_sub (hu_of hr) (pv 6) pe_int) pa_nil)))) (nomark _))))) (pss_one (ps_ret pe_bl)) (pss_one (ps_if (pt_cmpR (op_neW h16 (hr.mono (by decide))) (pe_sub (hu_of hr) (pv 16) pe_int) (pe_f h5 (hr.mono (by decide)) (pa_cons (pe_sub (hu_of hr) (pv 8) pe_int) (pa_cons (pe_f h5 (hr.mono (by decide)) (pa_cons (pe_sub (hu_of hr) (pv 8) pe_int) (pa_cons (pe_sub (hu_of hr) (pv 8) pe_int) pa_nil))) pa_nil))) (nomark _)) (pss_one (ps_ret pe_bl)) pss_nil)))))
      (pss_cons (ps_set (i := 17) sc_law.nd rfl (by first | exact Or.inl rfl | exact Or.inr rfl) (pe_sub (hu_of hr) (pe_lc (own := [("_law_sign", 18)]) rfl sc_law.nd (pi_seq pe_str) (blkOk_by (own := [("_law_sign", 18)]) (N := N_law) (sc := defScope s_law) (by decide +kernel)) (fun _ _ _ _ _ => (pg_name (i := 18) sc_law.nd rfl (by first | exact Or.inl rfl | exact Or.inr rfl))) (fun _ _ _ _ _ => (pts_one (pt_nin (hu_of hr) (pv 18) (pv 2)))) (fun _ _ _ _ _ => (pv 18))) pe_int))
      (pss_cons (ps_set (i := 19) sc_law.nd rfl (by first | exact Or.inl rfl | exact Or.inr rfl) (pe_jn pe_str (pe_callB (cr_sortedZ rfl) (by rfl) B.sorted (by decide +kernel) (pa_cons (pe_op op_addA (pe_slice sl_any (pv 2) (po_some pe_int) po_none) (pv 17)) pa_nil))))
      (pss_cons (ps_set (i := 20) sc_law.nd rfl (by first | exact Or.inl rfl | exact Or.inr rfl) (pe_new h4 (hr.mono (by decide)) (pa_cons (pv 19) (pa_cons (pe_f h3 (hr.mono (by decide)) (pa_cons (pv 1) (pa_cons (pv 19) (pa_cons (pe_sub (hu_of hr) (pv 3) pe_int) pa_nil)))) pa_nil))))
      (pss_cons (ps_if (PW.pt (pw_or (pt_cmpR (op_neA hr.units) (pe_f h15 (hr.mono (by decide)) (pa_cons (pe_sub (hu_of hr) (pv 8) pe_int) (pa_cons (pv 20) pa_nil))) (pe_tup (pa_cons pe_str (pa_cons pe_non pa_nil))) (nomark _)) (pw_or1 (pt_cmpR (op_neA hr.units) (pe_f h15 (hr.mono (by decide)) (pa_cons (pv 20) (pa_cons (pv 10) pa_nil))) (pe_tup (pa_cons pe_str (pa_cons pe_non pa_nil))) (nomark _))))) (pss_one (ps_ret pe_bl)) pss_nil)
      (pss_one (ps_ret (pe_and (pe_cmpR (op_eqW h17 (hr.mono (by decide))) (pe_sub (hu_of hr) (pv 8) pe_int) (pe_new h4 (hr.mono (by decide)) (pa_cons (pv 2) (pa_cons (pe_sub (hu_of hr) (pv 6) pe_int) pa_nil))) (nomark _)) (pe_one (pe_cmpR (op_eqW h17 (hr.mono (by decide))) (pe_sub (hu_of hr) (pv 8) pe_int) (pe_new h4 (hr.mono (by decide)) (pa_cons (pv 2) (pa_cons (pe_sub (hu_of hr) (pv 6) pe_int) pa_nil))) (nomark _)))))))))))))))))))))))))))
end Rb

set_option maxHeartbeats 2000000
/-! readings taken step by step -/
namespace Rb
open PySem PySem.Spec PyProof.Rows L2

section
variable {K : PySem.W.Frag} {σ : L2.St} {H : Hp} {D : Ends} {Q : VK} {E : XK} {i j n m : Nat} {v x y z : V} {ta tb tc te tv : TE} {t u : TT} {r r' : R2} {t1 t2 : TS} {g : TG} {a p : Addr} {A B C : Prop}
variable {QB : Bool → Hp → Prop}
/-! statements -/
theorem i_seq (h : t1 { D with nx := t2 D } σ H) : tSeq t1 t2 D σ H := h
theorem i_nx (h : D.nx σ H) : tNext D σ H := h
theorem i_ret (h : te σ H D.rt) : tRet te D σ H := h
theorem i_retN (h : D.rt .non H) : tRetN D σ H := h
theorem i_drop (h : te σ H fun _ H1 => D.nx σ H1) : tDrop te D σ H := h
theorem i_ifS (h : t σ H fun b H1 => if b = true then t1 D σ H1 else t2 D σ H1) : tIfS t t1 t2 D σ H := h
theorem i_asg (h : te σ H fun x H1 => g x σ H1 D.nx) : tAsg te g D σ H := h
theorem i_aug {f : Int → Int → Int} {k l : Int} (h : σ[i]? = some (some (.int k))) (h2 : te σ H fun y H1 => ipI f (.int k) y H1 fun z H2 => D.nx (σ.set i (some z)) H2) : tAug i te (ipI f) D σ H := ⟨_, h, h2⟩
theorem i_par {ta : TA} (h : ta σ H fun vs H1 => ∃ v w, vs = [v, w] ∧ D.nx ((σ.set i (some v)).set j (some w)) H1) : tPar i j ta D σ H := h
theorem i_par2 {x y : V} (h : D.nx ((σ.set i (some x)).set j (some y)) H) : ∃ v w, [x, y] = [v, w] ∧ D.nx ((σ.set i (some v)).set j (some w)) H := ⟨x, y, rfl, h⟩
theorem i_name {Q : L2.St → Hp → Prop} (h : Q (σ.set i (some v)) H) : gName i v σ H Q := h
theorem i_sub {to ti : TE} {tt : TSet} {Q : L2.St → Hp → Prop} (h : to σ H fun o H1 => ti σ H1 fun i H2 => tt o i v H2 fun H3 => Q σ H3) : gSub to ti tt v σ H Q := h
/-! branches -/
theorem ite_t (h : A) : if true = true then A else B := h
theorem ite_f (h : B) : if false = true then A else B := h
theorem ite_d [Decidable C] (h : C → A) (h' : ¬ C → B) : if (decide C) = true then A else B := by
  by_cases c : C
  · rw [if_pos (decide_eq_true c)]
    exact h c
  · rw [if_neg (by simp [c])]
    exact h' c
theorem ite_nd [Decidable C] (h : C → B) (h' : ¬ C → A) : if (!decide C) = true then A else B := by
  by_cases c : C
  · rw [if_neg (by simp [c])]
    exact h c
  · rw [if_pos (by simp [c])]
    exact h' c
theorem not_t (h : QB false H) : QB (!true) H := h
theorem not_f (h : QB true H) : QB (!false) H := h
/-! tests -/
theorem i_test (h : te σ H fun x H' => ∃ k, x = .bl k ∧ QB k H') : tTest te σ H QB := h
theorem i_bl {b : Bool} {QB : Bool → Prop} (h : QB b) : ∃ k, V.bl b = .bl k ∧ QB k := ⟨b, rfl, h⟩
theorem i_not (h : t σ H fun c H1 => QB (!c) H1) : tNot t σ H QB := h
theorem i_and (h : t σ H fun c H1 => if c = true then u σ H1 QB else QB false H1) : tAnd t u σ H QB := h
theorem i_or (h : t σ H fun c H1 => if c = true then QB true H1 else u σ H1 QB) : tOr t u σ H QB := h
theorem i_tr (h : ta σ H fun x H' => ∃ k, TruV K x H' k ∧ QB k H') : tTr K ta σ H QB := h
theorem i_trb {b : Bool} {QB : Bool → Prop} (h : QB b) : ∃ k, TruV K (.bl b) H k ∧ QB k := ⟨b, rfl, h⟩
theorem i_yes (h : QB true H) : tYes σ H QB := h
theorem i_chain (h : ta σ H fun x H1 => tb σ H1 fun y H2 => r x y H2 fun z H3 => ∃ k, z = .bl k ∧ if k = true then tc σ H3 fun w H4 => r' y w H4 Q else Q (.bl false) H3) : tChain r r' ta tb tc σ H Q := h
/-! expressions -/
theorem i_var (h : σ[i]? = some (some v)) (q : Q v H) : tVar i σ H Q := ⟨v, h, q⟩
theorem i_c (q : Q v H) : tC v σ H Q := q
theorem i_op (h : ta σ H fun x H1 => tb σ H1 fun y H2 => r x y H2 Q) : tOp r ta tb σ H Q := h
theorem i_if (h : t σ H fun c H1 => if c = true then ta σ H1 Q else tb σ H1 Q) : tIf t ta tb σ H Q := h
theorem i_andV (h : ta σ H fun x H1 => ∃ c, x = .bl c ∧ if c = true then tb σ H1 Q else Q (.bl false) H1) : tAndV ta tb σ H Q := h
theorem i_orV (h : ta σ H fun x H1 => ∃ c, x = .bl c ∧ if c = true then Q (.bl true) H1 else tb σ H1 Q) : tOrV ta tb σ H Q := h
theorem i_notV (h : ta σ H fun x H1 => ∃ c, x = .bl c ∧ Q (.bl (!c)) H1) : tNotV ta σ H Q := h
theorem ite_nt (h : B) : if (!true) = true then A else B := h
theorem ite_nf (h : A) : if (!false) = true then A else B := h
theorem i_nil {Q : List V → Hp → Prop} (h : Q [] H) : tNil σ H Q := h
theorem i_cons {tr : TA} {Q : List V → Hp → Prop} (h : ta σ H fun x H1 => tr σ H1 fun xs H2 => Q (x :: xs) H2) : tCons ta tr σ H Q := h
theorem i_cb {tt : TA} {rr : List V → Hp → VK → Prop} (h : tt σ H fun vs H1 => rr vs H1 Q) : tCB rr tt σ H Q := h
theorem i_call {sp : Sp} {tt : TA} (h : tt σ H fun vs H1 => sp (vs ++ []) H1 Q E) : tCall sp [] E tt σ H Q := h
theorem i_callS {sp : Sp} {W : L2.St → XK} {tt : TA} (h : tt σ H fun vs H1 => sp vs H1 Q (W σ)) : tCallS sp W tt σ H Q := h
theorem i_lst {tt : TA} (h : tt σ H fun xs H1 => xs.length ≤ sizeLine ∧ ∀ p, H1 p = none → Q (.ref p) (upd H1 p (.lst xs))) : tLst tt σ H Q := h
theorem i_tup {tt : TA} (h : tt σ H fun xs H1 => xs.length ≤ sizeLine ∧ ∀ p, H1 p = none → Q (.ref p) (upd H1 p (.tup xs))) : tTup tt σ H Q := h
theorem i_meth {C : Addr} {m : Str} {sp : Sp} {tt : TA} (h : ta σ H fun x H1 => ∃ a dx fs, x = .ref a ∧ H1 a = some (.ins C dx fs) ∧ fs.lookup m = none ∧ tt σ H1 fun vs H2 => sp (x :: (vs ++ [])) H2 Q E) : tMeth C m sp [] E ta tt σ H Q := h
theorem i_ix (h : ta σ H fun x H1 => tb σ H1 fun y H2 => rIx K x y H2 Q) : tIx K ta tb σ H Q := .inl h
theorem i_ixd (h : ta σ H fun x H1 => tb σ H1 fun y H2 => ∃ a v, x = .ref a ∧ DGet H2 a y (some v) ∧ Q v H2) : tIx K ta tb σ H Q := .inr h
theorem i_m0 {rr : V → List V → Hp → VK → Prop} (h : ta σ H fun x H1 => (∃ a, x = .str a) ∧ rr x [] H1 Q) : tM0 rr ta σ H Q := h
theorem i_m1 {rr : V → List V → Hp → VK → Prop} (h : ta σ H fun x H1 => (∃ a, x = .str a) ∧ tb σ H1 fun y H2 => rr x [y] H2 Q) : tM1 rr ta tb σ H Q := h
theorem i_bm {T : String} {rr : V → List V → Hp → VK → Prop} {tt : TA} (h : ta σ H fun x H1 => tyV K T x H1 ∧ tt σ H1 fun xs H2 => rr x xs H2 Q) : tBM K T rr ta tt σ H Q := h
theorem i_dnew (h : ∀ p, H p = none → Q (.ref p) (upd H p (.dK []))) : tDNewK σ H Q := h
/-! operators on ints that count -/
theorem o_add1 (h : Q (iv (n + 1)) H) : oAdd (iv n) (.int 1) H Q := .inl ⟨_, _, rfl, rfl, h⟩
theorem o_add (h : Q (iv (n + m)) H) : oAdd (iv n) (iv m) H Q := .inl ⟨_, _, rfl, rfl, by
  have e : ((n : Int) + (m : Int)) = ((n + m : Nat) : Int) := by omega
  show Q (.int ((n : Int) + m)) H
  rw [e]; exact h⟩
theorem o_addI {k l : Int} (h : Q (.int (k + l)) H) : oAdd (.int k) (.int l) H Q := .inl ⟨_, _, rfl, rfl, h⟩
theorem o_addS {k l : Str} (hl : k.length + l.length ≤ sizeLine) (h : Q (.str (k ++ l)) H) : oAdd (.str k) (.str l) H Q := .inr (.inl ⟨_, _, rfl, rfl, hl, h⟩)
theorem o_subI {k l : Int} (h : Q (.int (k - l)) H) : oSub (.int k) (.int l) H Q := ⟨_, _, rfl, rfl, h⟩
theorem o_mul (hn : n < 2 ^ 64) (h : Q (iv (n * m)) H) : oMul (iv n) (iv m) H Q := ⟨_, _, rfl, rfl, .inl ⟨by omega, by omega⟩, by
  have e : ((n : Int) * (m : Int)) = ((n * m : Nat) : Int) := (Int.natCast_mul n m).symm
  show Q (.int ((n : Int) * m)) H
  rw [e]; exact h⟩
theorem o_mulI {k l : Int} (hc : CMul k l) (h : Q (.int (k * l)) H) : oMul (.int k) (.int l) H Q := ⟨_, _, rfl, rfl, hc, h⟩
theorem o_div (hm : 0 < m) (hb : m < 1073741824) (h : Q (iv (n / m)) H) : oDiv (iv n) (iv m) H Q := .inl ⟨_, _, rfl, rfl, ⟨by omega, by simpa using hb⟩, by
  have e : ((n : Int).fdiv (m : Int)) = ((n / m : Nat) : Int) := by rw [Int.fdiv_eq_ediv_of_nonneg _ (by omega), Int.natCast_ediv]
  show Q (.int ((n : Int).fdiv m)) H
  rw [e]; exact h⟩
theorem o_divI {k l : Int} (hl : l ≠ 0) (hb : l.natAbs < 1073741824) (h : Q (.int (k.fdiv l)) H) : oDiv (.int k) (.int l) H Q := .inl ⟨_, _, rfl, rfl, ⟨hl, hb⟩, h⟩
theorem o_mod (hm : 0 < m) (h : Q (iv (n % m)) H) : oMod (iv n) (iv m) H Q := ⟨_, _, rfl, rfl, by show (m : Int) ≠ 0; omega, by
  have e : ((n : Int).fmod (m : Int)) = ((n % m : Nat) : Int) := by rw [Int.fmod_eq_emod_of_nonneg _ (by omega), Int.natCast_emod]
  show Q (.int ((n : Int).fmod m)) H
  rw [e]; exact h⟩
theorem o_modI {k l : Int} (hl : l ≠ 0) (h : Q (.int (k.fmod l)) H) : oMod (.int k) (.int l) H Q := ⟨_, _, rfl, rfl, hl, h⟩
theorem o_lt {k l : Int} (h : Q (.bl (decide (k < l))) H) : cLt (.int k) (.int l) H Q := .inl ⟨_, _, rfl, rfl, h⟩
theorem o_le {k l : Int} (h : Q (.bl (decide (k ≤ l))) H) : cLe (.int k) (.int l) H Q := ⟨_, _, rfl, rfl, h⟩
theorem o_gt {k l : Int} (h : Q (.bl (decide (l < k))) H) : cGt (.int k) (.int l) H Q := ⟨_, _, rfl, rfl, h⟩
theorem o_ge {k l : Int} (h : Q (.bl (decide (l ≤ k))) H) : cGe (.int k) (.int l) H Q := .inl ⟨_, _, rfl, rfl, h⟩
theorem o_eqI {k l : Int} (h : Q (.bl (decide (k = l))) H) : cEq K (.int k) (.int l) H Q := .inl ⟨rfl, by
  have e : decide (V.int k = V.int l) = decide (k = l) := by
    by_cases c : k = l <;> simp [c]
  rw [e]; exact h⟩
theorem o_neI {k l : Int} (h : Q (.bl (!decide (k = l))) H) : cNe K (.int k) (.int l) H Q := .inl ⟨rfl, by
  have e : decide (V.int k = V.int l) = decide (k = l) := by
    by_cases c : k = l <;> simp [c]
  rw [e]; exact h⟩
theorem o_eqS {k l : Str} (h : Q (.bl (decide (k = l))) H) : cEq K (.str k) (.str l) H Q := .inl ⟨rfl, by
  have e : decide (V.str k = V.str l) = decide (k = l) := by
    by_cases c : k = l <;> simp [c]
  rw [e]; exact h⟩
theorem o_neS {k l : Str} (h : Q (.bl (!decide (k = l))) H) : cNe K (.str k) (.str l) H Q := .inl ⟨rfl, by
  have e : decide (V.str k = V.str l) = decide (k = l) := by
    by_cases c : k = l <;> simp [c]
  rw [e]; exact h⟩
/-! built-ins -/
theorem o_isi {t : Value} {c : V} {w : Value} {b : Bool} (k : ClsV c w) (ty : TyX K H x t) (e : PySem.W.kitOne K t w = some b) (h : Q (.bl b) H) : oIsi K [x, c] H Q := .inl ⟨x, c, t, w, b, rfl, k, ty, e, h⟩
theorem kit_same {t : Value} : PySem.W.kitOne K t t = some true := if_pos (beq_self_eq_true t)
theorem o_isi_int {k : Int} (h : Q (.bl true) H) : oIsi K [.int k, .ty "int"] H Q := o_isi (.ty _) (.base (.int _)) kit_same h
theorem o_isi_str {k : Str} (h : Q (.bl true) H) : oIsi K [.str k, .ty "str"] H Q := o_isi (.ty _) (.base (.str _)) kit_same h
theorem o_isi_bool {k : Int} (h : Q (.bl false) H) : oIsi K [.int k, .ty "bool"] H Q := o_isi (.ty _) (.base (.int _)) (by
  show (if (Value.type "int" == Value.type "bool") = true then some true else PySem.W.kitCls K (.type "int") (.type "bool")) = some false
  rw [if_neg (by decide)]
  show (if PySem.W.kitMeta "bool" = true then PySem.W.subIn K (.type "int") (.type "bool") else none) = some false
  rw [if_pos (by decide +kernel)]
  rfl) h
theorem o_isi_tup {xs : List V} (e : Rd H a (.tup xs)) (h : Q (.bl true) H) : oIsi K [.ref a, .ty "tuple"] H Q := by
  rcases e with e | ⟨o, e⟩
  · exact o_isi (.ty _) (.base (.tup e)) kit_same h
  · exact o_isi (.ty _) (.fTuple e) kit_same h
theorem o_isi_dict {kvs : List (Key × V)} (e : Rd H a (.dK kvs)) (h : Q (.bl true) H) : oIsi K [.ref a, .ty "dict"] H Q := by
  rcases e with e | ⟨o, e⟩
  · exact o_isi (.ty _) (.base (.dK e)) kit_same h
  · exact o_isi (.ty _) (.fDict e) kit_same h
theorem o_len_s {z : List Nat} (hz : z.length ≤ sizeLine) (h : Q (iv z.length) H) : oLen K [S z] H Q := .inl ⟨_, _, rfl, ⟨by show (T z).length ≤ _; exact hz, rfl⟩, h⟩
theorem o_len_l {xs : List V} (e : SqL K H a xs) (h : Q (iv xs.length) H) : oLen K [.ref a] H Q := .inl ⟨_, _, rfl, .inl ⟨xs, e, rfl⟩, h⟩
theorem o_len_t {xs : List V} (e : SqT K H a xs) (h : Q (iv xs.length) H) : oLen K [.ref a] H Q := .inl ⟨_, _, rfl, .inr ⟨xs, e, rfl⟩, h⟩
theorem o_len_d {kvs : List (Key × V)} (e : H a = some (.dK kvs)) (h : Q (iv kvs.length) H) : oLen K [.ref a] H Q := .inr (.inl ⟨_, _, rfl, e, h⟩)
theorem o_ix_t {xs : List V} (e : SqT K H a xs) (hv : xs[i]? = some v) (h : Q v H) : rIx K (.ref a) (iv i) H Q := .inr (.inl ⟨_, _, _, _, rfl, rfl, e, atI_nat hv, h⟩)
theorem o_ix_l {xs : List V} (e : SqL K H a xs) (hv : xs[i]? = some v) (h : Q v H) : rIx K (.ref a) (iv i) H Q := .inl ⟨_, _, _, _, rfl, rfl, e, atI_nat hv, h⟩
theorem o_ix_s {z : List Nat} {c : Nat} (hz : z.length ≤ sizeLine) (hv : z[i]? = some c) (h : Q (S [c]) H) : rIx K (S z) (iv i) H Q := .inr (.inr ⟨_, _, _, rfl, rfl, by show (T z).length ≤ _; exact hz, atI_nat hv, h⟩)
theorem o_tuple {xs : List V} (e : SqL K H a xs) (h : ∀ l, H l = none → Q (.ref l) (upd H l (.tup xs))) : oTupleA K [.ref a] H Q := .inl ⟨a, xs, rfl, .inl ⟨e, h⟩⟩
theorem o_tupleX {xs : List V} (e : SqL K H a xs) (h : ∀ l o, H l = none → o.cls = .type "tuple" → o.dict = none → Q (.ref l) (upd H l (.frz o (.tup xs)))) : oTupleA K [.ref a] H Q := .inr ⟨a, xs, rfl, e, h⟩
theorem o_put {xs : List V} {to ti : TE} (h : tv σ H fun x H1 => gSub to ti rSetL x σ H1 D.nx) : sPut to ti tv D σ H := .inl h
theorem o_setL {xs : List V} {Q : Hp → Prop} (e : H a = some (.lst xs)) (hi : i < xs.length) (h : Q (upd H a (.lst (xs.set i v)))) : rSetL (.ref a) (iv i) v H Q := ⟨_, _, _, _, rfl, rfl, e, by unfold ixN; rw [if_pos (by omega), if_pos (by omega), Int.toNat_natCast], h⟩
theorem i_fld {f : Str} (h : ta σ H fun x H1 => ∃ a C dx fs v, x = .ref a ∧ H1 a = some (.ins C dx fs) ∧ Cls K C ∧ NoAttr K C f ∧ fs.lookup f = some v ∧ Q v H1) : tFld K ta f σ H Q := h
end

/-! one step: the reading's head says which -/
local macro_rules | `(tactic| trivial) => `(tactic| with_reducible first
  | refine i_seq ?_ | refine i_nx ?_ | refine i_ret ?_ | refine i_retN ?_ | refine i_drop ?_ | refine i_ifS ?_ | refine i_asg ?_ | refine i_name ?_ | refine i_sub ?_
  | refine ite_t ?_ | refine ite_f ?_ | refine not_t ?_ | refine not_f ?_ | refine i_test ?_ | refine i_bl ?_ | refine i_not ?_ | refine i_and ?_ | refine i_or ?_ | refine i_tr ?_ | refine i_trb ?_ | refine i_yes ?_ | refine i_chain ?_
  | refine i_var rfl ?_ | refine i_c ?_ | refine i_op ?_ | refine i_if ?_ | refine i_andV ?_ | refine i_orV ?_ | refine i_notV ?_ | refine ite_nt ?_ | refine ite_nf ?_ | refine i_nil ?_ | refine i_cons ?_ | refine i_cb ?_ | refine i_call ?_ | refine i_callS ?_)

end Rb

set_option maxHeartbeats 2000000
/-! loops, comprehensions -/
namespace Rb
open PySem PySem.Spec PyProof.Rows L2
abbrev fin (Q : VK) : Ends := { nx := fun _ H' => Q .non H', rt := Q }
def ForW (J : It) (g : TG) (tb : TS) (D : Ends) (σ : L2.St) (H : Hp) : Prop :=
  ∃ W : Nat → Nat → L2.St → Hp → Prop, (∃ m, W 0 m σ H) ∧ ∀ i m σ H, W i m σ H →
      (J.stop i H ∧ D.nx σ H) ∨ (J.go i H ∧ ∃ N : L2.St → Hp → Prop, (∀ σ' H', N σ' H' → ∃ m', m' < m ∧ W (i + 1) m' σ' H') ∧ ∀ x H', J.yld i H x H' → g x σ H' fun σ2 H2 => tb { D with nx := N, ct := N, bk := D.nx } σ2 H2)
def LcW (J : It) (g : TG) (tt : TT) (te : TE) (vs : List Nat) (σ : L2.St) (H1 : Hp) (Q : VK) : Prop := ∀ D, H1 D = none → ∃ W : Nat → Nat → Hp → Prop, (∃ m, W 0 m (upd H1 D (.lst []))) ∧ ∀ i m H, W i m H →
  (J.stop i H ∧ Q (.ref D) H) ∨ (J.go i H ∧ ∃ Nx : Hp → Prop, (∀ H', Nx H' → ∃ m', m' < m ∧ W (i + 1) m' H') ∧ ∀ x H', J.yld i H x H' → g x (wipe σ vs) H' fun σ2 H2 => wipe σ2 vs = wipe σ vs ∧ tt σ2 H2 fun b H3 =>
    if b = true then te σ2 H3 fun y H4 => ∃ acc, H4 D = some (.lst acc) ∧ acc.length < sizeLine ∧ Nx (upd H4 D (.lst (acc ++ [y]))) else Nx H3)
def DcW (J : It) (g : TG) (tt : TT) (tk tv : TE) (vs : List Nat) (σ : L2.St) (H1 : Hp) (Q : VK) : Prop := ∀ D, H1 D = none → ∃ W : Nat → Nat → Hp → Prop, (∃ m, W 0 m (upd H1 D (.dK []))) ∧ ∀ i m H, W i m H →
  (J.stop i H ∧ Q (.ref D) H) ∨ (J.go i H ∧ ∃ Nx : Hp → Prop, (∀ H', Nx H' → ∃ m', m' < m ∧ W (i + 1) m' H') ∧ ∀ x H', J.yld i H x H' → g x (wipe σ vs) H' fun σ2 H2 => wipe σ2 vs = wipe σ vs ∧ tt σ2 H2 fun b H3 =>
    if b = true then tk σ2 H3 fun y H4 => tv σ2 H4 fun z H5 => ∃ kvs k, y = kV k ∧ H5 D = some (.dK kvs) ∧ kvs.length < sizeLine ∧ Nx (upd H5 D (.dK (putK kvs k z))) else Nx H3)
/-- the inner walk of a comprehension with two fors -/
def InW (J1 : It) (g1 : TG) (tt1 : TT) (te : TE) (vs1 : List Nat) (σ2 : L2.St) (D : Addr) (Nx : Hp → Prop) (H4 : Hp) : Prop := ∃ W1 : Nat → Nat → Hp → Prop, (∃ m, W1 0 m H4) ∧ ∀ j k H, W1 j k H →
      (J1.stop j H ∧ Nx H) ∨ (J1.go j H ∧ ∃ Nx1 : Hp → Prop, (∀ H', Nx1 H' → ∃ k', k' < k ∧ W1 (j + 1) k' H') ∧ ∀ x H', J1.yld j H x H' → g1 x (wipe σ2 vs1) H' fun σ3 H5 => wipe σ3 vs1 = wipe σ2 vs1 ∧ tt1 σ3 H5 fun b H6 =>
        if b = true then te σ3 H6 fun y H7 => ∃ acc, H7 D = some (.lst acc) ∧ acc.length < sizeLine ∧ Nx1 (upd H7 D (.lst (acc ++ [y]))) else Nx1 H6)
section
variable {K : PySem.W.Frag} {σ : L2.St} {H : Hp} {D : Ends} {Q : VK} {n m : Nat} {te tk tv tl : TE} {ta : TA} {tt : TT} {g : TG} {tb : TS} {vs : List Nat} {J : It} {G : Hp → Prop} {Y : Nat → Hp → V → Hp → Prop}
/-! entries -/
theorem i_for_s (h : te σ H fun v H1 => ∃ x, v = .str x ∧ ForW (Its x) g tb D σ H1) : tFor (iSeq K te) g tb D σ H := .inr (.inr h)
theorem i_for_t (h : te σ H fun v H1 => ∃ a, v = .ref a ∧ (∃ xs, SqT K H1 a xs) ∧ ForW (Itt K a) g tb D σ H1) : tFor (iSeq K te) g tb D σ H := .inr (.inl h)
theorem i_for_l (h : te σ H fun v H1 => ∃ a, v = .ref a ∧ (∃ xs, SqL K H1 a xs) ∧ ForW (Itl K a) g tb D σ H1) : tFor (iSeq K te) g tb D σ H := .inl h
theorem i_for_r (h : ta σ H fun vs H1 => ∃ j : Int, vs = [.int j] ∧ -(2 ^ 62) ≤ j ∧ j < 2 ^ 62 ∧ ForW (Itr 0 j.toNat) g tb D σ H1) : tFor (iRng1 ta) g tb D σ H := h
theorem i_for_r2 (h : ta σ H fun vs H1 => ∃ i j : Int, vs = [.int i, .int j] ∧ (-(2 ^ 62) ≤ i ∧ i < 2 ^ 62 ∧ -(2 ^ 62) ≤ j ∧ j < 2 ^ 62) ∧ ForW (Itr i (j - i).toNat) g tb D σ H1) : tFor (iRng2 ta) g tb D σ H := h
theorem i_for_et (h : ta σ H fun vs H1 => ∃ a xs, vs = [.ref a] ∧ SqT K H1 a xs ∧ ForW (Itn K a) g tb D σ H1) : tFor (iEn K ta) g tb D σ H := .inr h
theorem i_lc_s (h : tl σ H fun v H1 => ∃ x, v = .str x ∧ LcW (Its x) g tt te vs σ H1 Q) : tLc (iSeq K tl) g tt te vs σ H Q := .inr (.inr h)
theorem i_lc_t (h : tl σ H fun v H1 => ∃ a, v = .ref a ∧ (∃ xs, SqT K H1 a xs) ∧ LcW (Itt K a) g tt te vs σ H1 Q) : tLc (iSeq K tl) g tt te vs σ H Q := .inr (.inl h)
theorem i_lc_l (h : tl σ H fun v H1 => ∃ a, v = .ref a ∧ (∃ xs, SqL K H1 a xs) ∧ LcW (Itl K a) g tt te vs σ H1 Q) : tLc (iSeq K tl) g tt te vs σ H Q := .inl h
theorem i_lc_r (h : ta σ H fun us H1 => ∃ j : Int, us = [.int j] ∧ -(2 ^ 62) ≤ j ∧ j < 2 ^ 62 ∧ LcW (Itr 0 j.toNat) g tt te vs σ H1 Q) : tLc (iRng1 ta) g tt te vs σ H Q := h
theorem i_dc_s (h : tl σ H fun v H1 => ∃ x, v = .str x ∧ DcW (Its x) g tt tk tv vs σ H1 Q) : tDc (iSeq K tl) g tt tk tv vs σ H Q := .inr (.inr h)
theorem i_dc_t (h : tl σ H fun v H1 => ∃ a, v = .ref a ∧ (∃ xs, SqT K H1 a xs) ∧ DcW (Itt K a) g tt tk tv vs σ H1 Q) : tDc (iSeq K tl) g tt tk tv vs σ H Q := .inr (.inl h)
theorem i_while {c : TT} (h : ∃ W : Nat → L2.St → Hp → Prop, (∃ m, W m σ H) ∧ ∀ m σ H, W m σ H →
  c σ H fun b H1 => if b = true then ∃ N : L2.St → Hp → Prop, (∀ σ' H', N σ' H' → ∃ m', m' < m ∧ W m' σ' H') ∧ tb { D with nx := N, ct := N, bk := D.nx } σ H1 else D.nx σ H1) : tWhile c tb D σ H := h
/-! loops -/
theorem w_for (w : Walk J n G Y) (Pv : Nat → L2.St → Hp → Prop) (h0 : Pv 0 σ H) (hG : ∀ i σ H, i ≤ n → Pv i σ H → G H)
    (hs : ∀ i x σ H H', i < n → Pv i σ H → Y i H x H' → g x σ H' fun σ2 H2 => tb { D with nx := Pv (i + 1), ct := Pv (i + 1), bk := D.nx } σ2 H2) (hd : ∀ σ H, Pv n σ H → D.nx σ H) : ForW J g tb D σ H := for_it w Pv h0 hG hs hd
theorem e_for_s {z : List Nat} (Pv : Nat → L2.St → Hp → Prop) (h0 : Pv 0 σ H) (hs : ∀ i c σ H, z[i]? = some c → Pv i σ H → g (S [c]) σ H fun σ2 H2 => tb { D with nx := Pv (i + 1), ct := Pv (i + 1), bk := D.nx } σ2 H2)
    (hd : ∀ σ H, Pv z.length σ H → D.nx σ H) : ∃ x, S z = .str x ∧ ForW (Its x) g tb D σ H := by
  refine ⟨_, rfl, w_for (walk_str (z := T z)) Pv h0 (fun _ _ _ _ _ => True.intro) (fun i x σ H H' hi p y => ?_) hd⟩
  obtain ⟨rfl, c, hc, rfl⟩ := y
  exact hs i c σ _ (by simpa using hc) p
theorem e_for_t {a : Addr} {xs : List V} (Pv : Nat → L2.St → Hp → Prop) (h0 : Pv 0 σ H) (hG : ∀ i σ H, Pv i σ H → SqT K H a xs) (hs : ∀ i x σ H, xs[i]? = some x → Pv i σ H → g x σ H fun σ2 H2 => tb { D with nx := Pv (i + 1), ct := Pv (i + 1), bk := D.nx } σ2 H2)
    (hd : ∀ σ H, Pv xs.length σ H → D.nx σ H) : ∃ b, V.ref a = .ref b ∧ (∃ xs, SqT K H b xs) ∧ ForW (Itt K b) g tb D σ H := by
  refine ⟨_, rfl, ⟨xs, hG 0 σ H h0⟩, w_for (walk_tup (xs := xs)) Pv h0 (fun i σ H _ => hG i σ H) (fun i x σ H H' hi p y => ?_) hd⟩
  obtain ⟨rfl, hx⟩ := y
  exact hs i x σ _ hx p
theorem e_for_l {a : Addr} {xs : List V} (Pv : Nat → L2.St → Hp → Prop) (h0 : Pv 0 σ H) (hG : ∀ i σ H, Pv i σ H → SqL K H a xs) (hs : ∀ i x σ H, xs[i]? = some x → Pv i σ H → g x σ H fun σ2 H2 => tb { D with nx := Pv (i + 1), ct := Pv (i + 1), bk := D.nx } σ2 H2)
    (hd : ∀ σ H, Pv xs.length σ H → D.nx σ H) : ∃ b, V.ref a = .ref b ∧ (∃ xs, SqL K H b xs) ∧ ForW (Itl K b) g tb D σ H := by
  refine ⟨_, rfl, ⟨xs, hG 0 σ H h0⟩, w_for (walk_list (xs := xs)) Pv h0 (fun i σ H _ => hG i σ H) (fun i x σ H H' hi p y => ?_) hd⟩
  obtain ⟨rfl, hx⟩ := y
  exact hs i x σ _ hx p
theorem e_for_r {k : Nat} (hk : k ≤ 1000000) (Pv : Nat → L2.St → Hp → Prop) (h0 : Pv 0 σ H) (hs : ∀ i σ H, i < k → Pv i σ H → g (iv i) σ H fun σ2 H2 => tb { D with nx := Pv (i + 1), ct := Pv (i + 1), bk := D.nx } σ2 H2)
    (hd : ∀ σ H, Pv k σ H → D.nx σ H) : ∃ j : Int, [iv k] = [.int j] ∧ -(2 ^ 62) ≤ j ∧ j < 2 ^ 62 ∧ ForW (Itr 0 j.toNat) g tb D σ H := by
  refine ⟨_, rfl, by omega, by omega, ?_⟩
  rw [Int.toNat_natCast]
  refine w_for (walk_range (lo := 0) (n := k)) Pv h0 (fun _ _ _ _ _ => True.intro) (fun i x σ H H' hi p y => ?_) hd
  obtain ⟨rfl, rfl⟩ := y
  have e : (0 + (i : Int)) = (i : Int) := by omega
  dsimp only
  rw [e]
  exact hs i σ _ hi p
/-- from 1 -/
theorem e_for_r1 {k : Nat} (hk : k ≤ 1000000) (Pv : Nat → L2.St → Hp → Prop) (h0 : Pv 0 σ H) (hs : ∀ i σ H, i + 1 < k → Pv i σ H → g (iv (i + 1)) σ H fun σ2 H2 => tb { D with nx := Pv (i + 1), ct := Pv (i + 1), bk := D.nx } σ2 H2)
    (hd : ∀ σ H, Pv (k - 1) σ H → D.nx σ H) : ∃ i j : Int, [V.int 1, iv k] = [.int i, .int j] ∧ (-(2 ^ 62) ≤ i ∧ i < 2 ^ 62 ∧ -(2 ^ 62) ≤ j ∧ j < 2 ^ 62) ∧ ForW (Itr i (j - i).toNat) g tb D σ H := by
  refine ⟨_, _, rfl, ⟨by omega, by omega, by omega, by omega⟩, ?_⟩
  have z : ((k : Int) - 1).toNat = k - 1 := by omega
  rw [z]
  refine w_for (walk_range (lo := 1) (n := k - 1)) Pv h0 (fun _ _ _ _ _ => True.intro) (fun i x σ H H' hi p y => ?_) hd
  obtain ⟨rfl, rfl⟩ := y
  have e : (1 + (i : Int)) = ((i + 1 : Nat) : Int) := by omega
  dsimp only
  rw [e]
  exact hs i σ _ (by omega) p
theorem e_for_et {a : Addr} {xs : List V} (Pv : Nat → L2.St → Hp → Prop) (h0 : Pv 0 σ H) (hG : ∀ i σ H, Pv i σ H → SqT K H a xs)
    (hs : ∀ i x σ H T, xs[i]? = some x → Pv i σ H → H T = none → g (.ref T) σ (upd H T (.tup [iv i, x])) fun σ2 H2 => tb { D with nx := Pv (i + 1), ct := Pv (i + 1), bk := D.nx } σ2 H2)
    (hd : ∀ σ H, Pv xs.length σ H → D.nx σ H) : ∃ b ys, [V.ref a] = [.ref b] ∧ SqT K H b ys ∧ ForW (Itn K b) g tb D σ H := by
  refine ⟨_, xs, rfl, hG 0 σ H h0, w_for (walk_enT (xs := xs)) Pv h0 (fun i σ H _ => hG i σ H) (fun i x σ H H' hi p y => ?_) hd⟩
  obtain ⟨T, x', y', rfl, hT, rfl, e1, e2⟩ := y
  cases e1
  exact hs i _ σ H T e2 p hT
/-! comprehensions: Pv by the turn and the heap -/
theorem w_lc (w : Walk J n G Y) (h : ∀ D, H D = none → ∃ Pv : Nat → Hp → Prop, Pv 0 (upd H D (.lst [])) ∧ (∀ i H, Pv i H → G H) ∧
    (∀ i x H H', i < n → Pv i H → Y i H x H' → g x (wipe σ vs) H' fun σ2 H2 => wipe σ2 vs = wipe σ vs ∧ tt σ2 H2 fun b H3 =>
      if b = true then te σ2 H3 fun y H4 => ∃ acc, H4 D = some (.lst acc) ∧ acc.length < sizeLine ∧ Pv (i + 1) (upd H4 D (.lst (acc ++ [y]))) else Pv (i + 1) H3) ∧ ∀ H, Pv n H → Q (.ref D) H) : LcW J g tt te vs σ H Q := fun D hD => by
  obtain ⟨Pv, h0, hG, hs, hd⟩ := h D hD
  exact lc_it w Pv h0 (fun i H _ => hG i H) hs hd
theorem e_lc_s {z : List Nat} (h : ∀ D, H D = none → ∃ Pv : Nat → Hp → Prop, Pv 0 (upd H D (.lst [])) ∧
    (∀ i c H, z[i]? = some c → Pv i H → g (S [c]) (wipe σ vs) H fun σ2 H2 => wipe σ2 vs = wipe σ vs ∧ tt σ2 H2 fun b H3 =>
      if b = true then te σ2 H3 fun y H4 => ∃ acc, H4 D = some (.lst acc) ∧ acc.length < sizeLine ∧ Pv (i + 1) (upd H4 D (.lst (acc ++ [y]))) else Pv (i + 1) H3) ∧ ∀ H, Pv z.length H → Q (.ref D) H) : ∃ x, S z = .str x ∧ LcW (Its x) g tt te vs σ H Q := by
  refine ⟨_, rfl, w_lc (walk_str (z := T z)) fun D hD => ?_⟩
  obtain ⟨Pv, h0, hs, hd⟩ := h D hD
  refine ⟨Pv, h0, fun _ _ _ => True.intro, fun i x H H' hi p y => ?_, hd⟩
  obtain ⟨rfl, c, hc, rfl⟩ := y
  exact hs i c _ (by simpa using hc) p
theorem e_lc_t {a : Addr} {xs : List V} (hT : SqT K H a xs) (h : ∀ D, H D = none → ∃ Pv : Nat → Hp → Prop, Pv 0 (upd H D (.lst [])) ∧ (∀ i H, Pv i H → SqT K H a xs) ∧
    (∀ i x H, xs[i]? = some x → Pv i H → g x (wipe σ vs) H fun σ2 H2 => wipe σ2 vs = wipe σ vs ∧ tt σ2 H2 fun b H3 =>
      if b = true then te σ2 H3 fun y H4 => ∃ acc, H4 D = some (.lst acc) ∧ acc.length < sizeLine ∧ Pv (i + 1) (upd H4 D (.lst (acc ++ [y]))) else Pv (i + 1) H3) ∧ ∀ H, Pv xs.length H → Q (.ref D) H) :
    ∃ b, V.ref a = .ref b ∧ (∃ xs, SqT K H b xs) ∧ LcW (Itt K b) g tt te vs σ H Q := by
  refine ⟨_, rfl, ⟨xs, hT⟩, w_lc (walk_tup (xs := xs)) fun D hD => ?_⟩
  obtain ⟨Pv, h0, hG, hs, hd⟩ := h D hD
  refine ⟨Pv, h0, hG, fun i x H H' hi p y => ?_, hd⟩
  obtain ⟨rfl, hx⟩ := y
  exact hs i x _ hx p
theorem e_lc_l {a : Addr} {xs : List V} (hT : SqL K H a xs) (h : ∀ D, H D = none → ∃ Pv : Nat → Hp → Prop, Pv 0 (upd H D (.lst [])) ∧ (∀ i H, Pv i H → SqL K H a xs) ∧
    (∀ i x H, xs[i]? = some x → Pv i H → g x (wipe σ vs) H fun σ2 H2 => wipe σ2 vs = wipe σ vs ∧ tt σ2 H2 fun b H3 =>
      if b = true then te σ2 H3 fun y H4 => ∃ acc, H4 D = some (.lst acc) ∧ acc.length < sizeLine ∧ Pv (i + 1) (upd H4 D (.lst (acc ++ [y]))) else Pv (i + 1) H3) ∧ ∀ H, Pv xs.length H → Q (.ref D) H) :
    ∃ b, V.ref a = .ref b ∧ (∃ xs, SqL K H b xs) ∧ LcW (Itl K b) g tt te vs σ H Q := by
  refine ⟨_, rfl, ⟨xs, hT⟩, w_lc (walk_list (xs := xs)) fun D hD => ?_⟩
  obtain ⟨Pv, h0, hG, hs, hd⟩ := h D hD
  refine ⟨Pv, h0, hG, fun i x H H' hi p y => ?_, hd⟩
  obtain ⟨rfl, hx⟩ := y
  exact hs i x _ hx p
theorem e_lc_r {k : Nat} (hk : k ≤ 1000000) (h : ∀ D, H D = none → ∃ Pv : Nat → Hp → Prop, Pv 0 (upd H D (.lst [])) ∧
    (∀ i H, i < k → Pv i H → g (iv i) (wipe σ vs) H fun σ2 H2 => wipe σ2 vs = wipe σ vs ∧ tt σ2 H2 fun b H3 =>
      if b = true then te σ2 H3 fun y H4 => ∃ acc, H4 D = some (.lst acc) ∧ acc.length < sizeLine ∧ Pv (i + 1) (upd H4 D (.lst (acc ++ [y]))) else Pv (i + 1) H3) ∧ ∀ H, Pv k H → Q (.ref D) H) :
    ∃ j : Int, [iv k] = [.int j] ∧ -(2 ^ 62) ≤ j ∧ j < 2 ^ 62 ∧ LcW (Itr 0 j.toNat) g tt te vs σ H Q := by
  refine ⟨_, rfl, by omega, by omega, ?_⟩
  rw [Int.toNat_natCast]
  refine w_lc (walk_range (lo := 0) (n := k)) fun D hD => ?_
  obtain ⟨Pv, h0, hs, hd⟩ := h D hD
  refine ⟨Pv, h0, fun _ _ _ => True.intro, fun i x H H' hi p y => ?_, hd⟩
  obtain ⟨rfl, rfl⟩ := y
  have e : (0 + (i : Int)) = (i : Int) := by omega
  dsimp only
  rw [e]
  exact hs i _ hi p
theorem w_dc (w : Walk J n G Y) (h : ∀ D, H D = none → ∃ Pv : Nat → Hp → Prop, Pv 0 (upd H D (.dK [])) ∧ (∀ i H, Pv i H → G H) ∧
    (∀ i x H H', i < n → Pv i H → Y i H x H' → g x (wipe σ vs) H' fun σ2 H2 => wipe σ2 vs = wipe σ vs ∧ tt σ2 H2 fun b H3 =>
      if b = true then tk σ2 H3 fun y H4 => tv σ2 H4 fun z H5 => ∃ kvs k, y = kV k ∧ H5 D = some (.dK kvs) ∧ kvs.length < sizeLine ∧ Pv (i + 1) (upd H5 D (.dK (putK kvs k z))) else Pv (i + 1) H3) ∧ ∀ H, Pv n H → Q (.ref D) H) : DcW J g tt tk tv vs σ H Q := fun D hD => by
  obtain ⟨Pv, h0, hG, hs, hd⟩ := h D hD
  refine ⟨fun i m H => m = n - i ∧ i ≤ n ∧ Pv i H, ⟨n, by simp, Nat.zero_le _, h0⟩, ?_⟩
  rintro i m H ⟨rfl, hi, p⟩
  have q := hG i H p
  by_cases hlt : i < n
  · refine .inr ⟨w.goes i H hlt q, Pv (i + 1), fun H' p' => ⟨n - (i + 1), by omega, rfl, hlt, p'⟩, fun x H' y => hs i x H H' hlt p (w.yields i H x H' hlt q y)⟩
  · have e : i = n := by omega
    subst e
    exact .inl ⟨w.stops H q, hd H p⟩
theorem e_dc_s {z : List Nat} (h : ∀ D, H D = none → ∃ Pv : Nat → Hp → Prop, Pv 0 (upd H D (.dK [])) ∧
    (∀ i c H, z[i]? = some c → Pv i H → g (S [c]) (wipe σ vs) H fun σ2 H2 => wipe σ2 vs = wipe σ vs ∧ tt σ2 H2 fun b H3 =>
      if b = true then tk σ2 H3 fun y H4 => tv σ2 H4 fun z H5 => ∃ kvs k, y = kV k ∧ H5 D = some (.dK kvs) ∧ kvs.length < sizeLine ∧ Pv (i + 1) (upd H5 D (.dK (putK kvs k z))) else Pv (i + 1) H3) ∧ ∀ H, Pv z.length H → Q (.ref D) H) : ∃ x, S z = .str x ∧ DcW (Its x) g tt tk tv vs σ H Q := by
  refine ⟨_, rfl, w_dc (walk_str (z := T z)) fun D hD => ?_⟩
  obtain ⟨Pv, h0, hs, hd⟩ := h D hD
  refine ⟨Pv, h0, fun _ _ _ => True.intro, fun i x H H' hi p y => ?_, hd⟩
  obtain ⟨rfl, c, hc, rfl⟩ := y
  exact hs i c _ (by simpa using hc) p
theorem e_dc_t {a : Addr} {xs : List V} (hT : SqT K H a xs) (h : ∀ D, H D = none → ∃ Pv : Nat → Hp → Prop, Pv 0 (upd H D (.dK [])) ∧ (∀ i H, Pv i H → SqT K H a xs) ∧
    (∀ i x H, xs[i]? = some x → Pv i H → g x (wipe σ vs) H fun σ2 H2 => wipe σ2 vs = wipe σ vs ∧ tt σ2 H2 fun b H3 =>
      if b = true then tk σ2 H3 fun y H4 => tv σ2 H4 fun z H5 => ∃ kvs k, y = kV k ∧ H5 D = some (.dK kvs) ∧ kvs.length < sizeLine ∧ Pv (i + 1) (upd H5 D (.dK (putK kvs k z))) else Pv (i + 1) H3) ∧ ∀ H, Pv xs.length H → Q (.ref D) H) :
    ∃ b, V.ref a = .ref b ∧ (∃ xs, SqT K H b xs) ∧ DcW (Itt K b) g tt tk tv vs σ H Q := by
  refine ⟨_, rfl, ⟨xs, hT⟩, w_dc (walk_tup (xs := xs)) fun D hD => ?_⟩
  obtain ⟨Pv, h0, hG, hs, hd⟩ := h D hD
  refine ⟨Pv, h0, hG, fun i x H H' hi p y => ?_, hd⟩
  obtain ⟨rfl, hx⟩ := y
  exact hs i x _ hx p
/-! in -/
theorem o_in_c {c : Nat} {w : List Nat} (h : Q (.bl (decide (c ∈ w))) H) : rInS (S [c]) (S w) H Q := ⟨c, T w, rfl, rfl, h⟩
theorem o_nin_c {c : Nat} {w : List Nat} (h : Q (.bl (!decide (c ∈ w))) H) : rNotInS (S [c]) (S w) H Q := ⟨c, T w, rfl, rfl, h⟩
variable {QB : Bool → Hp → Prop} {tx ty : TE}
theorem i_inT_s (h : tTest (tOp rInS tx ty) σ H QB) : tInT K tx ty σ H QB := .inl h
theorem i_ninT_s (h : tTest (tOp rNotInS tx ty) σ H QB) : tNinT K tx ty σ H QB := .inl h
theorem i_inT_d (h : tx σ H fun y H1 => ty σ H1 fun x H2 => ∃ a o, x = .ref a ∧ DGet H2 a y o ∧ ∃ c, V.bl o.isSome = .bl c ∧ QB c H2) : tInT K tx ty σ H QB := .inr (.inr h)
end
end Rb

set_option maxHeartbeats 2000000
/-! texts of small signs -/
namespace Rb
open PySem PySem.Spec PyProof.Rows L2
theorem T_app (a b : List Nat) : T a ++ T b = T (a ++ b) := by
  apply PySem.Str.ext'
  show a.toArray ++ b.toArray = (a ++ b).toArray
  simp
theorem T_cons (a : Nat) (r : List Nat) : T (a :: r) = T [a] ++ T r := (T_app [a] r).symm
theorem upper_two (a b : PySem.Str) : Txt.upper (a ++ b) = Txt.upper a ++ Txt.upper b := by
  apply PySem.Str.ext'
  show placed (a ++ b) _ = placed a _ ++ placed b _
  unfold placed
  rw [PySem.Str.cps_append, Array.mapIdx_append, Array.flatten_append]
theorem upper_one {c : Nat} (h : 97 ≤ c ∧ c ≤ 122) : Txt.upper (T [c]) = T [up c] := by
  have key : ∀ k : Fin 26, Txt.upper (T [k.1 + 97]) = T [up (k.1 + 97)] := by decide +kernel
  have e : c - 97 + 97 = c := by omega
  have q := key ⟨c - 97, by omega⟩
  simp only [e] at q
  exact q
theorem upper_small : ∀ {z : List Nat}, (∀ c ∈ z, 97 ≤ c ∧ c ≤ 122) → Txt.upper (T z) = T (z.map up)
  | [], _ => by decide +kernel
  | c :: r, h => by
    rw [T_cons, upper_two, upper_one (h c List.mem_cons_self), upper_small fun x hx => h x (List.mem_cons_of_mem _ hx), T_app]
    rfl
theorem swap_one {c : Nat} (h : 97 ≤ c ∧ c ≤ 122 ∨ 65 ≤ c ∧ c ≤ 90) : Txt.swapcase (T [c]) = T [flip c] := by
  have k1 : ∀ k : Fin 26, Txt.swapcase (T [k.1 + 97]) = T [flip (k.1 + 97)] := by decide +kernel
  have k2 : ∀ k : Fin 26, Txt.swapcase (T [k.1 + 65]) = T [flip (k.1 + 65)] := by decide +kernel
  rcases h with h | h
  · have e : c - 97 + 97 = c := by omega
    have q := k1 ⟨c - 97, by omega⟩
    simp only [e] at q
    exact q
  · have e : c - 65 + 65 = c := by omega
    have q := k2 ⟨c - 65, by omega⟩
    simp only [e] at q
    exact q
theorem lower_one {c : Nat} (h : 65 ≤ c ∧ c ≤ 90) : Txt.lower (T [c]) = T [c + 32] := by
  have k2 : ∀ k : Fin 26, Txt.lower (T [k.1 + 65]) = T [k.1 + 65 + 32] := by decide +kernel
  have e : c - 65 + 65 = c := by omega
  have q := k2 ⟨c - 65, by omega⟩
  simp only [e] at q
  exact q
theorem join_ones : ∀ (z : List Nat), Str.join (T []) (z.map fun c => T [c]) = T z
  | [] => rfl
  | [c] => rfl
  | c :: d :: r => by
    have h := join_ones (d :: r)
    show T [c] ++ T [] ++ Str.join (T []) ((d :: r).map fun c => T [c]) = _
    rw [h, T_app, T_app]
    rfl
theorem join_one (z : List Nat) : Txt.join (T []) (z.map fun c => T [c]) = T z := by
  unfold Txt.join
  rw [StrLaws.glued_eq_join]
  exact join_ones z
theorem T_inj {a b : List Nat} (h : T a = T b) : a = b := by
  have := congrArg (fun z : Str => z.cps.toList) h
  exact this
end Rb

set_option maxHeartbeats 2000000
/-! comprehensions with two fors; lists that a walk fills with what is known beforehand -/
namespace Rb
open PySem PySem.Spec PyProof.Rows L2
def Lc2W (J : It) (g : TG) (tt : TT) (wi1 : TI) (g1 : TG) (tt1 : TT) (te : TE) (vs vs1 : List Nat) (σ : L2.St) (H1 : Hp) (Q : VK) : Prop := ∀ D, H1 D = none → ∃ W : Nat → Nat → Hp → Prop, (∃ m, W 0 m (upd H1 D (.lst []))) ∧ ∀ i m H, W i m H →
  (J.stop i H ∧ Q (.ref D) H) ∨ (J.go i H ∧ ∃ Nx : Hp → Prop, (∀ H', Nx H' → ∃ m', m' < m ∧ W (i + 1) m' H') ∧ ∀ x H', J.yld i H x H' → g x (wipe σ vs) H' fun σ2 H2 => wipe σ2 vs = wipe σ vs ∧ tt σ2 H2 fun b H3 =>
    if b = true then wi1 σ2 H3 fun J1 H4 => InW J1 g1 tt1 te vs1 σ2 D Nx H4
    else Nx H3)
section
variable {K : PySem.W.Frag} {σ σ2 : L2.St} {H : Hp} {Q : VK} {n m : Nat} {te tl : TE} {tt tt1 : TT} {g g1 : TG} {vs vs1 : List Nat} {J : It} {G : Hp → Prop} {Y : Nat → Hp → V → Hp → Prop} {wi1 : TI} {D : Addr} {Nx : Hp → Prop}
theorem i_lc2_s (h : tl σ H fun v H1 => ∃ x, v = .str x ∧ Lc2W (Its x) g tt wi1 g1 tt1 te vs vs1 σ H1 Q) : tLc2 (iSeq K tl) g tt wi1 g1 tt1 te vs vs1 σ H Q := .inr (.inr h)
theorem e_lc2_s {z : List Nat} (h : ∀ D, H D = none → ∃ Pv : Nat → Hp → Prop, Pv 0 (upd H D (.lst [])) ∧
    (∀ i c H, z[i]? = some c → Pv i H → g (S [c]) (wipe σ vs) H fun σ2 H2 => wipe σ2 vs = wipe σ vs ∧ tt σ2 H2 fun b H3 =>
      if b = true then wi1 σ2 H3 fun J1 H4 => InW J1 g1 tt1 te vs1 σ2 D (Pv (i + 1)) H4 else Pv (i + 1) H3) ∧ ∀ H, Pv z.length H → Q (.ref D) H) :
    ∃ x, S z = .str x ∧ Lc2W (Its x) g tt wi1 g1 tt1 te vs vs1 σ H Q := by
  refine ⟨_, rfl, fun D hD => ?_⟩
  obtain ⟨Pv, h0, hs, hd⟩ := h D hD
  have w := walk_str (z := T z)
  refine ⟨fun i m H => m = z.length - i ∧ i ≤ z.length ∧ Pv i H, ⟨z.length, by simp, Nat.zero_le _, h0⟩, ?_⟩
  rintro i m H ⟨rfl, hi, p⟩
  by_cases hlt : i < z.length
  · refine .inr ⟨w.goes i H (by simpa using hlt) True.intro, Pv (i + 1), fun H' p' => ⟨z.length - (i + 1), by omega, rfl, hlt, p'⟩, fun x H' y => ?_⟩
    obtain ⟨rfl, c, hc, rfl⟩ := w.yields i H x H' (by simpa using hlt) True.intro y
    exact hs i c _ (by simpa using hc) p
  · have e : i = z.length := by omega
    subst e
    exact .inl ⟨by have := w.stops H True.intro; simpa using this, hd H p⟩
theorem e_in_t {a : Addr} {xs : List V} (hT : SqT K H a xs) (Pv : Nat → Hp → Prop) (h0 : Pv 0 H) (hG : ∀ i H, Pv i H → SqT K H a xs)
    (hs : ∀ j x H, xs[j]? = some x → Pv j H → g1 x (wipe σ2 vs1) H fun σ3 H5 => wipe σ3 vs1 = wipe σ2 vs1 ∧ tt1 σ3 H5 fun b H6 =>
        if b = true then te σ3 H6 fun y H7 => ∃ acc, H7 D = some (.lst acc) ∧ acc.length < sizeLine ∧ Pv (j + 1) (upd H7 D (.lst (acc ++ [y]))) else Pv (j + 1) H6)
    (hd : ∀ H, Pv xs.length H → Nx H) : ∃ b, V.ref a = .ref b ∧ (∃ xs, SqT K H b xs) ∧ InW (Itt K b) g1 tt1 te vs1 σ2 D Nx H := by
  refine ⟨_, rfl, ⟨xs, hT⟩, ?_⟩
  have w := walk_tup (K := K) (a := a) (xs := xs)
  refine ⟨fun i m H => m = xs.length - i ∧ i ≤ xs.length ∧ Pv i H, ⟨xs.length, by simp, Nat.zero_le _, h0⟩, ?_⟩
  rintro i m H ⟨rfl, hi, p⟩
  have q := hG i H p
  by_cases hlt : i < xs.length
  · refine .inr ⟨w.goes i H hlt q, Pv (i + 1), fun H' p' => ⟨xs.length - (i + 1), by omega, rfl, hlt, p'⟩, fun x H' y => ?_⟩
    obtain ⟨rfl, hx⟩ := w.yields i H x H' hlt q y
    exact hs i x _ hx p
  · have e : i = xs.length := by omega
    subst e
    exact .inl ⟨w.stops H q, hd H p⟩
theorem i_in_t {t : TE} {QI : It → Hp → Prop} (h : t σ H fun v H1 => ∃ a, v = .ref a ∧ (∃ xs, SqT K H1 a xs) ∧ QI (Itt K a) H1) : iSeq K t σ H QI := .inr (.inl h)
end
/-! a list that fills up -/
theorem take_succ_of {α : Type} {l : List α} {i : Nat} {x : α} (h : l[i]? = some x) : l.take (i + 1) = l.take i ++ [x] := by
  rw [List.take_succ, h]
  rfl
theorem get_map {α β : Type} {l : List α} {f : α → β} {i : Nat} {x : β} (h : (l.map f)[i]? = some x) : ∃ a, l[i]? = some a ∧ x = f a := by
  rw [List.getElem?_map] at h
  cases e : l[i]? with
  | none => rw [e] at h; cases h
  | some a => rw [e] at h; exact ⟨a, rfl, (Option.some.inj h).symm⟩
theorem get_of_map {α β : Type} {l : List α} {f : α → β} {i : Nat} {a : α} (h : l[i]? = some a) : (l.map f)[i]? = some (f a) := by
  rw [List.getElem?_map, h]
  rfl
theorem get_getD {l : List Nat} {i : Nat} (h : i < l.length) : l[i]? = some (l.getD i 0) := by
  rw [List.getD_eq_getElem?_getD, List.getElem?_eq_getElem h]
  rfl
theorem getD_of {l : List Nat} {i a : Nat} (h : l[i]? = some a) : l.getD i 0 = a := by
  rw [List.getD_eq_getElem?_getD, h]
  rfl
theorem get_lt {α : Type} {l : List α} {i : Nat} {a : α} (h : l[i]? = some a) : i < l.length := (List.getElem?_eq_some_iff.mp h).1
section
variable {K : PySem.W.Frag} {σ : L2.St} {F : Hp} {M : List (Addr × HO)} {H : Hp} {Q : VK} {te : TE} {tt : TT} {g : TG} {vs : List Nat} {a : Addr} {xs ys : List V}
theorem HS.sqT (h : HS F M H) (r : Rd F a (.tup xs)) : SqT K H a xs := .inl (Ex.rd h.fz r)
theorem HS.tupN {ns : List Nat} {v : V} (h : HS F M H) (r : TupN F v ns) : TupN H v ns := Ex.tup h.fz r
/-- the i-th turn puts the i-th of ys -/
theorem lc_put {i : Nat} {y : V} {D : Addr} (p : HS F ((D, .lst (ys.take i)) :: M) H) (hy : ys[i]? = some y) (hz : ys.length ≤ 1000000) :
    ∃ acc, H D = some (.lst acc) ∧ acc.length < sizeLine ∧ HS F ((D, .lst (ys.take (i + 1))) :: M) (upd H D (.lst (acc ++ [y]))) := by
  refine ⟨_, p.get, ?_, ?_⟩
  · rw [sizeLine_eq, List.length_take]
    omega
  · rw [take_succ_of hy]
    exact p.wr
theorem take_all {α : Type} {l : List α} {n : Nat} (h : l.length = n) : l.take n = l := by
  rw [← h, List.take_length]
end
end Rb

set_option maxHeartbeats 2000000
/-! what each def's reading does: checks, turns -/
namespace Rb
open PySem PySem.Spec PyProof.Rows L2
local macro_rules | `(tactic| trivial) => `(tactic| with_reducible first
  | refine i_seq ?_ | refine i_nx ?_ | refine i_ret ?_ | refine i_retN ?_ | refine i_drop ?_ | refine i_ifS ?_ | refine i_asg ?_ | refine i_name ?_ | refine i_sub ?_
  | refine ite_t ?_ | refine ite_f ?_ | refine not_t ?_ | refine not_f ?_ | refine i_test ?_ | refine i_bl ?_ | refine i_not ?_ | refine i_and ?_ | refine i_or ?_ | refine i_tr ?_ | refine i_trb ?_ | refine i_yes ?_ | refine i_chain ?_
  | refine i_var rfl ?_ | refine i_c ?_ | refine i_op ?_ | refine i_if ?_ | refine i_andV ?_ | refine i_orV ?_ | refine i_notV ?_ | refine ite_nt ?_ | refine ite_nf ?_ | refine i_nil ?_ | refine i_cons ?_ | refine i_cb ?_ | refine i_call ?_ | refine i_callS ?_
  | refine o_gt ?_ | refine o_lt ?_ | refine o_ge ?_ | refine o_le ?_ | refine o_subI ?_ | refine i_m0 ?_ | refine i_m1 ?_ | refine i_ix ?_)
section
variable {K : PySem.W.Frag} {vs : List V} {H : Hp} {Q : VK} {E : XK} {D : Ends}
theorem pure_is_integer (h : sp_is_integer vs H Q E) : t_is_integer K (fin Q) (start N_is_integer vs) H := by
  obtain ⟨x, rfl, i, rfl, q⟩ := h
  unfold t_is_integer
  repeat trivial
  refine o_isi_int ?_
  repeat trivial
  refine o_isi_bool ?_
  repeat trivial
theorem mem_of_get {z : List Nat} {i c : Nat} (h : z[i]? = some c) : c ∈ z := List.mem_of_getElem? h
theorem pure_is_string_of (h : sp_is_string_of vs H Q E) : t_is_string_of K (fin Q) (start N_is_string_of vs) H := by
  obtain ⟨x, y, rfl, z, w, rfl, rfl, hz, q⟩ := h
  unfold t_is_string_of
  repeat trivial
  refine o_isi_str ?_
  repeat trivial
  refine i_for_s ?_
  repeat trivial
  refine e_for_s (fun i σ H' => (∃ v, σ = [some (S z), some (S w), v]) ∧ H' = H) ⟨⟨_, rfl⟩, rfl⟩ ?_ ?_
  · rintro i c σ H' hc ⟨⟨v, rfl⟩, rfl⟩
    repeat trivial
    refine i_ninT_s ?_
    repeat trivial
    refine o_nin_c ?_
    repeat trivial
    refine ite_nd (fun _ => ?_) fun hn => absurd (hz c (mem_of_get hc)) hn
    repeat trivial
    exact ⟨⟨_, rfl⟩, rfl⟩
  · rintro σ H' ⟨_, rfl⟩
    repeat trivial
def smallL : List Nat := List.range' 97 26
theorem small_eq : v_SMALL = S smallL := by decide +kernel
theorem small_mem {c : Nat} (h : 97 ≤ c ∧ c ≤ 122) : c ∈ smallL := by
  unfold smallL
  rw [List.mem_range']
  exact ⟨c - 97, by omega, by omega⟩
theorem line_ge {n : Nat} (h : n ≤ 1000000) : n ≤ sizeLine := by
  rw [sizeLine_eq]
  omega
theorem line_gt {n : Nat} (h : n ≤ 1000000) : n < sizeLine := by
  rw [sizeLine_eq]
  omega
theorem pure_is_word (h : sp_is_word vs H Q E) : t_is_word K (fin Q) (start N_is_word vs) H := by
  obtain ⟨x, rfl, z, rfl, hz, h0, hl, q⟩ := h
  unfold t_is_word
  repeat trivial
  refine ⟨_, _, rfl, z, smallL, rfl, small_eq, fun c hc => small_mem (hz c hc), ?_⟩
  repeat trivial
  refine o_len_s (line_ge (by omega)) ?_
  repeat trivial
  rw [decide_eq_true (by omega)]
  exact q
theorem pw_at {z : List Nat} (h : z.Pairwise (· < ·)) {i a b : Nat} (ha : z[i]? = some a) (hb : z[i + 1]? = some b) : a < b := by
  obtain ⟨h1, rfl⟩ := List.getElem?_eq_some_iff.mp ha
  obtain ⟨h2, rfl⟩ := List.getElem?_eq_some_iff.mp hb
  exact List.pairwise_iff_getElem.mp h _ _ h1 h2 (by omega)
theorem pure_is_deeds (h : sp_is_deeds vs H Q E) : t_is_deeds K (fin Q) (start N_is_deeds vs) H := by
  obtain ⟨x, rfl, z, rfl, hz, q⟩ := h
  have hl : z.length ≤ sizeLine := line_ge (by have := hz.len; omega)
  unfold t_is_deeds
  repeat trivial
  refine ⟨_, rfl, z, rfl, hz.lt, hz.ne, by have := hz.len; omega, ?_⟩
  repeat trivial
  refine o_len_s hl ?_
  repeat trivial
  refine ite_d (fun c => by have := hz.len; omega) fun _ => ?_
  repeat trivial
  refine i_for_r2 ?_
  repeat trivial
  refine o_len_s hl ?_
  refine e_for_r1 (by have := hz.len; omega) (fun i σ H' => (∃ v, σ = [some (S z), v]) ∧ H' = H) ⟨⟨_, rfl⟩, rfl⟩ ?_ ?_
  · rintro i σ H' hi ⟨⟨v, rfl⟩, rfl⟩
    repeat trivial
    have e : (((i + 1 : Nat) : Int) - 1) = ((i : Nat) : Int) := by omega
    rw [e]
    have g1 : z[i]? = some z[i] := List.getElem?_eq_getElem (by omega)
    have g2 : z[i + 1]? = some z[i + 1] := List.getElem?_eq_getElem hi
    refine o_ix_s hl g1 ?_
    repeat trivial
    refine o_ix_s hl g2 ?_
    refine .inr ⟨_, _, rfl, rfl, ?_⟩
    repeat trivial
    have lt := pw_at hz.asc g1 g2
    refine ite_nd (fun _ => ?_) fun hn => absurd (List.cons_lt_cons_iff.mpr (.inl lt)) hn
    repeat trivial
    exact ⟨⟨_, rfl⟩, rfl⟩
  · rintro σ H' ⟨_, rfl⟩
    repeat trivial
end
end Rb

set_option maxHeartbeats 2000000
namespace Rb
open PySem PySem.Spec PyProof.Rows L2
local macro_rules | `(tactic| trivial) => `(tactic| with_reducible first
  | refine i_seq ?_ | refine i_nx ?_ | refine i_ret ?_ | refine i_retN ?_ | refine i_drop ?_ | refine i_ifS ?_ | refine i_asg ?_ | refine i_name ?_ | refine i_sub ?_
  | refine ite_t ?_ | refine ite_f ?_ | refine not_t ?_ | refine not_f ?_ | refine i_test ?_ | refine i_bl ?_ | refine i_not ?_ | refine i_and ?_ | refine i_or ?_ | refine i_tr ?_ | refine i_trb ?_ | refine i_yes ?_ | refine i_chain ?_
  | refine i_var rfl ?_ | refine i_c ?_ | refine i_op ?_ | refine i_if ?_ | refine i_andV ?_ | refine i_orV ?_ | refine i_notV ?_ | refine ite_nt ?_ | refine ite_nf ?_ | refine i_nil ?_ | refine i_cons ?_ | refine i_cb ?_ | refine i_call ?_ | refine i_callS ?_
  | refine o_gt ?_ | refine o_lt ?_ | refine o_ge ?_ | refine o_le ?_ | refine o_subI ?_ | refine i_m0 ?_ | refine i_m1 ?_ | refine i_ix ?_ | refine i_fld ?_ | refine i_lst ?_ | refine i_tup ?_)
section
variable {K : PySem.W.Frag} {vs : List V} {H : Hp} {Q : VK} {E : XK} {D : Ends}
theorem pure_undoing_of (h : sp_undoing_of vs H Q E) : t_undoing_of K (fin Q) (start N_undoing_of vs) H := by
  obtain ⟨x, rfl, c, rfl, hc, q⟩ := h
  unfold t_undoing_of
  repeat trivial
  refine ⟨⟨_, rfl⟩, _, rfl, rfl, ?_, ?_⟩
  · rw [swap_one hc]
    show 1 ≤ 16777216
    decide
  · rw [swap_one hc]
    exact q
theorem lets_take {ds : List Nat} {i c : Nat} (h : ds[i]? = some c) : lets (ds.take (i + 1)) = lets (ds.take i) ++ [c, up c] := by
  rw [take_succ_of h]
  unfold lets
  rw [List.flatMap_append]
  rfl
theorem lets_len (ds : List Nat) : (lets ds).length = 2 * ds.length := by
  unfold lets
  induction ds with
  | nil => rfl
  | cons c r ih => rw [List.flatMap_cons, List.length_append, ih, List.length_cons]; simp; omega
theorem pure_letters_over (h : sp_letters_over vs H Q E) : t_letters_over K (fin Q) (start N_letters_over vs) H := by
  obtain ⟨x, rfl, F, M, ds, rfl, hs, hd, q⟩ := h
  unfold t_letters_over
  repeat trivial
  refine i_lc2_s ?_
  repeat trivial
  refine e_lc2_s fun D hD => ⟨fun i H' => ∃ F', Ex F F' ∧ HS F' ((D, .lst ((lets (ds.take i)).map fun c => S [c])) :: M) H', ⟨F, Ex.refl F, hs.new hD⟩, ?_, ?_⟩
  · rintro i c H' hc ⟨F', ex, p⟩
    repeat trivial
    refine i_in_t ?_
    repeat trivial
    have hl : i < ds.length := get_lt hc
    have hl4 := hd.len
    have hc2 := hd.lt c (mem_of_get hc)
    refine ⟨⟨_, rfl⟩, _, rfl, rfl, by show 1 ≤ 5592405; decide, ?_⟩
    rw [upper_one hc2]
    repeat trivial
    refine ⟨by show 2 ≤ sizeLine; decide, fun t ht => ?_⟩
    have p2 := p.newF ht (o := .tup [S [c], S [up c]])
    have ex2 := ex.trans (p.newEx ht (o := .tup [S [c], S [up c]]))
    refine e_in_t (xs := [S [c], S [up c]]) (SqT.of upd_same) (fun j H' => HS (upd F' t (.tup [S [c], S [up c]])) ((D, .lst (((lets (ds.take i)).map fun c => S [c]) ++ [S [c], S [up c]].take j)) :: M) H') ?_ ?_ ?_ ?_
    · rw [List.take_zero, List.append_nil]
      exact p2
    · intro j H' p
      exact SqT.of (p.fget upd_same)
    · intro j x H' hx p
      repeat trivial
      refine ⟨_, p.get, ?_, ?_⟩
      · rw [sizeLine_eq, List.length_append, List.length_map, lets_len, List.length_take, List.length_take]
        simp
        omega
      · rw [List.append_assoc, ← take_succ_of hx]
        exact p.wr
    · intro H' p
      refine ⟨_, ex2, ?_⟩
      rw [lets_take hc, List.map_append]
      exact p
  · rintro H' ⟨F', ex, p⟩
    repeat trivial
    rw [List.take_length] at p
    refine o_tuple (SqL.of p.get) fun l hl => ?_
    exact q _ _ _ (ex.trans (p.newEx hl)) (p.newF hl).drop ⟨l, rfl, upd_same⟩
theorem mem_lets {ds : List Nat} {c : Nat} (h : c ∈ lets ds) : c ∈ ds ++ ds.map up := by
  unfold lets at h
  obtain ⟨d, hd, hc⟩ := List.mem_flatMap.mp h
  rcases List.mem_cons.mp hc with rfl | hc
  · exact List.mem_append_left _ hd
  · rw [List.mem_singleton] at hc
    subst hc
    exact List.mem_append_right _ (List.mem_map_of_mem hd)
theorem pure_is_row_over (h : sp_is_row_over vs H Q E) : t_is_row_over K (fin Q) (start N_is_row_over vs) H := by
  obtain ⟨x, y, rfl, ds, rs, rfl, rfl, hd, hr, q⟩ := h
  unfold t_is_row_over
  repeat trivial
  have hl4 := hd.len
  refine ⟨⟨_, rfl⟩, _, rfl, rfl, by show ds.length ≤ 5592405; omega, ?_⟩
  rw [upper_small hd.lt]
  refine o_addS ?_ ?_
  · show ds.length + (ds.map up).length ≤ sizeLine
    rw [sizeLine_eq, List.length_map]
    omega
  rw [T_app]
  repeat trivial
  exact ⟨_, _, rfl, rs, ds ++ ds.map up, rfl, rfl, fun c hc => mem_lets (hr c hc), q⟩
theorem pure_check_row (h : sp_check_row vs H Q E) : t_check_row K (fin Q) (start N_check_row vs) H := by
  obtain ⟨x, y, rfl, ds, rs, rfl, rfl, hd, hr, q⟩ := h
  unfold t_check_row
  repeat trivial
  refine ⟨_, _, rfl, ds, rs, rfl, rfl, hd, hr, ?_⟩
  repeat trivial
theorem pure_standing_still (h : sp_standing_still vs H Q E) : t_standing_still K (fin Q) (start N_standing_still vs) H := by
  obtain ⟨x, rfl, F, M, n, rfl, hs, hn, q⟩ := h
  unfold t_standing_still
  repeat trivial
  have e : rgV 0 (n : Int) = (List.range n).map iv := by
    unfold rgV
    rw [show ((n : Int) - 0).toNat = n by omega]
    exact List.map_congr_left fun i _ => by rw [show (0 + (i : Int)) = (i : Int) by omega]
  show tRg1 (tVar 0) _ _ _
  unfold tRg1
  repeat trivial
  refine ⟨_, rfl, RgOk.of_le (by omega) (by omega) (by omega) (by omega), fun l hl => ?_⟩
  rw [e]
  repeat trivial
  refine o_tuple (SqL.of upd_same) fun b hb => ?_
  have p := (hs.new hl (o := .lst ((List.range n).map iv))).newF hb (o := .tup ((List.range n).map iv))
  refine q _ _ _ ((hs.new hl).newEx hb) p.drop ⟨b, rfl, .inl upd_same⟩
theorem pure_composed (h : sp_composed vs H Q E) : t_composed K (fin Q) (start N_composed vs) H := by
  obtain ⟨x, y, rfl, F, M, n, f, g, ⟨a, rfl, ra⟩, ⟨b, rfl, rb⟩, hs, pf, pg, hn, q⟩ := h
  unfold t_composed
  repeat trivial
  refine i_lc_t ?_
  repeat trivial
  have hlf := pf.len
  have hlg := pg.len
  have hl : ((comp f g).map iv).length = n := by rw [List.length_map, comp_len, hlf]
  refine e_lc_t (hs.sqT ra) fun D hD => ⟨fun i H' => HS F ((D, .lst (((comp f g).map iv).take i)) :: M) H', hs.new hD, fun i H' p => p.sqT ra, ?_, ?_⟩
  · intro i x H' hx p
    repeat trivial
    obtain ⟨k, hk, rfl⟩ := get_map hx
    have hi : i < f.length := get_lt hk
    have hkv := getD_of hk
    have hk' : k < g.length := by
      rw [hlg, ← hkv]
      exact pf.at_lt (by omega)
    refine o_ix_t (p.sqT rb) (get_of_map (get_getD hk')) ?_
    refine lc_put p (get_of_map (a := g.getD k 0) ?_) (by omega)
    have e := comp_at (g := g) hi
    rw [hkv] at e
    rw [← e]
    exact get_getD (by rw [comp_len]; exact hi)
  · intro H' p
    repeat trivial
    rw [take_all (by rw [hl, List.length_map, hlf])] at p
    refine o_tuple (SqL.of p.get) fun l hl => ?_
    exact q _ _ _ (p.newEx hl) (p.newF hl).drop ⟨l, rfl, .inl upd_same⟩
end
end Rb

namespace Rb
/-- a circle begun at b: what is on it so far -/
structure Half (n : Nat) (m : List Nat) (kn0 kn : List Bool) (b : Nat) (c : List Nat) (s : Nat) : Prop where
  at' : ∀ i, i < c.length → c.getD i 0 = iter m i b
  s_eq : s = iter m c.length b
  nd : c.Nodup
  fresh : ∀ x ∈ c, kn0.getD x false = false
  lt : ∀ x ∈ c, x < n
  kw : ∀ x, x < n → (kn.getD x false = true ↔ kn0.getD x false = true ∨ x ∈ c)
  len : kn.length = n
/-- what is known stands on whole circles -/
structure Part (n : Nat) (m : List Nat) (kn : List Bool) (cs : List (List Nat)) : Prop where
  ne : ∀ c ∈ cs, 0 < c.length
  step : ∀ c ∈ cs, ∀ i, i < c.length → m.getD (c.getD i 0) 0 = c.getD ((i + 1) % c.length) 0
  nd : ∀ c ∈ cs, c.Nodup
  lt : ∀ c ∈ cs, ∀ s ∈ c, s < n
  kw : ∀ x, x < n → (kn.getD x false = true ↔ ∃ c ∈ cs, x ∈ c)
  len : kn.length = n
theorem iter_succ (m : List Nat) : ∀ (k s : Nat), iter m (k + 1) s = m.getD (iter m k s) 0
  | 0, s => rfl
  | k + 1, s => by
    show iter m (k + 1) (m.getD s 0) = m.getD (iter m k (m.getD s 0)) 0
    exact iter_succ m k _
theorem getD_mem {l : List Nat} {i : Nat} (h : i < l.length) : l.getD i 0 ∈ l := by
  rw [List.getD_eq_getElem?_getD, List.getElem?_eq_getElem h]
  exact List.getElem_mem _
theorem nodup_getD {l : List Nat} (nd : l.Nodup) {i j : Nat} (hi : i < l.length) (hj : j < l.length) (e : l.getD i 0 = l.getD j 0) : i = j := by
  rw [List.getD_eq_getElem?_getD, List.getD_eq_getElem?_getD, List.getElem?_eq_getElem hi, List.getElem?_eq_getElem hj] at e
  exact (List.getElem_inj nd).mp e
theorem getD_setB {l : List Bool} {i x : Nat} (hi : i < l.length) : (l.set i true).getD x false = if x = i then true else l.getD x false := by
  rw [List.getD_eq_getElem?_getD, List.getElem?_set, List.getD_eq_getElem?_getD]
  by_cases e : x = i
  · subst e
    rw [if_pos rfl, if_pos rfl, if_pos hi]
    rfl
  · rw [if_neg (Ne.symm e), if_neg e]
/-- one more -/
theorem Half.more {n : Nat} {m : List Nat} {kn0 kn : List Bool} {b s : Nat} {c : List Nat} (h : Half n m kn0 kn b c s) (hs : s < n) (hk : kn.getD s false = false) :
    Half n m kn0 (kn.set s true) b (c ++ [s]) (m.getD s 0) := by
  have hn : ¬ (kn0.getD s false = true ∨ s ∈ c) := fun z => by
    have := (h.kw s hs).mpr z
    rw [hk] at this
    cases this
  have h0 : kn0.getD s false = false := by
    cases e : kn0.getD s false with
    | false => rfl
    | true => exact absurd (.inl e) hn
  have hc : s ∉ c := fun z => hn (.inr z)
  refine ⟨fun i hi => ?_, ?_, ?_, fun x hx => ?_, fun x hx => ?_, fun x hx => ?_, by rw [List.length_set]; exact h.len⟩
  · rw [List.length_append, List.length_singleton] at hi
    rw [List.getD_eq_getElem?_getD]
    rcases Nat.lt_or_ge i c.length with e | e
    · rw [List.getElem?_append_left e, ← List.getD_eq_getElem?_getD]
      exact h.at' i e
    · have : i = c.length := by omega
      subst this
      rw [List.getElem?_append_right (Nat.le_refl _), Nat.sub_self]
      exact h.s_eq
  · rw [List.length_append, List.length_singleton, iter_succ, ← h.s_eq]
  · rw [List.nodup_append]
    exact ⟨h.nd, by simp, fun a ha b hb e => hc (by rw [List.mem_singleton] at hb; subst hb; rw [← e]; exact ha)⟩
  · rcases List.mem_append.mp hx with hx | hx
    · exact h.fresh x hx
    · rw [List.mem_singleton] at hx; subst hx; exact h0
  · rcases List.mem_append.mp hx with hx | hx
    · exact h.lt x hx
    · rw [List.mem_singleton] at hx; subst hx; exact hs
  · rw [getD_setB (by rw [h.len]; exact hs), List.mem_append, List.mem_singleton]
    by_cases e : x = s
    · rw [if_pos e]
      exact ⟨fun _ => .inr (.inr e), fun _ => rfl⟩
    · rw [if_neg e, h.kw x hx]
      constructor
      · rintro (z | z)
        · exact .inl z
        · exact .inr (.inl z)
      · rintro (z | z | z)
        · exact .inl z
        · exact .inr z
        · exact absurd z e
theorem Half.small {n : Nat} {m : List Nat} {kn0 kn : List Bool} {b s : Nat} {c : List Nat} (h : Half n m kn0 kn b c s) : c.length ≤ n := nodup_le n c h.nd h.lt
/-- it stops where it began, or at once -/
theorem Half.done {n : Nat} {m : List Nat} {kn0 kn : List Bool} {b s : Nat} {c : List Nat} {cs : List (List Nat)} (p : IsPerm n m) (hb : b < n) (P : Part n m kn0 cs) (h : Half n m kn0 kn b c s) (hk : kn.getD s false = true) :
    (c = [] ∧ kn0.getD b false = true ∧ ∀ x, x < n → (kn.getD x false = true ↔ kn0.getD x false = true)) ∨ (c ≠ [] ∧ Part n m kn (cs ++ [c]) ∧ kn.getD b false = true) := by
  have hs : s < n := by rw [h.s_eq]; exact iter_lt p _ _ hb
  have hk' := (h.kw s hs).mp hk
  cases hc : c with
  | nil =>
    left
    subst hc
    refine ⟨rfl, ?_, fun x hx => by rw [h.kw x hx]; simp⟩
    rcases hk' with z | z
    · rw [h.s_eq] at z
      exact z
    · cases z
  | cons c0 r =>
    right
    rw [← hc]
    have hne : 0 < c.length := by rw [hc]; simp
    have back : ∀ {x}, x < n → m.getD x 0 = s → x = c.getD (c.length - 1) 0 := by
      intro x hx e
      have e2 : s = m.getD (c.getD (c.length - 1) 0) 0 := by
        rw [h.at' _ (by omega), ← iter_succ, h.s_eq]
        congr 1
        omega
      exact p.inj hx (h.lt _ (getD_mem (by omega))) (e.trans e2)
    have hsb : s = b := by
      rcases hk' with z | z
      · exfalso
        obtain ⟨d, hd, hsd⟩ := (P.kw s hs).mp z
        obtain ⟨i, hi, e⟩ := mem_getD hsd
        -- the one ahead of s on d
        have hpos := P.ne d hd
        let j := (i + d.length - 1) % d.length
        have hj : j < d.length := Nat.mod_lt _ hpos
        have ej : (j + 1) % d.length = i := by
          show ((i + d.length - 1) % d.length + 1) % d.length = i
          rw [Nat.mod_add_mod, show i + d.length - 1 + 1 = i + d.length by omega, Nat.add_mod_right, Nat.mod_eq_of_lt hi]
        have es := P.step d hd j hj
        rw [ej, e] at es
        have hm := getD_mem hj
        have q := back (P.lt d hd _ hm) es
        have f := h.fresh _ (getD_mem (l := c) (i := c.length - 1) (by omega))
        rw [← q] at f
        have := (P.kw _ (P.lt d hd _ hm)).mpr ⟨d, hd, hm⟩
        rw [f] at this
        cases this
      · obtain ⟨i, hi, e⟩ := mem_getD z
        rcases Nat.eq_zero_or_pos i with e0 | e0
        · subst e0
          rw [← e, h.at' 0 hi]
          rfl
        · exfalso
          have e1 : m.getD (c.getD (i - 1) 0) 0 = s := by
            rw [h.at' _ (by omega), ← iter_succ, show i - 1 + 1 = i by omega, ← h.at' i hi, e]
          have q := back (h.lt _ (getD_mem (by omega))) e1
          have := nodup_getD h.nd (by omega) (by omega) q
          omega
    have hbm : b ∈ c := by
      have := getD_mem hne
      rw [h.at' 0 hne] at this
      exact this
    refine ⟨by rw [hc]; simp, ⟨?_, ?_, ?_, ?_, ?_, h.len⟩, (h.kw b hb).mpr (.inr hbm)⟩
    · intro d hd
      rcases List.mem_append.mp hd with hd | hd
      · exact P.ne d hd
      · rw [List.mem_singleton] at hd; subst hd; exact hne
    · intro d hd i hi
      rcases List.mem_append.mp hd with hd | hd
      · exact P.step d hd i hi
      · rw [List.mem_singleton] at hd
        subst hd
        rw [h.at' i hi, ← iter_succ]
        rcases Nat.lt_or_ge (i + 1) d.length with e | e
        · rw [Nat.mod_eq_of_lt e, h.at' _ e]
        · have e2 : i + 1 = d.length := by omega
          rw [e2, Nat.mod_self, ← h.s_eq, hsb, h.at' 0 hne]
          rfl
    · intro d hd
      rcases List.mem_append.mp hd with hd | hd
      · exact P.nd d hd
      · rw [List.mem_singleton] at hd; subst hd; exact h.nd
    · intro d hd x hx
      rcases List.mem_append.mp hd with hd | hd
      · exact P.lt d hd x hx
      · rw [List.mem_singleton] at hd; subst hd; exact h.lt x hx
    · intro x hx
      rw [h.kw x hx, P.kw x hx]
      constructor
      · rintro (⟨d, hd, z⟩ | z)
        · exact ⟨d, List.mem_append_left _ hd, z⟩
        · exact ⟨c, List.mem_append_right _ (List.mem_singleton.mpr rfl), z⟩
      · rintro ⟨d, hd, z⟩
        rcases List.mem_append.mp hd with hd | hd
        · exact .inl ⟨d, hd, z⟩
        · rw [List.mem_singleton] at hd; subst hd; exact .inr z
theorem Half.begin {n : Nat} {m : List Nat} {kn : List Bool} {b : Nat} {cs : List (List Nat)} (P : Part n m kn cs) : Half n m kn kn b [] b :=
  ⟨fun i hi => absurd hi (Nat.not_lt_zero i), rfl, List.nodup_nil, fun x hx => absurd hx List.not_mem_nil, fun x hx => absurd hx List.not_mem_nil, fun x hx => (by simp), P.len⟩
theorem Part.begin {n : Nat} {m : List Nat} : Part n m (List.replicate n false) [] := by
  refine ⟨fun c h => absurd h List.not_mem_nil, fun c h => absurd h List.not_mem_nil, fun c h => absurd h List.not_mem_nil, fun c h => absurd h List.not_mem_nil, fun x hx => ?_, List.length_replicate⟩
  rw [List.getD_eq_getElem?_getD, List.getElem?_replicate, if_pos hx]
  simp
theorem Part.circles {n : Nat} {m : List Nat} {kn : List Bool} {cs : List (List Nat)} (p : IsPerm n m) (P : Part n m kn cs) (h : ∀ x, x < n → kn.getD x false = true) : Circles m cs :=
  ⟨P.ne, P.step, P.nd, fun c hc s hs => by rw [p.len]; exact P.lt c hc s hs, fun s hs => (P.kw s (by rw [← p.len]; exact hs)).mp (h s (by rw [← p.len]; exact hs))⟩
end Rb

set_option maxHeartbeats 2000000
namespace Rb
open PySem PySem.Spec PyProof.Rows L2
local macro_rules | `(tactic| trivial) => `(tactic| with_reducible first
  | refine i_seq ?_ | refine i_nx ?_ | refine i_ret ?_ | refine i_retN ?_ | refine i_drop ?_ | refine i_ifS ?_ | refine i_asg ?_ | refine i_name ?_ | refine i_sub ?_
  | refine ite_t ?_ | refine ite_f ?_ | refine not_t ?_ | refine not_f ?_ | refine i_test ?_ | refine i_bl ?_ | refine i_not ?_ | refine i_and ?_ | refine i_or ?_ | refine i_tr ?_ | refine i_trb ?_ | refine i_yes ?_ | refine i_chain ?_
  | refine i_var rfl ?_ | refine i_c ?_ | refine i_op ?_ | refine i_if ?_ | refine i_andV ?_ | refine i_orV ?_ | refine i_notV ?_ | refine ite_nt ?_ | refine ite_nf ?_ | refine i_nil ?_ | refine i_cons ?_ | refine i_cb ?_ | refine i_call ?_ | refine i_callS ?_
  | refine o_gt ?_ | refine o_lt ?_ | refine o_ge ?_ | refine o_le ?_ | refine o_subI ?_ | refine i_m0 ?_ | refine i_m1 ?_ | refine i_ix ?_ | refine i_fld ?_ | refine i_lst ?_ | refine i_tup ?_)
section
variable {K : PySem.W.Frag} {vs : List V} {H : Hp} {Q : VK} {E : XK} {D : Ends}
/-! a pair drawn by enumerate -/
theorem g_pair {σ : L2.St} {T : Addr} {x y : V} {i j : Nat} {R : L2.St → Hp → Prop} (e : H T = some (.tup [x, y])) (h : R ((σ.set i (some x)).set j (some y)) H) : gTup K 2 (gCons (gName i) (gCons (gName j) gNil)) (.ref T) σ H R :=
  ⟨T, [x, y], rfl, SqT.of e, rfl, x, [y], rfl, y, [], rfl, rfl, h⟩
theorem set_iv (ns : List Nat) (k i : Nat) : (ns.map iv).set k (iv i) = (ns.set k i).map iv := by rw [List.map_set]
theorem getD_setN {l : List Nat} {i x v : Nat} (hi : i < l.length) : (l.set i v).getD x 0 = if x = i then v else l.getD x 0 := by
  rw [List.getD_eq_getElem?_getD, List.getElem?_set, List.getD_eq_getElem?_getD]
  by_cases e : x = i
  · subst e
    rw [if_pos rfl, if_pos rfl, if_pos hi]
    rfl
  · rw [if_neg (Ne.symm e), if_neg e]
theorem rep_get {α : Type} {n i : Nat} {x : α} (h : i < n) : (List.replicate n x)[i]? = some x := by
  rw [List.getElem?_replicate, if_pos h]
theorem pure_turned_back (h : sp_turned_back vs H Q E) : t_turned_back K (fin Q) (start N_turned_back vs) H := by
  obtain ⟨x, rfl, F, M, n, m, ⟨a, rfl, ra⟩, hs, pm, hn, q⟩ := h
  unfold t_turned_back
  have hlm := pm.len
  repeat trivial
  refine i_lc_t ?_
  repeat trivial
  refine e_lc_t (hs.sqT ra) fun D hD => ⟨fun i H' => HS F ((D, .lst ((List.replicate n (iv 0)).take i)) :: M) H', hs.new hD, fun i H' p => p.sqT ra, ?_, ?_⟩
  · intro i x H' hx p
    repeat trivial
    have hi := get_lt hx
    rw [List.length_map] at hi
    exact lc_put p (rep_get (by omega)) (by rw [List.length_replicate]; omega)
  · intro H' p
    repeat trivial
    rw [take_all (by rw [List.length_map, List.length_replicate, hlm])] at p
    refine i_for_et ?_
    repeat trivial
    refine e_for_et (xs := m.map iv) (fun i σ H' => (∃ u v, σ = [some (.ref a), some (.ref D), u, v]) ∧ ∃ (F' : Hp) (ns : List Nat), Ex F F' ∧ HS F' ((D, .lst (ns.map iv)) :: M) H' ∧ ns.length = n ∧ ∀ j, j < i → ns.getD (m.getD j 0) 0 = j) ?_ ?_ ?_ ?_
    · refine ⟨⟨_, _, rfl⟩, F, List.replicate n 0, Ex.refl F, ?_, List.length_replicate, fun j hj => absurd hj (Nat.not_lt_zero j)⟩
      rw [List.map_replicate]
      exact p
    · rintro i σ H' ⟨_, F', ns, ex, p, _⟩
      exact p.sqT (ex.rd ra)
    · rintro i x σ H' T hx ⟨⟨u, v, rfl⟩, F', ns, ex, p, hl, hj⟩ hT
      obtain ⟨k, hk, rfl⟩ := get_map hx
      have hkd := getD_of hk
      have hi : i < n := by have := get_lt hk; omega
      have hk' : k < n := by rw [← hkd]; exact pm.at_lt hi
      have p2 := p.newF hT (o := .tup [iv i, iv k])
      refine g_pair upd_same ?_
      refine o_put (xs := []) ?_
      repeat trivial
      refine o_setL p2.get (by rw [List.length_map]; omega) ?_
      rw [set_iv]
      refine ⟨⟨_, _, rfl⟩, _, _, ex.trans (p.newEx hT (o := .tup [iv i, iv k])), p2.wr, by rw [List.length_set]; exact hl, fun j hj2 => ?_⟩
      rw [getD_setN (by omega)]
      by_cases e : m.getD j 0 = k
      · rw [if_pos e]
        exact (pm.inj (by omega) hi (e.trans hkd.symm)).symm
      · rw [if_neg e]
        rcases Nat.lt_or_ge j i with g | g
        · exact hj j g
        · have : j = i := by omega
          subst this
          exact absurd hkd e
    · rintro σ H' ⟨⟨u, v, rfl⟩, F', ns, ex, p, hl, hj⟩
      repeat trivial
      refine o_tuple (SqL.of p.get) fun l hl2 => ?_
      rw [List.length_map, hlm] at hj
      have e : ns = inv m := pm.inv_of hl fun i hi => hj i hi
      rw [e] at p ⊢
      exact q _ _ _ (ex.trans (p.newEx hl2)) (p.newF hl2).drop ⟨l, rfl, .inl upd_same⟩
theorem pure_greatest_divisor (h : sp_greatest_divisor vs H Q E) : t_greatest_divisor K (fin Q) (start N_greatest_divisor vs) H := by
  obtain ⟨x, y, rfl, a, b, rfl, rfl, q⟩ := h
  unfold t_greatest_divisor
  repeat trivial
  refine i_while ⟨fun m σ H' => ∃ c d : Nat, σ = [some (iv c), some (iv d)] ∧ H' = H ∧ m = d ∧ Nat.gcd c d = Nat.gcd a b, ⟨b, a, b, rfl, rfl, rfl, rfl⟩, ?_⟩
  rintro m σ H' ⟨c, d, rfl, rfl, rfl, e⟩
  repeat trivial
  refine ite_d (fun hd => ?_) fun hd => ?_
  · have hd' : 0 < m := by omega
    refine ⟨fun σ H'' => ∃ c d : Nat, σ = [some (iv c), some (iv d)] ∧ H'' = H' ∧ d < m ∧ Nat.gcd c d = Nat.gcd a b, fun σ' H'' ⟨c, d, e1, e2, e3, e4⟩ => ⟨d, e3, c, d, e1, e2, rfl, e4⟩, ?_⟩
    refine i_par ?_
    repeat trivial
    refine o_mod hd' ?_
    repeat trivial
    refine ⟨_, _, rfl, m, c % m, rfl, rfl, Nat.mod_lt _ hd', ?_⟩
    rw [← e, Nat.gcd_comm c m, Nat.gcd_rec m c, Nat.gcd_comm]
  · have hd' : m = 0 := by omega
    subst hd'
    rw [Nat.gcd_zero_right] at e
    repeat trivial
    rw [e]
    exact q
theorem o_mul2 {n m : Nat} (hm : m < 2 ^ 64) (h : Q (iv (n * m)) H) : oMul (iv n) (iv m) H Q := ⟨_, _, rfl, rfl, .inr ⟨by omega, by omega⟩, by
  have e : ((n : Int) * (m : Int)) = ((n * m : Nat) : Int) := (Int.natCast_mul n m).symm
  show Q (.int ((n : Int) * m)) H
  rw [e]; exact h⟩
theorem paired_at {α β : Type} {G : α → β → Prop} {l₁ : List α} {l₂ : List β} (h : Paired G l₁ l₂) {i : Nat} {a : α} (e : l₁[i]? = some a) : ∃ b, l₂[i]? = some b ∧ G a b := paired_get h e
theorem paired_len {α β : Type} {G : α → β → Prop} : ∀ {l₁ : List α} {l₂ : List β}, Paired G l₁ l₂ → l₁.length = l₂.length
  | _, _, .nil => rfl
  | _, _, .cons _ t => by rw [List.length_cons, List.length_cons, paired_len t]
theorem pure_order_of (h : sp_order_of vs H Q E) : t_order_of K (fin Q) (start N_order_of vs) H := by
  obtain ⟨x, rfl, F, M, n, m, tm, hs, pm, hn, q⟩ := h
  unfold t_order_of
  repeat trivial
  refine i_for_l ?_
  repeat trivial
  refine ⟨_, rfl, F, M, n, m, tm, hs, pm, hn, ?_⟩
  rintro v F' H' ex p ⟨cs, cc, a, as, rfl, ha, pa⟩
  refine e_for_l (xs := as.map V.ref) (fun i σ H'' => (∃ u, σ = [some x, some (iv ((cs.take i).foldl ordStep 1)), u]) ∧ H'' = H') ⟨⟨_, rfl⟩, rfl⟩ ?_ ?_ ?_
  · rintro i σ H'' ⟨_, rfl⟩
    exact SqL.of (p.fget ha)
  · rintro i y σ H'' hy ⟨⟨u, rfl⟩, rfl⟩
    obtain ⟨c, hc, rfl⟩ := get_map hy
    obtain ⟨k, hk, hck⟩ := paired_at pa hc
    have hkm := List.mem_of_getElem? hk
    have hk0 := cc.ne k hkm
    have hkn : k.length ≤ n := nodup_le n k (cc.nd k hkm) fun s hs => by rw [← pm.len]; exact cc.lt k hkm s hs
    repeat trivial
    have sl : SqL K H'' c (k.map iv) := SqL.of (p.fget hck)
    refine o_len_l sl ?_
    repeat trivial
    refine ⟨_, _, rfl, _, (k.map iv).length, rfl, rfl, ?_⟩
    rw [List.length_map]
    have hg0 : 0 < Nat.gcd ((cs.take i).foldl ordStep 1) k.length := Nat.gcd_pos_of_pos_right _ hk0
    have hg1 : Nat.gcd ((cs.take i).foldl ordStep 1) k.length ≤ k.length := Nat.gcd_le_right _ hk0
    refine o_div hg0 (by omega) ?_
    repeat trivial
    refine o_len_l sl ?_
    rw [List.length_map]
    repeat trivial
    refine o_mul2 (by omega) ?_
    repeat trivial
    refine ⟨⟨some (.ref c), ?_⟩, rfl⟩
    rw [take_succ_of hk, List.foldl_append]
    rfl
  · rintro σ H'' ⟨⟨u, rfl⟩, rfl⟩
    repeat trivial
    have e : (cs.take (as.map V.ref).length).foldl ordStep 1 = ordOf cs := by
      rw [List.length_map, paired_len pa, List.take_length]
      rfl
    rw [e]
    exact q _ _ _ (cc.ord pm) ex p
end
end Rb

set_option maxHeartbeats 2000000
namespace Rb
open PySem PySem.Spec PyProof.Rows L2
local macro_rules | `(tactic| trivial) => `(tactic| with_reducible first
  | refine i_seq ?_ | refine i_nx ?_ | refine i_ret ?_ | refine i_retN ?_ | refine i_drop ?_ | refine i_ifS ?_ | refine i_asg ?_ | refine i_name ?_ | refine i_sub ?_
  | refine ite_t ?_ | refine ite_f ?_ | refine not_t ?_ | refine not_f ?_ | refine i_test ?_ | refine i_bl ?_ | refine i_not ?_ | refine i_and ?_ | refine i_or ?_ | refine i_tr ?_ | refine i_trb ?_ | refine i_yes ?_ | refine i_chain ?_
  | refine i_var rfl ?_ | refine i_c ?_ | refine i_op ?_ | refine i_if ?_ | refine i_andV ?_ | refine i_orV ?_ | refine i_notV ?_ | refine ite_nt ?_ | refine ite_nf ?_ | refine i_nil ?_ | refine i_cons ?_ | refine i_cb ?_ | refine i_call ?_ | refine i_callS ?_
  | refine o_gt ?_ | refine o_lt ?_ | refine o_ge ?_ | refine o_le ?_ | refine o_subI ?_ | refine i_m0 ?_ | refine i_m1 ?_ | refine i_ix ?_ | refine i_fld ?_ | refine i_lst ?_ | refine i_tup ?_)
section
variable {K : PySem.W.Frag} {vs : List V} {H : Hp} {Q : VK} {E : XK} {D : Ends}
theorem paired_app {α β : Type} {G : α → β → Prop} : ∀ {l₁ : List α} {l₂ : List β} {m₁ : List α} {m₂ : List β}, Paired G l₁ l₂ → Paired G m₁ m₂ → Paired G (l₁ ++ m₁) (l₂ ++ m₂)
  | _, _, _, _, .nil, h => h
  | _, _, _, _, .cons a t, h => .cons a (paired_app t h)
theorem i_put {to ti : TE} {σ : L2.St} {tv : TE} (h : tv σ H fun x H1 => gSub to ti rSetL x σ H1 D.nx) : sPut to ti tv D σ H := .inl h
theorem count_lt {n : Nat} {c : List Nat} {s : Nat} (nd : (c ++ [s]).Nodup) (lt : ∀ x ∈ c ++ [s], x < n) : c.length < n := by
  have := nodup_le n _ nd lt
  rw [List.length_append, List.length_singleton] at this
  exact this
theorem get_getB {l : List Bool} {i : Nat} (h : i < l.length) : l[i]? = some (l.getD i false) := by
  rw [List.getD_eq_getElem?_getD, List.getElem?_eq_getElem h]
  rfl
theorem set_bl (ns : List Bool) (k : Nat) : (ns.map V.bl).set k (.bl true) = (ns.set k true).map V.bl := by rw [List.map_set]
theorem o_app {l : Addr} {xs : List V} {y : V} (e : H l = some (.lst xs)) (hl : xs.length < sizeLine) (q : Q .non (upd H l (.lst (xs ++ [y])))) : rAppend (.ref l) [y] H Q := ⟨l, xs, y, rfl, rfl, e, hl, q⟩
theorem ty_lst {l : Addr} {xs : List V} (e : SqL K H l xs) : tyV K "list" (.ref l) H := .inl ⟨rfl, xs, e⟩
theorem o_trL {l : Addr} {xs : List V} {QB : Bool → Prop} (e : SqL K H l xs) (q : QB (!xs.isEmpty)) : ∃ k, TruV K (.ref l) H k ∧ QB k := ⟨_, .inl ⟨xs, e, rfl⟩, q⟩
theorem pure_circles_of (h : sp_circles_of vs H Q E) : t_circles_of K (fin Q) (start N_circles_of vs) H := by
  obtain ⟨x, rfl, F, M, n, m, ⟨a, rfl, ra⟩, hs, pm, hn, q⟩ := h
  unfold t_circles_of
  have hlm := pm.len
  repeat trivial
  refine i_lc_t ?_
  repeat trivial
  refine e_lc_t (hs.sqT ra) fun A hA => ⟨fun i H' => HS F ((A, .lst ((List.replicate n (V.bl false)).take i)) :: M) H', hs.new hA, fun i H' p => p.sqT ra, ?_, ?_⟩
  · intro i x H' hx p
    repeat trivial
    have hi := get_lt hx
    rw [List.length_map] at hi
    exact lc_put p (rep_get (by omega)) (by rw [List.length_replicate]; omega)
  intro H' p
  repeat trivial
  rw [take_all (by rw [List.length_map, List.length_replicate, hlm])] at p
  refine ⟨Nat.zero_le _, fun B hB => ?_⟩
  have p1 := p.new hB (o := .lst [])
  repeat trivial
  refine i_for_r ?_
  repeat trivial
  refine o_len_t (p1.sqT ra) ?_
  rw [List.length_map, hlm]
  repeat trivial
  refine e_for_r (by omega) (fun i σ H' => (∃ u v w, σ = [some (.ref a), some (.ref A), u, some (.ref B), v, w]) ∧ ∃ (F' : Hp) (kn : List Bool) (as : List Addr) (cs : List (List Nat)), Ex F F' ∧
      HS F' ((B, .lst (as.map V.ref)) :: (A, .lst (kn.map V.bl)) :: M) H' ∧ Part n m kn cs ∧ as.length ≤ i ∧ Paired (fun a c => F' a = some (.lst (c.map iv))) as cs ∧ ∀ x, x < i → kn.getD x false = true) ?_ ?_ ?_
  · refine ⟨⟨_, _, _, rfl⟩, F, List.replicate n false, [], [], Ex.refl F, ?_, Part.begin, Nat.le_refl _, .nil, fun x hx => absurd hx (Nat.not_lt_zero x)⟩
    rw [List.map_replicate]
    exact p1
  · rintro b σ H' hb ⟨⟨u, v, w, rfl⟩, F', kn, as, cs, ex, p, P, hl, pa, hk⟩
    repeat trivial
    refine ⟨Nat.zero_le _, fun C hC => ?_⟩
    repeat trivial
    have p2 := p.new hC (o := .lst [])
    refine i_while ⟨fun k σ H'' => ∃ (kn' : List Bool) (c : List Nat) (s : Nat), σ = [some (.ref a), some (.ref A), some (iv s), some (.ref B), some (iv b), some (.ref C)] ∧
      HS F' ((C, .lst (c.map iv)) :: (B, .lst (as.map V.ref)) :: (A, .lst (kn'.map V.bl)) :: M) H'' ∧ Half n m kn kn' b c s ∧ k = n - c.length, ⟨n - 0, kn, [], b, rfl, p2, Half.begin P, rfl⟩, ?_⟩
    rintro k σ H'' ⟨kn', c, s, rfl, p, hf, rfl⟩
    have hs' : s < n := by rw [hf.s_eq]; exact iter_lt pm _ _ hb
    repeat trivial
    refine o_ix_l (SqL.of p.get2) (get_of_map (get_getB (by rw [hf.len]; exact hs'))) ?_
    repeat trivial
    cases hkk : kn'.getD s false with
    | false =>
      repeat trivial
      have hf2 := hf.more hs' hkk
      have hlt := count_lt hf2.nd hf2.lt
      refine ⟨fun σ H'' => ∃ (kn' : List Bool) (c' : List Nat) (s : Nat), σ = [some (.ref a), some (.ref A), some (iv s), some (.ref B), some (iv b), some (.ref C)] ∧
        HS F' ((C, .lst (c'.map iv)) :: (B, .lst (as.map V.ref)) :: (A, .lst (kn'.map V.bl)) :: M) H'' ∧ Half n m kn kn' b c' s ∧ n - c'.length < n - c.length, fun σ' H' ⟨kn', c', s, e1, e2, e3, e4⟩ => ⟨_, e4, kn', c', s, e1, e2, e3, rfl⟩, ?_⟩
      repeat trivial
      refine i_put ?_
      repeat trivial
      refine o_setL p.get2 (by rw [List.length_map, hf.len]; exact hs') ?_
      rw [set_bl]
      have p3 := p.wr2 (u := .lst ((kn'.set s true).map V.bl))
      repeat trivial
      refine i_bm ?_
      repeat trivial
      refine ⟨ty_lst (SqL.of p3.get), ?_⟩
      repeat trivial
      refine o_app p3.get (by rw [List.length_map]; exact line_gt (by omega)) ?_
      have p4 := p3.wr (u := .lst ((c ++ [s]).map iv))
      rw [List.map_append] at p4
      repeat trivial
      refine o_ix_t (p4.sqT (ex.rd ra)) (get_of_map (get_getD (by omega))) ?_
      repeat trivial
      refine ⟨_, c ++ [s], _, rfl, ?_, hf2, ?_⟩
      · rw [List.map_append]
        exact p4
      · rw [List.length_append, List.length_singleton]
        omega
    | true =>
      repeat trivial
      refine o_trL (SqL.of p.get) ?_
      rcases hf.done pm hb P hkk with ⟨rfl, e2, e3⟩ | ⟨e1, e2, e3⟩
      · show if (!true) = true then _ else _
        repeat trivial
        refine ⟨⟨_, _, _, rfl⟩, F', kn', as, cs, ex, p.drop, ⟨P.ne, P.step, P.nd, P.lt, fun x hx => (e3 x hx).trans (P.kw x hx), hf.len⟩, by omega, pa, fun x hx => ?_⟩
        rcases Nat.lt_or_ge x b with g | g
        · exact (e3 x (by omega)).mpr (hk x g)
        · have : x = b := by omega
          subst this
          exact (e3 x hb).mpr e2
      · have e0 : (!(c.map iv).isEmpty) = true := by
          cases c with
          | nil => exact absurd rfl e1
          | cons => rfl
        rw [e0]
        repeat trivial
        refine i_bm ?_
        repeat trivial
        refine ⟨ty_lst (SqL.of p.get1), ?_⟩
        repeat trivial
        refine o_app p.get1 (by rw [List.length_map]; exact line_gt (by omega)) ?_
        have p3 := (p.wr1 (u := .lst (as.map V.ref ++ [.ref C]))).frz
        have ex3 : Ex F' (upd F' C (.lst (c.map iv))) := p.frzEx
        repeat trivial
        refine ⟨⟨_, _, _, rfl⟩, _, kn', as ++ [C], cs ++ [c], ex.trans ex3, ?_, e2, by rw [List.length_append, List.length_singleton]; omega, ?_, fun x hx => ?_⟩
        · rw [List.map_append]
          exact p3
        · exact paired_app (Paired.mapP pa fun _ _ z => ex3 _ _ z) (.cons upd_same .nil)
        · rcases Nat.lt_or_ge x b with g | g
          · exact (hf.kw x (by omega)).mpr (.inl (hk x g))
          · have : x = b := by omega
            subst this
            exact e3
  · rintro σ H' ⟨⟨u, v, w, rfl⟩, F', kn, as, cs, ex, p, P, hl, pa, hk⟩
    repeat trivial
    exact q _ _ _ (ex.trans p.frzEx) p.frz.drop ⟨cs, P.circles pm hk, B, as, rfl, upd_same, Paired.mapP pa fun _ _ z => p.frzEx _ _ z⟩
end
end Rb

set_option maxHeartbeats 2000000
namespace Rb
open PySem PySem.Spec PyProof.Rows L2
local macro_rules | `(tactic| trivial) => `(tactic| with_reducible first
  | refine i_seq ?_ | refine i_nx ?_ | refine i_ret ?_ | refine i_retN ?_ | refine i_drop ?_ | refine i_ifS ?_ | refine i_asg ?_ | refine i_name ?_ | refine i_sub ?_
  | refine ite_t ?_ | refine ite_f ?_ | refine not_t ?_ | refine not_f ?_ | refine i_test ?_ | refine i_bl ?_ | refine i_not ?_ | refine i_and ?_ | refine i_or ?_ | refine i_tr ?_ | refine i_trb ?_ | refine i_yes ?_ | refine i_chain ?_
  | refine i_var rfl ?_ | refine i_c ?_ | refine i_op ?_ | refine i_if ?_ | refine i_andV ?_ | refine i_orV ?_ | refine i_notV ?_ | refine ite_nt ?_ | refine ite_nf ?_ | refine i_nil ?_ | refine i_cons ?_ | refine i_cb ?_ | refine i_call ?_ | refine i_callS ?_
  | refine o_gt ?_ | refine o_lt ?_ | refine o_ge ?_ | refine o_le ?_ | refine o_subI ?_ | refine i_m0 ?_ | refine i_m1 ?_ | refine i_ix ?_ | refine i_fld ?_ | refine i_lst ?_ | refine i_tup ?_)
section
variable {K : PySem.W.Frag} {vs : List V} {H : Hp} {Q : VK} {E : XK} {D : Ends}
theorem pure_is_standing (h : sp_is_standing vs H Q E) : t_is_standing K (fin Q) (start N_is_standing vs) H := by
  obtain ⟨x, y, rfl, n, s, rfl, rfl, hs, q⟩ := h
  unfold t_is_standing
  repeat trivial
  refine ⟨_, rfl, _, rfl, ?_⟩
  repeat trivial
  refine ite_d (fun _ => ?_) fun z => absurd (Int.natCast_nonneg s) z
  repeat trivial
  rw [decide_eq_true (by omega)]
  exact q
/-! dicts -/
theorem paired_get_r {α β : Type} {G : α → β → Prop} : ∀ {l₁ : List α} {l₂ : List β}, Paired G l₁ l₂ → ∀ {i : Nat} {b : β}, l₂[i]? = some b → ∃ a, l₁[i]? = some a ∧ G a b
  | _, _, .nil, _, _, e => nomatch e
  | _, _, .cons h _, 0, _, e => ⟨_, rfl, Option.some.inj e ▸ h⟩
  | _, _, .cons _ t, i + 1, _, e => paired_get_r (i := i) t e
theorem mem_of_get2 {α : Type} {z : List α} {i : Nat} {c : α} (h : z[i]? = some c) : c ∈ z := List.mem_of_getElem? h
theorem al_none {F : Hp} {c : Nat} : ∀ {wd : WD} {kvs : List (Key × V)}, AL F wd kvs → (∀ p ∈ wd, p.1 ≠ c) → valV kvs (.inr (T [c])) = none
  | _, _, .nil, _ => rfl
  | _, _, .cons (a := p) (b := q) h t, hn => by
    have e : q.1 ≠ Sum.inr (T [c]) := fun z => by
      have z2 := h.1.symm.trans z
      have z3 := T_inj (Sum.inr.inj z2)
      exact hn p List.mem_cons_self (List.cons.inj z3).1
    rw [valV_neg e]
    exact al_none t fun x hx => hn x (List.mem_cons_of_mem _ hx)
theorem al_get {F : Hp} {c : Nat} {m : List Nat} : ∀ {wd : WD} {kvs : List (Key × V)}, AL F wd kvs → wd.lookup c = some m → ∃ v, valV kvs (.inr (T [c])) = some v ∧ TupN F v m
  | _, _, .nil, h => nomatch h
  | _, _, .cons (a := p) (b := q) h t, hl => by
    by_cases e : p.1 = c
    · subst e
      rw [List.lookup_cons_self] at hl
      rw [valV_pos h.1]
      exact ⟨_, rfl, Option.some.inj hl ▸ h.2⟩
    · have e : q.1 ≠ Sum.inr (T [c]) := fun z => by
        have z2 := h.1.symm.trans z
        have z3 := T_inj (Sum.inr.inj z2)
        exact e (List.cons.inj z3).1
      rw [valV_neg e]
      refine al_get t ?_
      obtain ⟨a, b⟩ := p
      rw [List.lookup_cons] at hl
      split at hl
      · rename_i z
        exact absurd (beq_iff_eq.mp z).symm (by assumption)
      · exact hl
theorem al_len {F : Hp} {wd : WD} {kvs : List (Key × V)} (h : AL F wd kvs) : wd.length = kvs.length := paired_len h
theorem lookup_mem {wd : WD} {c : Nat} {m : List Nat} : wd.lookup c = some m → (c, m) ∈ wd := fun h => by
  induction wd with
  | nil => cases h
  | cons p r ih =>
    obtain ⟨a, b⟩ := p
    rw [List.lookup_cons] at h
    split at h
    · rename_i z
      have := beq_iff_eq.mp z
      subst this
      rw [Option.some.inj h]
      exact List.mem_cons_self
    · exact List.mem_cons_of_mem _ (ih h)
theorem lookup_of_mem {wd : WD} (nd : (wd.map (·.1)).Nodup) {c : Nat} {m : List Nat} (h : (c, m) ∈ wd) : wd.lookup c = some m := by
  induction wd with
  | nil => cases h
  | cons p r ih =>
    obtain ⟨a, b⟩ := p
    rw [List.map_cons, List.nodup_cons] at nd
    rw [List.lookup_cons]
    rcases List.mem_cons.mp h with e | h
    · cases e
      rw [show (c == c) = true by simp]
    · have : ¬ c = a := fun z => nd.1 (by rw [← z]; exact List.mem_map.mpr ⟨(c, m), h, rfl⟩)
      rw [show (c == a) = false by simpa using this]
      exact ih nd.2 h
theorem Deeds.nodup {ds : List Nat} (h : Deeds ds) : ds.Nodup := h.asc.imp fun b => Nat.ne_of_lt b
theorem i_inT {QB : Bool → Hp → Prop} {σ : L2.St} {tx ty : TE} (h : tx σ H fun y H1 => ty σ H1 fun x H2 => ∃ a o, x = .ref a ∧ DGet H2 a y o ∧ ∃ c, V.bl o.isSome = .bl c ∧ QB c H2) : tInT K tx ty σ H QB := .inr (.inr h)
theorem o_inD {a : Addr} {kvs : List (Key × V)} {k : Key} {QB : Bool → Prop} (e : H a = some (.dK kvs)) (q : QB (valV kvs k).isSome) : ∃ b o, V.ref a = .ref b ∧ DGet H b (kV k) o ∧ ∃ c, V.bl o.isSome = .bl c ∧ QB c := ⟨a, _, rfl, DGet.k e, _, rfl, q⟩
theorem o_getD {a : Addr} {kvs : List (Key × V)} {k : Key} {v : V} {QV : V → Prop} (e : H a = some (.dK kvs)) (hv : valV kvs k = some v) (q : QV v) : ∃ b v, V.ref a = .ref b ∧ DGet H b (kV k) (some v) ∧ QV v := ⟨a, v, rfl, hv ▸ DGet.k e, q⟩
theorem i_putD {to ti tv : TE} {σ : L2.St} (h : tv σ H fun v H1 => to σ H1 fun x H2 => ti σ H2 fun y H3 => ∃ a H4, x = .ref a ∧ DPut H3 a y v H4 ∧ D.nx σ H4) : sPut to ti tv D σ H := .inr h
theorem o_putD {a : Addr} {kvs : List (Key × V)} {k : Key} {v : V} {R : Hp → Prop} (e : H a = some (.dK kvs)) (hl : kvs.length < sizeLine) (hn : valV kvs k = none) (q : R (upd H a (.dK (kvs ++ [(k, v)])))) : ∃ b H4, V.ref a = .ref b ∧ DPut H b (kV k) v H4 ∧ R H4 :=
  ⟨a, _, rfl, DPut.k e hl, by rw [putK_new v hn]; exact q⟩
theorem valV_keys {kvs : List (Key × V)} {k : Key} (h : ∀ p ∈ kvs, p.1 ≠ k) : valV kvs k = none := by
  induction kvs with
  | nil => rfl
  | cons p r ih =>
    rw [valV_neg (h p List.mem_cons_self)]
    exact ih fun x hx => h x (List.mem_cons_of_mem _ hx)
theorem pure_is_move (h : sp_is_move vs H Q E) : t_is_move K (fin Q) (start N_is_move vs) H := by
  obtain ⟨x, y, rfl, F, M, n, m, rfl, ⟨a, rfl, ra⟩, hs, pm, hn, q⟩ := h
  unfold t_is_move
  have hlm := pm.len
  have rh : Rd H a (.tup (m.map iv)) := Ex.rd hs.fz ra
  repeat trivial
  refine o_isi_tup rh ?_
  repeat trivial
  refine o_len_t (hs.sqT ra) ?_
  repeat trivial
  refine o_neI ?_
  repeat trivial
  refine ite_nd (fun _ => ?_) fun z => absurd (by rw [List.length_map, hlm]) z
  repeat trivial
  refine i_dnew fun S hS => ?_
  have p := hs.new hS (o := .dK [])
  repeat trivial
  refine i_for_t ?_
  repeat trivial
  refine e_for_t (xs := m.map iv) (fun i σ H' => (∃ u, σ = [some (iv n), some (.ref a), some (.ref S), u]) ∧ HS F ((S, .dK ((m.take i).map fun s : Nat => ((Sum.inl (s : Int) : Key), V.bl true))) :: M) H') ⟨⟨_, rfl⟩, p⟩ ?_ ?_ ?_
  · rintro i σ H' ⟨_, p⟩
    exact p.sqT ra
  · rintro i x σ H' hx ⟨⟨u, rfl⟩, p⟩
    obtain ⟨s, hk, rfl⟩ := get_map hx
    have hsn : s < n := pm.lt s (mem_of_get hk)
    repeat trivial
    refine ⟨_, _, rfl, n, s, rfl, rfl, hsn, ?_⟩
    repeat trivial
    refine i_inT ?_
    repeat trivial
    have hnew : valV ((m.take i).map fun s : Nat => ((Sum.inl (s : Int) : Key), V.bl true)) (.inl (s : Int)) = none := by
      refine valV_keys fun p hp => ?_
      obtain ⟨s', h1, rfl⟩ := List.mem_map.mp hp
      intro z
      have z2 : s' = s := by have := Sum.inl.inj z; omega
      subst z2
      obtain ⟨j, hj, e⟩ := List.getElem_of_mem h1
      have hji : j < i := by rw [List.length_take] at hj; omega
      rw [List.getElem_take] at e
      obtain ⟨hi, e2⟩ := List.getElem?_eq_some_iff.mp hk
      have := (List.getElem_inj pm.nd).mp (e.trans e2.symm)
      omega
    refine o_inD (k := .inl (s : Int)) p.get ?_
    rw [hnew]
    show if (false = true) then _ else _
    repeat trivial
    refine i_putD ?_
    repeat trivial
    refine o_putD (k := .inl (s : Int)) p.get ?_ hnew ?_
    · rw [List.length_map, List.length_take]
      exact line_gt (by omega)
    · refine ⟨⟨_, rfl⟩, ?_⟩
      rw [take_succ_of hk, List.map_append]
      exact p.wr
  · rintro σ H' ⟨⟨u, rfl⟩, p⟩
    repeat trivial
    exact q H' p.drop
theorem upd_self {d : Addr} {u w : HO} (e : H d = some u) : upd (upd H d w) d u = H := by
  rw [upd_upd]
  funext b
  by_cases z : b = d
  · subst z
    rw [upd_same, e]
  · rw [upd_ne z]
theorem i_lock {t : TS} {σ : L2.St} (d : Addr) (u : HO) (e : H d = some u) (mu : Mut (some u)) (h : ∀ od, t ⟨fun σ' H' => H' d = some (.frz od u) ∧ D.nx σ' (upd H' d u), fun v H' => H' d = some (.frz od u) ∧ D.rt v (upd H' d u), fun σ' H' => H' d = some (.frz od u) ∧ D.bk σ' (upd H' d u), fun σ' H' => H' d = some (.frz od u) ∧ D.ct σ' (upd H' d u)⟩ σ (upd H d (.frz od u))) :
    tLock t D σ H := ⟨d, u, e, mu, h⟩
theorem i_for_k {g : TG} {tb : TS} {te : TE} {σ : L2.St} (h : te σ H fun x H1 => ∃ d o, x = .ref d ∧ ∃ kvs, H1 d = some (.frz o (.dK kvs)) ∧ ForW (Itk d o kvs) g tb D σ H1) (mono : ∀ (P P' : VK), (∀ v H, P v H → P' v H) → te σ H P → te σ H P') : tFor (iKeys te) g tb D σ H :=
  mono _ _ (fun v H1 ⟨d, o, e, q⟩ => ⟨d, o, e, .inl q⟩) h
theorem mono_var {i : Nat} {σ : L2.St} (P P' : VK) (h : ∀ v H, P v H → P' v H) (q : tVar i σ H P) : tVar i σ H P' := by
  obtain ⟨v, e, q⟩ := q
  exact ⟨v, e, h _ _ q⟩
theorem e_for_k {g : TG} {tb : TS} {σ : L2.St} {d : Addr} {od : Obj} {kvs : List (Key × V)} (Pv : Nat → L2.St → Hp → Prop) (h0 : Pv 0 σ H) (hG : ∀ i σ H, Pv i σ H → H d = some (.frz od (.dK kvs))) (hs : ∀ i k v σ H, kvs[i]? = some (k, v) → Pv i σ H → g (kV k) σ H fun σ2 H2 => tb { D with nx := Pv (i + 1), ct := Pv (i + 1), bk := D.nx } σ2 H2)
    (hd : ∀ σ H, Pv kvs.length σ H → D.nx σ H) : ForW (Itk d od kvs) g tb D σ H := by
  refine w_for (walk_keys (d := d) (o := od) (kvs := kvs)) Pv h0 (fun i σ H _ => hG i σ H) (fun i x σ H H' hi p y => ?_) hd
  obtain ⟨rfl, k, v, hk, rfl⟩ := y
  exact hs i k v σ _ hk p
theorem pure_are_moves (h : sp_are_moves vs H Q E) : t_are_moves K (fin Q) (start N_are_moves vs) H := by
  obtain ⟨x, y, rfl, F, M, wd, n, rfl, ⟨a, kvs, rfl, ha, al⟩, hs, ok, hn, q⟩ := h
  unfold t_are_moves
  have hH := hs.fget ha
  have hlk := al_len al
  have hd4 := ok.deeds.len
  have hd0 := ok.deeds.ne
  have hdl : (wd.map (·.1)).length ≤ sizeLine := line_ge (by omega)
  rw [List.length_map] at hd4 hd0
  repeat trivial
  refine o_isi_dict (.inl hH) ?_
  repeat trivial
  refine o_len_d hH ?_
  repeat trivial
  refine o_len_s hdl ?_
  refine o_neI ?_
  repeat trivial
  refine ite_nd (fun _ => ?_) fun z => absurd (by rw [List.length_map, hlk]) z
  repeat trivial
  refine i_lock a (.dK kvs) hH True.intro fun od => ?_
  refine i_for_k ?_ mono_var
  repeat trivial
  refine ⟨a, od, rfl, kvs, upd_same, ?_⟩
  refine e_for_k (fun i σ H' => (∃ u v, σ = [some (S (wd.map (·.1))), some (.ref a), u, v]) ∧ H' = upd H a (.frz od (.dK kvs))) ⟨⟨_, _, rfl⟩, rfl⟩ ?_ ?_ ?_
  · rintro i σ H' ⟨_, rfl⟩
    exact upd_same
  · rintro i k v σ H' hk ⟨⟨u, w, rfl⟩, rfl⟩
    obtain ⟨p, hp, hpk⟩ := paired_get_r al hk
    have hkk : k = Sum.inr (T [p.1]) := hpk.1
    subst hkk
    show gName 2 (S [p.1]) _ _ _
    repeat trivial
    refine o_isi_str ?_
    repeat trivial
    refine o_len_s (line_ge (by show 1 ≤ 1000000; decide)) ?_
    repeat trivial
    refine o_neI ?_
    repeat trivial
    refine ite_nd (fun _ => ?_) fun z => absurd rfl z
    refine i_ninT_s ?_
    repeat trivial
    refine o_nin_c ?_
    repeat trivial
    refine ite_nd (fun _ => ?_) fun z => absurd (List.mem_map_of_mem (mem_of_get2 hp)) z
    repeat trivial
    exact ⟨⟨_, _, rfl⟩, rfl⟩
  · rintro σ H' ⟨⟨u, v, rfl⟩, rfl⟩
    refine ⟨upd_same, ?_⟩
    rw [upd_self hH]
    obtain ⟨⟨d0, m0⟩, r, hwd⟩ : ∃ p r, wd = p :: r := by
      cases wd with
      | nil => exact absurd hd0 (Nat.lt_irrefl 0)
      | cons p r => exact ⟨p, r, rfl⟩
    have hlook : ∀ {c : Nat} {m : List Nat}, (c, m) ∈ wd → ∃ v, valV kvs (.inr (T [c])) = some v ∧ TupN F v m := fun h => al_get al (lookup_of_mem ok.deeds.nodup h)
    obtain ⟨v0, hv0, t0⟩ := hlook (c := d0) (m := m0) (by rw [hwd]; exact List.mem_cons_self)
    have pm0 : IsPerm n m0 := ok.perm (d0, m0) (by rw [hwd]; exact List.mem_cons_self)
    have hn0 := ok.pos
    refine i_seq (i_asg (i_ixd ?_))
    repeat trivial
    refine o_ix_s (i := 0) hdl (by rw [hwd]; rfl) ?_
    refine o_getD (k := .inr (T [d0])) hH hv0 ?_
    obtain ⟨b0, rfl, rb0⟩ := t0
    have rb0' := Ex.rd hs.fz rb0
    repeat trivial
    refine o_isi_tup rb0' ?_
    repeat trivial
    refine o_len_t (hs.sqT rb0) ?_
    rw [List.length_map, pm0.len]
    repeat trivial
    refine ite_d (fun _ => ?_) fun z => absurd (by omega) z
    repeat trivial
    refine ite_nd (fun _ => ?_) fun z => absurd (by omega) z
    repeat trivial
    refine i_for_s ?_
    repeat trivial
    refine e_for_s (fun i σ H' => (∃ u, σ = [some (S (wd.map (·.1))), some (.ref a), u, some (.ref b0)]) ∧ HS F M H') ⟨⟨_, rfl⟩, hs⟩ ?_ ?_
    · rintro i c σ H' hc ⟨⟨u, rfl⟩, p⟩
      obtain ⟨⟨c', m⟩, hi, rfl⟩ := get_map hc
      obtain ⟨v, hv, t⟩ := hlook (mem_of_get2 hi)
      have pm : IsPerm n m := ok.perm _ (mem_of_get2 hi)
      repeat trivial
      refine o_len_t (p.sqT rb0) ?_
      rw [List.length_map, pm0.len]
      refine i_cons (i_ixd ?_)
      repeat trivial
      refine o_getD (k := .inr (T [c])) (p.fget ha) hv ?_
      repeat trivial
      refine ⟨_, _, rfl, F, M, n, m, rfl, t, p, pm, by omega, fun H'' p2 => ?_⟩
      repeat trivial
      exact ⟨⟨_, rfl⟩, p2⟩
    · rintro σ H' ⟨⟨u, rfl⟩, p⟩
      repeat trivial
      exact q _ p
theorem both_take {wd : WD} {i : Nat} {p : Nat × List Nat} (h : wd[i]? = some p) : both (wd.take (i + 1)) = both (wd.take i) ++ [(p.1, p.2), (up p.1, inv p.2)] := by
  rw [take_succ_of h]
  unfold both
  rw [List.flatMap_append]
  rfl
theorem mem_both {wd : WD} {q : Nat × List Nat} (h : q ∈ both wd) : ∃ p ∈ wd, q = p ∨ q = (up p.1, inv p.2) := by
  unfold both at h
  obtain ⟨p, hp, hq⟩ := List.mem_flatMap.mp h
  rcases List.mem_cons.mp hq with rfl | hq
  · exact ⟨p, hp, .inl rfl⟩
  · rw [List.mem_singleton] at hq
    exact ⟨p, hp, .inr hq⟩
theorem both_len (wd : WD) : (both wd).length = 2 * wd.length := by
  unfold both
  induction wd with
  | nil => rfl
  | cons c r ih => rw [List.flatMap_cons, List.length_append, ih, List.length_cons]; simp; omega
theorem flip_low {c : Nat} (h : 97 ≤ c) : flip c = up c := by
  unfold flip up
  rw [if_neg (by omega)]
theorem flip_up {c : Nat} (h : 97 ≤ c ∧ c ≤ 122) : flip (up c) = c := by
  unfold flip up
  rw [if_pos (by omega)]
  omega
theorem get_take_mem {α : Type} {l : List α} {i : Nat} {x : α} (h : x ∈ l.take i) : ∃ j, j < i ∧ l[j]? = some x := by
  obtain ⟨j, hj, e⟩ := List.getElem_of_mem h
  rw [List.getElem_take] at e
  rw [List.length_take] at hj
  exact ⟨j, by omega, by rw [← e]; exact List.getElem?_eq_getElem _⟩
theorem pure_all_moves (h : sp_all_moves vs H Q E) : t_all_moves K (fin Q) (start N_all_moves vs) H := by
  obtain ⟨x, y, rfl, F, M, wd, n, rfl, ⟨a, kvs, rfl, ha, al⟩, hs, ok, hn, q⟩ := h
  unfold t_all_moves
  have hd4 := ok.deeds.len
  rw [List.length_map] at hd4
  have hlook : ∀ {c : Nat} {m : List Nat}, (c, m) ∈ wd → ∃ v, valV kvs (.inr (T [c])) = some v ∧ TupN F v m := fun h => al_get al (lookup_of_mem ok.deeds.nodup h)
  repeat trivial
  refine i_dnew fun D hD => ?_
  have p := hs.new hD (o := .dK [])
  repeat trivial
  refine i_for_s ?_
  repeat trivial
  refine e_for_s (fun i σ H' => (∃ u, σ = [some (S (wd.map (·.1))), some (.ref a), some (.ref D), u]) ∧ ∃ (F' : Hp) (ks : List (Key × V)), Ex F F' ∧ HS F' ((D, .dK ks) :: M) H' ∧ AL F' (both (wd.take i)) ks) ⟨⟨_, rfl⟩, F, [], Ex.refl F, p, .nil⟩ ?_ ?_
  · rintro i c σ H' hc ⟨⟨u, rfl⟩, F', ks, ex, p, al'⟩
    obtain ⟨⟨c', m⟩, hi, rfl⟩ := get_map hc
    obtain ⟨v, hv, t⟩ := hlook (mem_of_get2 hi)
    have pm : IsPerm n m := ok.perm _ (mem_of_get2 hi)
    have hcd := ok.deeds.lt c (mem_of_get hc)
    have hold : ∀ q ∈ both (wd.take i), q.1 ≠ c ∧ q.1 ≠ up c := by
      intro q hq
      obtain ⟨p, hp, e⟩ := mem_both hq
      obtain ⟨j, hj, hjp⟩ := get_take_mem hp
      have hpd := ok.deeds.lt p.1 (List.mem_map_of_mem (mem_of_get2 hjp))
      have hne : p.1 ≠ c := fun z => by
        have g1 : (wd.map (·.1))[j]? = some c := by rw [get_of_map hjp, z]
        obtain ⟨hj1, e1⟩ := List.getElem?_eq_some_iff.mp g1
        obtain ⟨hi1, e2⟩ := List.getElem?_eq_some_iff.mp hc
        have := (List.getElem_inj ok.deeds.nodup).mp (e1.trans e2.symm)
        omega
      have hcd1 := hcd.1
      have hcd2 := hcd.2
      rcases e with rfl | rfl
      · refine ⟨hne, ?_⟩
        show q.1 ≠ c - 32
        omega
      · constructor
        · show p.1 - 32 ≠ c
          omega
        · show p.1 - 32 ≠ c - 32
          omega
    have hl : (both (wd.take i)).length ≤ 8 := by
      rw [both_len, List.length_take]
      omega
    have hks := al_len al'
    repeat trivial
    refine i_putD (i_ixd ?_)
    repeat trivial
    refine o_getD (k := .inr (T [c])) (p.fget (ex _ _ ha)) hv ?_
    repeat trivial
    refine o_putD (k := .inr (T [c])) p.get (line_gt (by omega)) (al_none al' fun q hq => (hold q hq).1) ?_
    have p2 := p.wr (u := .dK (ks ++ [(.inr (T [c]), v)]))
    have al2 : AL F' (both (wd.take i) ++ [(c, m)]) (ks ++ [(.inr (T [c]), v)]) := paired_app al' (.cons ⟨rfl, ex.tup t⟩ .nil)
    repeat trivial
    refine i_putD (i_call (i_cons (i_ixd ?_)))
    repeat trivial
    refine o_getD (k := .inr (T [c])) (p2.fget (ex _ _ ha)) hv ?_
    repeat trivial
    refine ⟨_, rfl, F', _, n, m, ex.tup t, p2, pm, hn, fun v2 F2 H2 ex2 p3 t2 => ?_⟩
    repeat trivial
    refine ⟨_, rfl, c, rfl, .inl hcd, ?_⟩
    rw [flip_low hcd.1]
    refine o_putD (k := .inr (T [up c])) p3.get ?_ (al_none al2 fun q hq => ?_) ?_
    · rw [List.length_append, List.length_singleton]
      exact line_gt (by omega)
    · rcases List.mem_append.mp hq with hq | hq
      · exact (hold q hq).2
      · rw [List.mem_singleton] at hq
        subst hq
        show c ≠ c - 32
        omega
    · refine ⟨⟨_, rfl⟩, F2, _, ex.trans ex2, p3.wr, ?_⟩
      rw [both_take hi]
      have := paired_app (ex2.al al2) (.cons (a := (up c, inv m)) (b := ((.inr (T [up c])), v2)) ⟨rfl, t2⟩ .nil)
      rw [List.append_assoc] at this
      exact this
  · rintro σ H' ⟨⟨u, rfl⟩, F', ks, ex, p, al'⟩
    repeat trivial
    rw [take_all (by rw [List.length_map])] at al'
    refine q _ _ _ (ex.trans p.frzEx) p.frz ⟨D, ks, rfl, upd_same, p.frzEx.al al'⟩
end
end Rb

set_option maxHeartbeats 2000000
namespace Rb
open PySem PySem.Spec PyProof.Rows L2
local macro_rules | `(tactic| trivial) => `(tactic| with_reducible first
  | refine i_seq ?_ | refine i_nx ?_ | refine i_ret ?_ | refine i_retN ?_ | refine i_drop ?_ | refine i_ifS ?_ | refine i_asg ?_ | refine i_name ?_ | refine i_sub ?_
  | refine ite_t ?_ | refine ite_f ?_ | refine not_t ?_ | refine not_f ?_ | refine i_test ?_ | refine i_bl ?_ | refine i_not ?_ | refine i_and ?_ | refine i_or ?_ | refine i_tr ?_ | refine i_trb ?_ | refine i_yes ?_ | refine i_chain ?_
  | refine i_var rfl ?_ | refine i_c ?_ | refine i_op ?_ | refine i_if ?_ | refine i_andV ?_ | refine i_orV ?_ | refine i_notV ?_ | refine ite_nt ?_ | refine ite_nf ?_ | refine i_nil ?_ | refine i_cons ?_ | refine i_cb ?_ | refine i_call ?_ | refine i_callS ?_
  | refine o_gt ?_ | refine o_lt ?_ | refine o_ge ?_ | refine o_le ?_ | refine o_subI ?_ | refine i_m0 ?_ | refine i_m1 ?_ | refine i_ix ?_ | refine i_fld ?_ | refine i_lst ?_ | refine i_tup ?_)
section
variable {K : PySem.W.Frag} {vs : List V} {H : Hp} {Q : VK} {E : XK} {D : Ends}
structure Deeds' (ds : List Nat) : Prop where
  lt : ∀ d ∈ ds, 97 ≤ d ∧ d ≤ 122
  nd : ds.Nodup
theorem Deeds'.tail {d : Nat} {ds : List Nat} (h : Deeds' (d :: ds)) : Deeds' ds := ⟨fun x hx => h.lt x (List.mem_cons_of_mem _ hx), (List.nodup_cons.mp h.nd).2⟩
/-! fields -/
theorem o_fld {a C dx : Addr} {fs : List (Str × V)} {f : Str} {v : V} {QV : V → Prop} (e : H a = some (.ins C dx fs)) (c : Cls K C) (n : NoAttr K C f) (l : fs.lookup f = some v) (q : QV v) :
    ∃ b C dx fs v, V.ref a = .ref b ∧ H b = some (.ins C dx fs) ∧ Cls K C ∧ NoAttr K C f ∧ fs.lookup f = some v ∧ QV v := ⟨a, C, dx, fs, v, rfl, e, c, n, l, q⟩
theorem i_sfld {ta tv : TE} {f : Str} {σ : L2.St} (h : tv σ H fun y H1 => ta σ H1 fun x H2 => ∃ a C dx fs, x = .ref a ∧ H2 a = some (.ins C dx fs) ∧ Cls K C ∧ NoAttr K C f ∧ fs.length < 1000 ∧
  D.nx σ (upd H2 a (.ins C dx (putF f y fs)))) : sFld K ta tv f D σ H := h
theorem o_sfld {a C dx : Addr} {fs fs' : List (Str × V)} {f : Str} {v : V} {R : Hp → Prop} (e : H a = some (.ins C dx fs)) (c : Cls K C) (n : NoAttr K C f) (l : fs.length < 1000) (eq : putF f v fs = fs') (q : R (upd H a (.ins C dx fs'))) :
    ∃ b C dx fs, V.ref a = .ref b ∧ H b = some (.ins C dx fs) ∧ Cls K C ∧ NoAttr K C f ∧ fs.length < 1000 ∧ R (upd H b (.ins C dx (putF f v fs))) := ⟨a, C, dx, fs, rfl, e, c, n, l, by rw [eq]; exact q⟩
theorem putK_le {κ : Type} [DecidableEq κ] (kvs : List (κ × V)) (k : κ) (v : V) : (putK kvs k v).length ≤ kvs.length + 1 := by
  unfold putK
  split
  · rw [List.length_map]; omega
  · rw [List.length_append, List.length_singleton]; omega
theorem lets_is {ds : List Nat} {c : Nat} (h : c ∈ lets ds) : ∃ d ∈ ds, c = d ∨ c = up d := by
  unfold lets at h
  obtain ⟨d, hd, hc⟩ := List.mem_flatMap.mp h
  rcases List.mem_cons.mp hc with rfl | hc
  · exact ⟨_, hd, .inl rfl⟩
  · rw [List.mem_singleton] at hc
    exact ⟨d, hd, .inr hc⟩
theorem WOk.both_nodup {n : Nat} : ∀ {wd : WD}, Deeds' (wd.map (·.1)) → ((both wd).map (·.1)).Nodup
  | [], _ => List.nodup_nil
  | p :: r, h => by
    have ih := WOk.both_nodup (n := n) (wd := r) h.tail
    unfold both at ih ⊢
    rw [List.flatMap_cons, List.map_append, List.nodup_append]
    have h1 := h.lt p.1 (by simp)
    have hx : ∀ q ∈ r, 97 ≤ q.1 ∧ q.1 ≤ 122 ∧ q.1 ≠ p.1 := fun q hq => by
      have h2 := h.lt q.1 (List.mem_map.mpr ⟨q, List.mem_cons_of_mem _ hq, rfl⟩)
      exact ⟨h2.1, h2.2, fun z => (List.nodup_cons.mp h.nd).1 (List.mem_map.mpr ⟨q, hq, z⟩)⟩
    refine ⟨?_, ih, ?_⟩
    · rw [List.map_cons, List.map_cons, List.map_nil, List.nodup_cons]
      refine ⟨fun z => ?_, by simp⟩
      rw [List.mem_singleton] at z
      have : p.1 = p.1 - 32 := z
      omega
    · intro a ha b hb e
      obtain ⟨q, hq, rfl⟩ := List.mem_map.mp hb
      obtain ⟨p', hp', hq⟩ := List.mem_flatMap.mp hq
      have g := hx p' hp'
      have hup : ∀ c, up c = c - 32 := fun _ => rfl
      rw [List.map_cons, List.map_cons, List.map_nil] at ha
      rcases List.mem_cons.mp hq with rfl | hq <;> rcases List.mem_cons.mp ha with rfl | ha
      · exact g.2.2 e.symm
      · rw [List.mem_singleton] at ha
        subst ha
        have : up p.1 = p'.1 := e
        rw [hup] at this
        omega
      · rw [List.mem_singleton] at hq
        subst hq
        have : p.1 = up p'.1 := e
        rw [hup] at this
        omega
      · rw [List.mem_singleton] at ha hq
        subst ha hq
        have : up p.1 = up p'.1 := e
        rw [hup, hup] at this
        exact g.2.2 (by omega)
theorem Deeds.flat {ds : List Nat} (h : Deeds ds) : Deeds' ds := ⟨h.lt, h.nodup⟩
theorem both_nodup {wd : WD} (h : Deeds (wd.map (·.1))) : ((both wd).map (·.1)).Nodup := WOk.both_nodup (n := 0) h.flat
/-- each letter has its move, and its undoing -/
theorem letter_has {wd : WD} (h : Deeds (wd.map (·.1))) {c : Nat} (hc : c ∈ lets (wd.map (·.1))) : ∃ m, (both wd).lookup c = some m ∧ (both wd).lookup (flip c) = some (inv m) ∨ (∃ m, (both wd).lookup c = some (inv m) ∧ (both wd).lookup (flip c) = some m) := by
  obtain ⟨d, hd, e⟩ := lets_is hc
  obtain ⟨⟨d', m⟩, hp, rfl⟩ := List.mem_map.mp hd
  have hdl := h.lt d' hd
  have h1 : (both wd).lookup d' = some m := lookup_of_mem (both_nodup h) (by unfold both; exact List.mem_flatMap.mpr ⟨_, hp, List.mem_cons_self⟩)
  have h2 : (both wd).lookup (up d') = some (inv m) := lookup_of_mem (both_nodup h) (by unfold both; exact List.mem_flatMap.mpr ⟨_, hp, List.mem_cons_of_mem _ List.mem_cons_self⟩)
  refine ⟨m, ?_⟩
  rcases e with e | e
  · left
    rw [show c = d' from e, flip_low hdl.1]
    exact ⟨h1, h2⟩
  · right
    refine ⟨m, ?_⟩
    rw [show c = up d' from e, flip_up hdl]
    exact ⟨h2, h1⟩

/-- a letter's move stands in the table -/
theorem letter_move {wd : WD} {n : Nat} (ok : WOk wd n) {c : Nat} (hc : c ∈ lets (wd.map (·.1))) : (both wd).lookup c = some (mv (both wd) c) ∧ IsPerm n (mv (both wd) c) ∧ ∃ m, (both wd).lookup (flip c) = some m := by
  have key : ∀ {m}, (both wd).lookup c = some m → IsPerm n m := fun h => by
    obtain ⟨p, hp, e⟩ := mem_both (lookup_mem h)
    rcases e with e | e
    · subst e
      exact ok.perm _ hp
    · obtain ⟨_, rfl⟩ := Prod.mk.inj e
      exact (ok.perm p hp).inv
  obtain ⟨m, h | ⟨m, h⟩⟩ := letter_has ok.deeds hc
  · refine ⟨?_, ?_, _, h.2⟩
    · unfold mv; rw [h.1]; rfl
    · unfold mv; rw [h.1]; exact key h.1
  · refine ⟨?_, ?_, _, h.2⟩
    · unfold mv; rw [h.1]; rfl
    · unfold mv; rw [h.1]; exact key h.1
theorem flip_lets {ds : List Nat} (h : Deeds ds) {c : Nat} (hc : c ∈ lets ds) : 97 ≤ c ∧ c ≤ 122 ∨ 65 ≤ c ∧ c ≤ 90 := by
  obtain ⟨d, hd, e⟩ := lets_is hc
  have hl := h.lt d hd
  have hup : up d = d - 32 := rfl
  rcases e with rfl | rfl
  · exact .inl hl
  · right
    omega
theorem DictAt.get {F : Hp} {v : V} {wd : WD} (h : DictAt F v wd) : ∃ a kvs, v = .ref a ∧ F a = some (.dK kvs) ∧ AL F wd kvs := h
theorem pure_World_keep {C : Addr} (h : sp_World_keep K C vs H Q E) : t_World_keep K (fin Q) (start N_World_keep vs) H := by
  obtain ⟨x, y, z, rfl, F, M, p, dx, wd, n, rfl, rfl, ⟨a, kvs, rfl, ha, al⟩, hs, wc, ok, hn, q⟩ := h
  unfold t_World_keep
  have hd4 := ok.deeds.len
  have hd0 := ok.deeds.ne
  have hdl : (wd.map (·.1)).length ≤ sizeLine := line_ge (by omega)
  rw [List.length_map] at hd4 hd0
  obtain ⟨⟨d0, m0⟩, r, hwd⟩ : ∃ p r, wd = p :: r := by
    cases wd with
    | nil => exact absurd hd0 (Nat.lt_irrefl 0)
    | cons p r => exact ⟨p, r, rfl⟩
  have hlook : ∀ {c : Nat} {m : List Nat}, (c, m) ∈ wd → ∃ v, valV kvs (.inr (T [c])) = some v ∧ TupN F v m := fun h => al_get al (lookup_of_mem ok.deeds.nodup h)
  obtain ⟨v0, hv0, t0⟩ := hlook (c := d0) (m := m0) (by rw [hwd]; exact List.mem_cons_self)
  have pm0 : IsPerm n m0 := ok.perm (d0, m0) (by rw [hwd]; exact List.mem_cons_self)
  obtain ⟨b0, rfl, rb0⟩ := t0
  repeat trivial
  refine i_sfld ?_
  repeat trivial
  refine o_sfld (fs' := [("deeds", S (wd.map (·.1)))]) hs.get wc.cl wc.nD (by simp) rfl ?_
  have hs1 := hs.wr (u := .ins C dx [("deeds", S (wd.map (·.1)))])
  repeat trivial
  refine i_sfld (i_cb (i_cons (i_ixd ?_)))
  repeat trivial
  refine o_ix_s (i := 0) hdl (by rw [hwd]; rfl) ?_
  refine o_getD (k := .inr (T [d0])) (hs1.fget ha) hv0 ?_
  repeat trivial
  refine o_len_t (hs1.sqT rb0) ?_
  rw [List.length_map, pm0.len]
  repeat trivial
  refine o_sfld (fs' := [("deeds", S (wd.map (·.1))), ("size", iv n)]) hs1.get wc.cl wc.nS (by simp) rfl ?_
  have hs2 := hs1.wr (u := .ins C dx [("deeds", S (wd.map (·.1))), ("size", iv n)])
  repeat trivial
  refine i_sfld ?_
  repeat trivial
  refine ⟨_, _, rfl, F, _, wd, n, rfl, ⟨a, kvs, rfl, ha, al⟩, hs2, ok, hn, fun km F2 H2 ex2 hs3 dkm => ?_⟩
  repeat trivial
  refine o_sfld (fs' := [("deeds", S (wd.map (·.1))), ("size", iv n), ("kept_moves", km)]) hs3.get wc.cl wc.nM (by simp) rfl ?_
  have hs4 := hs3.wr (u := .ins C dx [("deeds", S (wd.map (·.1))), ("size", iv n), ("kept_moves", km)])
  refine i_sfld (i_dc_t ?_)
  repeat trivial
  refine ⟨_, rfl, F2, _, wd.map (·.1), rfl, hs4, ok.deeds, fun v F3 H3 ex3 hs5 ⟨l, hl, hlt⟩ => ?_⟩
  subst hl
  obtain ⟨ak, kk, rfl, hak, alk⟩ := dkm
  refine e_dc_t (xs := (lets (wd.map (·.1))).map fun c => S [c]) (hs5.sqT (.inl hlt)) fun B hB => ⟨fun i H' => ∃ ks, HS F3 ((B, .dK ks) :: (p, .ins C dx [("deeds", S (wd.map (·.1))), ("size", iv n), ("kept_moves", .ref ak)]) :: M) H' ∧ ks.length ≤ i,
    ⟨[], hs5.new hB, Nat.le_refl _⟩, fun i H' ⟨ks, p, _⟩ => p.sqT (.inl hlt), ?_, ?_⟩
  · rintro i x H' hx ⟨ks, pp, hl⟩
    obtain ⟨c, hc, rfl⟩ := get_map hx
    have hcm := mem_of_get hc
    have hi := get_lt hc
    rw [lets_len, List.length_map] at hi
    obtain ⟨_, _, m, hm⟩ := letter_move ok hcm
    obtain ⟨v, hv, t⟩ := al_get alk hm
    refine i_name ⟨rfl, ?_⟩
    refine i_yes (ite_t (i_var rfl (i_ixd (i_fld ?_))))
    repeat trivial
    refine o_fld (f := "kept_moves") pp.get1 wc.cl wc.nM rfl ?_
    repeat trivial
    refine ⟨_, rfl, c, rfl, flip_lets ok.deeds hcm, ?_⟩
    refine o_getD (k := .inr (T [flip c])) (pp.fget (ex3 _ _ hak)) hv ?_
    refine ⟨ks, .inr (T [c]), rfl, pp.get, line_gt (by omega), putK ks (.inr (T [c])) v, pp.wr, ?_⟩
    have := putK_le ks (.inr (T [c])) v
    omega
  · rintro H' ⟨ks, pp, hl⟩
    repeat trivial
    refine o_sfld (fs' := wf (wd.map (·.1)) n (.ref ak) (.ref B)) pp.get1 wc.cl wc.nB (by simp) rfl ?_
    have p2 := pp.wr1 (u := .ins C dx (wf (wd.map (·.1)) n (.ref ak) (.ref B)))
    refine q (upd F3 B (.dK ks)) _ _ _ (ex2.trans (ex3.trans p2.frzEx)) p2.frz ⟨ak, kk, rfl, p2.frzEx _ _ (ex3 _ _ hak), (ex3.trans p2.frzEx).al alk⟩
end
end Rb

set_option maxHeartbeats 2000000
namespace Rb
open PySem PySem.Spec PyProof.Rows L2
local macro_rules | `(tactic| trivial) => `(tactic| with_reducible first
  | refine i_seq ?_ | refine i_nx ?_ | refine i_ret ?_ | refine i_retN ?_ | refine i_drop ?_ | refine i_ifS ?_ | refine i_asg ?_ | refine i_name ?_ | refine i_sub ?_
  | refine ite_t ?_ | refine ite_f ?_ | refine not_t ?_ | refine not_f ?_ | refine i_test ?_ | refine i_bl ?_ | refine i_not ?_ | refine i_and ?_ | refine i_or ?_ | refine i_tr ?_ | refine i_trb ?_ | refine i_yes ?_ | refine i_chain ?_
  | refine i_var rfl ?_ | refine i_c ?_ | refine i_op ?_ | refine i_if ?_ | refine i_andV ?_ | refine i_orV ?_ | refine i_notV ?_ | refine ite_nt ?_ | refine ite_nf ?_ | refine i_nil ?_ | refine i_cons ?_ | refine i_cb ?_ | refine i_call ?_ | refine i_callS ?_
  | refine o_gt ?_ | refine o_lt ?_ | refine o_ge ?_ | refine o_le ?_ | refine o_subI ?_ | refine i_m0 ?_ | refine i_m1 ?_ | refine i_ix ?_ | refine i_fld ?_ | refine i_lst ?_ | refine i_tup ?_)
section
variable {K : PySem.W.Frag} {vs : List V} {H : Hp} {Q : VK} {E : XK} {D : Ends}
theorem wf_deeds {ds : List Nat} {n : Nat} {km kb : V} : (wf ds n km kb).lookup ("deeds" : Str) = some (S ds) := rfl
theorem wf_size {ds : List Nat} {n : Nat} {km kb : V} : (wf ds n km kb).lookup ("size" : Str) = some (iv n) := rfl
theorem wf_moves {ds : List Nat} {n : Nat} {km kb : V} : (wf ds n km kb).lookup ("kept_moves" : Str) = some km := rfl
theorem pure_World_init {C : Addr} (h : sp_World_init K C vs H Q E) : t_World_init K C (fin Q) (start N_World_init vs) H := by
  obtain ⟨x, y, z, rfl, F, M, p, dx, wd, n, rfl, rfl, dat, hs, wc, ok, hn, q⟩ := h
  unfold t_World_init
  repeat trivial
  refine ⟨_, rfl, wd.map (·.1), rfl, ok.deeds, ?_⟩
  repeat trivial
  refine ⟨_, _, rfl, F, _, wd, n, rfl, dat, hs, ok, hn, fun H1 hs1 => ?_⟩
  repeat trivial
  refine i_meth ?_
  repeat trivial
  refine ⟨p, dx, [], rfl, hs1.get, rfl, ?_⟩
  repeat trivial
  refine ⟨_, _, _, rfl, F, M, p, dx, wd, n, rfl, rfl, dat, hs1, wc, ok, by omega, fun F' H' km kb ex p2 d => ?_⟩
  repeat trivial
  exact q F' H' km kb ex p2 d
theorem pure_RawWorld_init {C : Addr} (h : sp_RawWorld_init K C vs H Q E) : t_RawWorld_init K C (fin Q) (start N_RawWorld_init vs) H := by
  obtain ⟨x, y, z, rfl, F, M, p, dx, wd, n, rfl, rfl, dat, hs, wc, ok, hn, q⟩ := h
  unfold t_RawWorld_init
  repeat trivial
  refine i_meth ?_
  repeat trivial
  refine ⟨p, dx, [], rfl, hs.get, rfl, ?_⟩
  repeat trivial
  refine ⟨_, _, _, rfl, F, M, p, dx, wd, n, rfl, rfl, dat, hs, wc, ok, by omega, fun F' H' km kb ex p2 d => ?_⟩
  repeat trivial
  exact q F' H' km kb ex p2 d
theorem low_look {wd : WD} (h : Deeds (wd.map (·.1))) {c : Nat} {m : List Nat} (hp : (c, m) ∈ wd) : (both wd).lookup c = some m :=
  lookup_of_mem (both_nodup h) (by unfold both; exact List.mem_flatMap.mpr ⟨_, hp, List.mem_cons_self⟩)
theorem pure_World_moves {C : Addr} (h : sp_World_moves K C vs H Q E) : t_World_moves K (fin Q) (start N_World_moves vs) H := by
  obtain ⟨x, rfl, F, M, wd, n, ⟨p, dx, km, kb, rfl, wc, hp, ⟨a, kvs, rfl, ha, al⟩, ok⟩, hs, q⟩ := h
  unfold t_World_moves
  have hd4 := ok.deeds.len
  rw [List.length_map] at hd4
  refine i_ret (i_dc_s ?_)
  repeat trivial
  refine o_fld (f := "deeds") (hs.fget hp) wc.cl wc.nD wf_deeds ?_
  refine e_dc_s fun D hD => ⟨fun i H' => ∃ ks, HS F ((D, .dK ks) :: M) H' ∧ AL F (wd.take i) ks, ⟨[], hs.new hD, .nil⟩, ?_, ?_⟩
  · rintro i c H' hc ⟨ks, pp, al'⟩
    obtain ⟨⟨c', m⟩, hi, rfl⟩ := get_map hc
    obtain ⟨v, hv, t⟩ := al_get al (low_look ok.deeds (mem_of_get2 hi))
    refine i_name ⟨rfl, ?_⟩
    refine i_yes (ite_t (i_var rfl (i_ixd (i_fld ?_))))
    repeat trivial
    refine o_fld (f := "kept_moves") (pp.fget hp) wc.cl wc.nM wf_moves ?_
    repeat trivial
    refine o_getD (k := .inr (T [c])) (pp.fget ha) hv ?_
    have hl := al_len al'
    have hl2 : (wd.take i).length ≤ 4 := by rw [List.length_take]; omega
    have hnew : valV ks (.inr (T [c])) = none := al_none al' fun q hq z => by
      obtain ⟨j, hj, hjp⟩ := get_take_mem hq
      have g1 : (wd.map (·.1))[j]? = some c := by rw [get_of_map hjp, z]
      obtain ⟨hj1, e1⟩ := List.getElem?_eq_some_iff.mp g1
      obtain ⟨hi1, e2⟩ := List.getElem?_eq_some_iff.mp hc
      have := (List.getElem_inj ok.deeds.nodup).mp (e1.trans e2.symm)
      omega
    refine ⟨ks, .inr (T [c]), rfl, pp.get, line_gt (by omega), ks ++ [(.inr (T [c]), v)], ?_, ?_⟩
    · rw [putK_new v hnew]
      exact pp.wr
    · rw [take_succ_of hi]
      exact paired_app al' (.cons ⟨rfl, t⟩ .nil)
  · rintro H' ⟨ks, pp, al'⟩
    rw [take_all (by rw [List.length_map])] at al'
    exact q _ _ _ pp.frzEx pp.frz ⟨D, ks, rfl, upd_same, pp.frzEx.al al'⟩
/-! tuples of ints, compared as data -/
theorem dp_all (H : Hp) : ∀ ns : List Nat, DpAll K H (ns.map iv) (ns.map fun s : Nat => PyData.int (s : Int))
  | [] => .nil
  | n :: r => .cons (.int _) (dp_all H r)
theorem can_ints : ∀ ns : List Nat, PyData.canLayAll0 (ns.map fun s : Nat => PyData.int (s : Int)) = true
  | [] => rfl
  | n :: r => by
    show (true && _) = true
    rw [can_ints r]
    rfl
theorem depth_ints : ∀ ns : List Nat, PyData.depthAll (ns.map fun s : Nat => PyData.int (s : Int)) = 0
  | [] => rfl
  | n :: r => by
    show max 0 _ = 0
    rw [depth_ints r]
    rfl
theorem eqv_ints : ∀ ns : List Nat, PyData.eqvAll (ns.map fun s : Nat => PyData.int (s : Int)) (ns.map fun s : Nat => PyData.int (s : Int)) = true
  | [] => rfl
  | n :: r => by
    show ((n : Int) == (n : Int) && _) = true
    rw [eqv_ints r]
    simp
theorem alike_tup {F : Hp} {v w : V} {ns : List Nat} (hv : TupN F v ns) (hw : TupN F w ns) : AlikeD K F v w := by
  obtain ⟨a, rfl, ra⟩ := hv
  obtain ⟨b, rfl, rb⟩ := hw
  have hd : (PyData.tuple (ns.map fun s : Nat => PyData.int (s : Int))).depth = 1 := by
    show PyData.depthAll _ + 1 = 1
    rw [depth_ints]
  have hsh : SeqAt.shaped (.tuple (ns.map fun s : Nat => PyData.int (s : Int))) = true := by
    show (PyData.canLayAll0 _ && decide (_ ≤ 64)) = true
    rw [can_ints, hd]
    rfl
  exact ⟨_, _, .tup (.inl ra) (dp_all F ns), .tup (.inl rb) (dp_all F ns), hsh, hsh, by rw [hd]; decide, eqv_ints ns⟩
theorem al_alike {F : Hp} {wd wl : WD} {ks ls : List (Key × V)} : AL F wd ks → AL F wl ls → (∀ c m, (c, m) ∈ wd → wl.lookup c = some m) → ∀ p ∈ ks, ∃ v, valV ls p.1 = some v ∧ AlikeD K F p.2 v := by
  intro h1 h2 hh p hp
  obtain ⟨i, hi, e⟩ := List.getElem_of_mem hp
  obtain ⟨q, hq, hk, ht⟩ := paired_get_r h1 (List.getElem?_eq_getElem hi)
  rw [e] at hk ht
  obtain ⟨v, hv, t⟩ := al_get h2 (hh q.1 q.2 (mem_of_get2 hq))
  rw [hk]
  exact ⟨v, hv, alike_tup ht t⟩
theorem pure_World_eq {C CW : Addr} (hk : PySem.W.kitOne K (.ref C) (.ref CW) = some true) (h : sp_World_eq K C vs H Q E) : t_World_eq K CW (fin Q) (start N_World_eq vs) H := by
  obtain ⟨a, b, rfl, ⟨wd, n, ⟨p1, dx, km, kb, e1, wc, hp, ⟨a1, k1, rfl, ha1, al1⟩, ok⟩, ⟨p2, dx2, km2, kb2, e2, _, hp2, ⟨a2, k2, rfl, ha2, al2⟩, _⟩⟩, q⟩ := h
  cases e1
  cases e2
  unfold t_World_eq
  repeat trivial
  refine o_isi (.own CW) (.base (.ins hp2 wc.cl wc.ha wc.hn wc.htk wc.hm)) hk ?_
  repeat trivial
  refine o_fld (f := "deeds") hp wc.cl wc.nD wf_deeds ?_
  repeat trivial
  refine o_fld (f := "deeds") hp2 wc.cl wc.nD wf_deeds ?_
  refine o_eqS ?_
  rw [decide_eq_true rfl]
  repeat trivial
  refine o_fld (f := "kept_moves") hp wc.cl wc.nM wf_moves ?_
  repeat trivial
  refine o_fld (f := "kept_moves") hp2 wc.cl wc.nM wf_moves ?_
  have hl1 := al_len al1
  have hl2 := al_len al2
  refine ⟨a1, a2, k1, k2, rfl, rfl, ha1, ha2, by omega, al_alike al1 al2 fun c m hm => lookup_of_mem (both_nodup ok.deeds) hm, ?_⟩
  exact q _ Ext.rfl'
theorem pure_check_standing (h : sp_check_standing K vs H Q E) : t_check_standing K (fin Q) (start N_check_standing vs) H := by
  obtain ⟨x, y, rfl, C, wd, n, s, ⟨p, dx, km, kb, rfl, wc, hp, _, ok⟩, rfl, hs, q⟩ := h
  unfold t_check_standing
  repeat trivial
  refine o_fld (f := "size") hp wc.cl wc.nS wf_size ?_
  repeat trivial
  refine ⟨_, _, rfl, n, s, rfl, rfl, hs, ?_⟩
  repeat trivial
theorem rowMove_snoc (al : WD) (n : Nat) (rs : List Nat) (c : Nat) : rowMove al n (rs ++ [c]) = comp (rowMove al n rs) (mv al c) := by
  unfold rowMove
  rw [List.foldl_append]
  rfl
theorem rowMove_perm {wd : WD} {n : Nat} (ok : WOk wd n) : ∀ {rs : List Nat}, (∀ c ∈ rs, c ∈ lets (wd.map (·.1))) → IsPerm n (rowMove (both wd) n rs) := by
  intro rs
  suffices h : ∀ (f : List Nat), IsPerm n f → (∀ c ∈ rs, c ∈ lets (wd.map (·.1))) → IsPerm n (rs.foldl (fun f c => comp f (mv (both wd) c)) f) from h _ (IsPerm.range n)
  induction rs with
  | nil => exact fun f p _ => p
  | cons c r ih =>
    intro f p h
    exact ih _ (p.comp (letter_move ok (h c List.mem_cons_self)).2.1) fun x hx => h x (List.mem_cons_of_mem _ hx)
theorem pure_row_move (h : sp_row_move K vs H Q E) : t_row_move K (fin Q) (start N_row_move vs) H := by
  obtain ⟨x, y, rfl, F, M, C, wd, n, rs, ⟨p, dx, km, kb, rfl, wc, hp, ⟨a, kvs, rfl, ha, al⟩, ok⟩, rfl, hs, hn, hr, q⟩ := h
  unfold t_row_move
  repeat trivial
  refine o_fld (f := "size") (hs.fget hp) wc.cl wc.nS wf_size ?_
  repeat trivial
  refine ⟨_, rfl, F, M, n, rfl, hs, hn, fun v F1 H1 ex1 hs1 t1 => ?_⟩
  repeat trivial
  refine i_for_s ?_
  repeat trivial
  refine e_for_s (fun i σ H' => ∃ u w F', σ = [some (.ref p), some (S rs), some u, w] ∧ Ex F F' ∧ HS F' M H' ∧ TupN F' u (rowMove (both wd) n (rs.take i))) ⟨v, _, F1, rfl, ex1, hs1, t1⟩ ?_ ?_
  · rintro i c σ H' hc ⟨u, w, F', rfl, ex, pp, t⟩
    have hcm := hr c (mem_of_get hc)
    obtain ⟨hlk, pm, _⟩ := letter_move ok hcm
    obtain ⟨v2, hv2, t2⟩ := al_get al hlk
    refine i_name (i_asg (i_call (i_cons (i_var rfl (i_cons (i_ixd (i_fld ?_)))))))
    repeat trivial
    refine o_fld (f := "kept_moves") (pp.fget (ex _ _ hp)) wc.cl wc.nM wf_moves ?_
    repeat trivial
    refine o_getD (k := .inr (T [c])) (pp.fget (ex _ _ ha)) hv2 ?_
    repeat trivial
    refine ⟨_, _, rfl, F', M, n, _, _, t, ex.tup t2, pp, rowMove_perm ok fun c hc => hr c (List.mem_of_mem_take hc), pm, hn, fun v3 F3 H3 ex3 p3 t3 => ?_⟩
    repeat trivial
    refine ⟨v3, _, F3, rfl, ex.trans ex3, p3, ?_⟩
    rw [take_succ_of hc, rowMove_snoc]
    exact t3
  · rintro σ H' ⟨u, w, F', rfl, ex, pp, t⟩
    repeat trivial
    rw [List.take_length] at t
    exact q _ _ _ ex pp t
theorem ledBy_snoc (al : WD) (s : Nat) (rs : List Nat) (c : Nat) : ledBy al s (rs ++ [c]) = (mv al c).getD (ledBy al s rs) 0 := by
  unfold ledBy
  rw [List.foldl_append]
  rfl
theorem led_lt {wd : WD} {n : Nat} (ok : WOk wd n) : ∀ {rs : List Nat} {s : Nat}, s < n → (∀ c ∈ rs, c ∈ lets (wd.map (·.1))) → ledBy (both wd) s rs < n
  | [], s, h, _ => h
  | c :: r, s, h, hr => led_lt ok (rs := r) ((letter_move ok (hr c List.mem_cons_self)).2.1.at_lt h) fun x hx => hr x (List.mem_cons_of_mem _ hx)
theorem pure_led (h : sp_led K vs H Q E) : t_led K (fin Q) (start N_led vs) H := by
  obtain ⟨x, y, z, rfl, C, wd, n, s, rs, wat, rfl, hs, rfl, hr, q⟩ := h
  have wat' := wat
  obtain ⟨p, dx, km, kb, rfl, wc, hp, ⟨a, kvs, rfl, ha, al⟩, ok⟩ := wat'
  unfold t_led
  repeat trivial
  refine ⟨_, _, rfl, C, wd, n, s, wat, rfl, hs, ?_⟩
  repeat trivial
  refine o_fld (f := "deeds") hp wc.cl wc.nD wf_deeds ?_
  repeat trivial
  refine ⟨_, _, rfl, _, rs, rfl, rfl, ok.deeds, hr, ?_⟩
  repeat trivial
  refine i_for_s ?_
  repeat trivial
  refine e_for_s (fun i σ H' => (∃ w, σ = [some (.ref p), some (iv (ledBy (both wd) s (rs.take i))), some (S rs), w]) ∧ H' = H) ⟨⟨_, rfl⟩, rfl⟩ ?_ ?_
  · rintro i c σ H' hc ⟨⟨w, rfl⟩, rfl⟩
    have hcm := hr c (mem_of_get hc)
    obtain ⟨hlk, pm, _⟩ := letter_move ok hcm
    obtain ⟨v2, hv2, t2⟩ := al_get al hlk
    obtain ⟨b, rfl, rb⟩ := t2
    refine i_name (i_asg (i_ix (i_ixd (i_fld ?_))))
    repeat trivial
    refine o_fld (f := "kept_moves") hp wc.cl wc.nM wf_moves ?_
    repeat trivial
    refine o_getD (k := .inr (T [c])) ha hv2 ?_
    repeat trivial
    have hlt := led_lt ok hs fun c hc => hr c (List.mem_of_mem_take (i := i) hc)
    refine o_ix_t (.inl rb) (get_of_map (get_getD (by rw [pm.len]; exact hlt))) ?_
    repeat trivial
    refine ⟨⟨some (S [c]), ?_⟩, rfl⟩
    rw [take_succ_of hc, ledBy_snoc]
    rfl
  · rintro σ H' ⟨⟨w, rfl⟩, rfl⟩
    repeat trivial
    rw [List.take_length]
    exact q
theorem pure_move_of (h : sp_move_of K vs H Q E) : t_move_of K (fin Q) (start N_move_of vs) H := by
  obtain ⟨x, y, rfl, F, M, C, wd, n, rs, wat, rfl, hs, hn, hr, q⟩ := h
  have wat' := wat
  obtain ⟨p, dx, km, kb, rfl, wc, hp, _, ok⟩ := wat'
  unfold t_move_of
  repeat trivial
  refine o_fld (f := "deeds") (hs.fget hp) wc.cl wc.nD wf_deeds ?_
  repeat trivial
  refine ⟨_, _, rfl, _, rs, rfl, rfl, ok.deeds, hr, ?_⟩
  repeat trivial
  exact ⟨_, _, rfl, F, M, C, wd, n, rs, wat, rfl, hs, hn, hr, q⟩
theorem pure_order (h : sp_order K vs H Q E) : t_order K (fin Q) (start N_order vs) H := by
  obtain ⟨x, y, rfl, F, M, C, wd, n, rs, wat, rfl, hs, hn, hr, q⟩ := h
  have wat' := wat
  obtain ⟨p, dx, km, kb, rfl, wc, hp, _, ok⟩ := wat'
  unfold t_order
  repeat trivial
  refine o_fld (f := "deeds") (hs.fget hp) wc.cl wc.nD wf_deeds ?_
  repeat trivial
  refine ⟨_, _, rfl, _, rs, rfl, rfl, ok.deeds, hr, ?_⟩
  repeat trivial
  refine ⟨_, _, rfl, F, M, C, wd, n, rs, wat, rfl, hs, hn, hr, fun v F' H' ex p t => ?_⟩
  repeat trivial
  exact ⟨_, rfl, F', M, n, _, t, p, rowMove_perm ok hr, hn, fun o F2 H2 oo ex2 p2 => q o F2 H2 oo (ex.trans ex2) p2⟩
end
end Rb

set_option maxHeartbeats 2000000
namespace Rb
open PySem PySem.Spec PyProof.Rows L2
local macro_rules | `(tactic| trivial) => `(tactic| with_reducible first
  | refine i_seq ?_ | refine i_nx ?_ | refine i_ret ?_ | refine i_retN ?_ | refine i_drop ?_ | refine i_ifS ?_ | refine i_asg ?_ | refine i_name ?_ | refine i_sub ?_
  | refine ite_t ?_ | refine ite_f ?_ | refine not_t ?_ | refine not_f ?_ | refine i_test ?_ | refine i_bl ?_ | refine i_not ?_ | refine i_and ?_ | refine i_or ?_ | refine i_tr ?_ | refine i_trb ?_ | refine i_yes ?_ | refine i_chain ?_
  | refine i_var rfl ?_ | refine i_c ?_ | refine i_op ?_ | refine i_if ?_ | refine i_andV ?_ | refine i_orV ?_ | refine i_notV ?_ | refine ite_nt ?_ | refine ite_nf ?_ | refine i_nil ?_ | refine i_cons ?_ | refine i_cb ?_ | refine i_call ?_ | refine i_callS ?_
  | refine o_gt ?_ | refine o_lt ?_ | refine o_ge ?_ | refine o_le ?_ | refine o_subI ?_ | refine i_m0 ?_ | refine i_m1 ?_ | refine i_ix ?_ | refine i_fld ?_ | refine i_lst ?_ | refine i_tup ?_)
section
variable {K : PySem.W.Frag} {vs : List V} {H : Hp} {Q : VK} {E : XK} {D : Ends}
theorem pure_check_same_deeds {CO : Addr} (h : sp_check_same_deeds K CO vs H Q E) : t_check_same_deeds K CO E (fin Q) (start N_check_same_deeds vs) H := by
  obtain ⟨x, y, rfl, C, C', wd, n, wd', n', ⟨p, dx, km, kb, rfl, wc, hp, _, ok⟩, ⟨p', dx', km', kb', rfl, wc', hp', _, ok'⟩, q1, q2⟩ := h
  unfold t_check_same_deeds
  repeat trivial
  refine o_fld (f := "deeds") hp wc.cl wc.nD wf_deeds ?_
  repeat trivial
  refine o_fld (f := "deeds") hp' wc'.cl wc'.nD wf_deeds ?_
  refine o_neS ?_
  repeat trivial
  refine ite_nd (fun e => ?_) fun e => ?_
  · repeat trivial
    exact q1 (T_inj e)
  · exact q2 fun z => e (by rw [z])
theorem i_raiseB {CT : Addr} {f : Str} {W : WX} {ta : TA} {σ : L2.St} (h : ta σ H fun vs H1 => ∃ v, vs = [v] ∧ ∀ d, H1 d = none → W (.ref CT) (some d) σ (upd H1 d (.xd [(f, v)]))) : tRaiseB CT f W ta D σ H := h
theorem i_make {C : Addr} {sp : Sp} {tt : TA} {σ : L2.St} (h : tt σ H fun vs H1 => ∀ x dx, H1 x = none → H1 dx = none → dx ≠ x → sp (.ref x :: (vs ++ [])) (upd (upd H1 dx (.own x)) x (.ins C dx [])) (fun v H2 => v = .non ∧ Q (.ref x) H2) E) : tMake C sp [] E tt σ H Q := h
theorem beside_snoc (a : List Nat) (g : Nat) (b : List Nat) : beside (a ++ [g]) b = beside a b ++ b.map fun l => g * b.length + l := by
  unfold beside
  rw [List.flatMap_append]
  simp
theorem zip_get {wd wd' : WD} {i : Nat} {p q : Nat × List Nat} (h : wd[i]? = some p) (h' : wd'[i]? = some q) : (besideW wd wd')[i]? = some (p.1, beside p.2 q.2) := by
  unfold besideW
  rw [List.getElem?_zipWith, h, h']
theorem zip_len {wd wd' : WD} (h : wd.map (·.1) = wd'.map (·.1)) : (besideW wd wd').length = wd.length := by
  have e := congrArg List.length h
  rw [List.length_map, List.length_map] at e
  unfold besideW
  rw [List.length_zipWith, ← e, Nat.min_self]
theorem zip_deeds : ∀ {wd wd' : WD}, wd.map (·.1) = wd'.map (·.1) → (besideW wd wd').map (·.1) = wd.map (·.1)
  | [], [], _ => rfl
  | [], _ :: _, h => nomatch h
  | _ :: _, [], h => nomatch h
  | p :: r, q :: t, h => by
    have h2 := (List.cons.inj h).2
    show p.1 :: (besideW r t).map (·.1) = _
    rw [zip_deeds h2]
    rfl
theorem zip_ok {wd wd' : WD} {n n' : Nat} (h : wd.map (·.1) = wd'.map (·.1)) (ok : WOk wd n) (ok' : WOk wd' n') : WOk (besideW wd wd') (n * n') := by
  refine ⟨by rw [zip_deeds h]; exact ok.deeds, fun p hp => ?_, Nat.mul_pos ok.pos ok'.pos⟩
  obtain ⟨i, hi, e⟩ := List.getElem_of_mem hp
  have hl := zip_len h
  have e2 := congrArg List.length h
  rw [List.length_map, List.length_map] at e2
  have h1 : wd[i]? = some (wd[i]'(by omega)) := List.getElem?_eq_getElem _
  have h2 : wd'[i]? = some (wd'[i]'(by omega)) := List.getElem?_eq_getElem _
  have h3 := zip_get h1 h2
  rw [List.getElem?_eq_getElem hi, e] at h3
  rw [Option.some.inj h3]
  exact beside_perm (ok.perm _ (mem_of_get2 h1)) (ok'.perm _ (mem_of_get2 h2))
theorem zip_at {wd wd' : WD} {i c : Nat} {m : List Nat} (h : wd.map (·.1) = wd'.map (·.1)) (hi : wd[i]? = some (c, m)) : ∃ m', wd'[i]? = some (c, m') := by
  have g : (wd'.map (·.1))[i]? = some c := by rw [← h, get_of_map hi]
  obtain ⟨⟨c', m'⟩, h2, e⟩ := get_map g
  refine ⟨m', ?_⟩
  rw [h2, show c = c' from e]
theorem new_key {wd bw : WD} {i c : Nat} {m : List Nat} (nd : (bw.map (·.1)).Nodup) (hi : bw[i]? = some (c, m)) : ∀ q ∈ bw.take i, q.1 ≠ c := fun q hq z => by
  obtain ⟨j, hj, hjp⟩ := get_take_mem hq
  have g1 : (bw.map (·.1))[j]? = some c := by rw [get_of_map hjp, z]
  have g2 : (bw.map (·.1))[i]? = some c := by rw [get_of_map hi]
  obtain ⟨hj1, e1⟩ := List.getElem?_eq_some_iff.mp g1
  obtain ⟨hi1, e2⟩ := List.getElem?_eq_some_iff.mp g2
  have := (List.getElem_inj nd).mp (e1.trans e2.symm)
  omega
theorem o_ext {l b : Addr} {xs zs : List V} (e : H l = some (.lst xs)) (eb : H b = some (.lst zs)) (hl : xs.length + zs.length ≤ sizeLine) (q : Q .non (upd H l (.lst (xs ++ zs)))) : rExtend (.ref l) [.ref b] H Q := ⟨l, b, xs, zs, rfl, rfl, e, eb, hl, q⟩
theorem pure_beside {CR CO CT : Addr} (wcR : WC K CR) (h : sp_beside K CR CO CT vs H Q E) : t_beside K CR CO CT E (fin Q) (start N_beside vs) H := by
  obtain ⟨x, y, rfl, F, M, C, C', wd, n, wd', n', w1, w2, hs, hn, hn', q1, q2, q3⟩ := h
  have w1' := w1
  have w2' := w2
  obtain ⟨p, dx, km, kb, rfl, wc, hp, ⟨a, ka, rfl, ha, ala⟩, ok⟩ := w1'
  obtain ⟨p', dx', km', kb', rfl, wc', hp', ⟨b, kb2, rfl, hb, alb⟩, ok'⟩ := w2'
  unfold t_beside
  repeat trivial
  refine ⟨_, _, rfl, C, C', wd, n, wd', n', Ex.world hs.fz w1, Ex.world hs.fz w2, fun eq => ?_, fun ne => q1 ne⟩
  repeat trivial
  refine o_fld (f := "size") (hs.fget hp) wc.cl wc.nS wf_size ?_
  repeat trivial
  refine o_fld (f := "size") (hs.fget hp') wc'.cl wc'.nS wf_size ?_
  refine o_mul (by omega) ?_
  repeat trivial
  refine ite_d (fun big => ?_) fun small => ?_
  · refine i_raiseB ?_
    repeat trivial
    exact ⟨_, rfl, fun d hd => q2 eq (by omega) d hd⟩
  have sm : n * n' ≤ 2000 := by omega
  have hbw := zip_len eq
  have hd4 := ok.deeds.len
  rw [List.length_map] at hd4
  have okb := zip_ok eq ok ok'
  have ndb := okb.deeds.nodup
  repeat trivial
  refine i_dnew fun D hD => ?_
  have hs1 := hs.new hD (o := .dK [])
  repeat trivial
  refine i_for_s ?_
  repeat trivial
  refine o_fld (f := "deeds") (hs1.fget hp) wc.cl wc.nD wf_deeds ?_
  refine e_for_s (fun i σ H' => (∃ u v w z, σ = [some (.ref p), some (.ref p'), some (.ref D), u, v, w, z]) ∧ ∃ (F' : Hp) (ks : List (Key × V)), Ex F F' ∧ HS F' ((D, .dK ks) :: M) H' ∧ AL F' ((besideW wd wd').take i) ks) ⟨⟨_, _, _, _, rfl⟩, F, [], Ex.refl F, hs1, .nil⟩ ?_ ?_
  · rintro i c σ H' hc ⟨⟨u, v, w, z, rfl⟩, F', ks, ex, pp, al'⟩
    obtain ⟨⟨c', m⟩, hi, rfl⟩ := get_map hc
    obtain ⟨m', hi'⟩ := zip_at eq hi
    have hbi := zip_get hi hi'
    have pm : IsPerm n m := ok.perm _ (mem_of_get2 hi)
    have pm' : IsPerm n' m' := ok'.perm _ (mem_of_get2 hi')
    obtain ⟨v1, hv1, t1⟩ := al_get ala (low_look ok.deeds (mem_of_get2 hi))
    obtain ⟨v2, hv2, t2⟩ := al_get alb (low_look ok'.deeds (mem_of_get2 hi'))
    obtain ⟨r1, rfl, rr1⟩ := t1
    obtain ⟨r2, rfl, rr2⟩ := t2
    have hlm := pm.len
    have hlm' := pm'.len
    repeat trivial
    refine ⟨Nat.zero_le _, fun R hR => ?_⟩
    have p2 := pp.new hR (o := .lst [])
    repeat trivial
    refine i_for_t (i_ixd (i_fld ?_))
    repeat trivial
    refine o_fld (f := "kept_moves") (p2.fget (ex _ _ hp)) wc.cl wc.nM wf_moves ?_
    repeat trivial
    refine o_getD (k := .inr (T [c])) (p2.fget (ex _ _ ha)) hv1 ?_
    refine e_for_t (xs := m.map iv) (fun j σ H' => (∃ w z, σ = [some (.ref p), some (.ref p'), some (.ref D), some (S [c]), some (.ref R), w, z]) ∧ HS F' ((R, .lst ((beside (m.take j) m').map iv)) :: (D, .dK ks) :: M) H') ⟨⟨_, _, rfl⟩, p2⟩ ?_ ?_ ?_
    · rintro j σ H' ⟨_, p3⟩
      exact p3.sqT (ex.rd rr1)
    · rintro j x σ H' hx ⟨⟨w, z, rfl⟩, p3⟩
      obtain ⟨g, hg, rfl⟩ := get_map hx
      repeat trivial
      refine i_bm ?_
      repeat trivial
      refine ⟨ty_lst (SqL.of p3.get), ?_⟩
      repeat trivial
      refine i_lc_t (i_ixd (i_fld ?_))
      repeat trivial
      refine o_fld (f := "kept_moves") (p3.fget (ex _ _ hp')) wc'.cl wc'.nM wf_moves ?_
      repeat trivial
      refine o_getD (k := .inr (T [c])) (p3.fget (ex _ _ hb)) hv2 ?_
      refine e_lc_t (xs := m'.map iv) (p3.sqT (ex.rd rr2)) fun L hL => ⟨fun k H' => HS F' ((L, .lst (((m'.map fun l => g * m'.length + l).map iv).take k)) :: (R, .lst ((beside (m.take j) m').map iv)) :: (D, .dK ks) :: M) H', p3.new hL, fun k H' p4 => p4.sqT (ex.rd rr2), ?_, ?_⟩
      · intro k x H' hx p4
        obtain ⟨l, hl, rfl⟩ := get_map hx
        repeat trivial
        refine o_fld (f := "size") (p4.fget (ex _ _ hp')) wc'.cl wc'.nS wf_size ?_
        refine o_mul2 (by omega) ?_
        repeat trivial
        refine o_add ?_
        refine lc_put p4 (get_of_map (a := g * n' + l) ?_) (by rw [List.length_map, List.length_map]; omega)
        rw [← hlm']
        exact get_of_map hl
      · intro H' p4
        rw [take_all (by simp)] at p4
        repeat trivial
        have hgl : beside (m.take (j + 1)) m' = beside (m.take j) m' ++ m'.map fun l => g * m'.length + l := by rw [take_succ_of hg, beside_snoc]
        refine o_ext p4.get1 p4.get ?_ ?_
        · rw [List.length_map, List.length_map, List.length_map, beside_len, List.length_take, sizeLine_eq]
          have : min j m.length * m'.length ≤ 2000 := by
            refine Nat.le_trans (Nat.mul_le_mul_right _ (Nat.min_le_right _ _)) ?_
            rw [hlm, hlm']
            exact sm
          omega
        · repeat trivial
          refine ⟨⟨_, _, rfl⟩, ?_⟩
          rw [hgl, List.map_append]
          exact (p4.wr1).drop
    · rintro σ H' ⟨⟨w, z, rfl⟩, p3⟩
      repeat trivial
      refine i_putD ?_
      repeat trivial
      refine o_tuple (SqL.of p3.get) fun l hl => ?_
      rw [List.length_map, List.take_length] at p3
      rw [List.length_map, List.take_length]
      have p4 := (p3.drop.newF hl (o := .tup ((beside m m').map iv)))
      repeat trivial
      have hks := al_len al'
      refine o_putD (k := .inr (T [c])) p4.get ?_ (al_none al' (new_key (wd := wd) ndb hbi)) ?_
      · rw [← hks, List.length_take]
        exact line_gt (by omega)
      · refine ⟨⟨_, _, _, _, rfl⟩, _, _, ex.trans (p3.drop.newEx hl), p4.wr, ?_⟩
        rw [take_succ_of hbi]
        exact paired_app ((p3.drop.newEx hl).al al') (.cons ⟨rfl, l, rfl, .inl upd_same⟩ .nil)
  · rintro σ H' ⟨⟨u, v, w, z, rfl⟩, F', ks, ex, pp, al'⟩
    rw [take_all (by rw [List.length_map, hbw])] at al'
    repeat trivial
    refine i_make ?_
    repeat trivial
    refine o_fld (f := "deeds") (pp.fget (ex _ _ hp)) wc.cl wc.nD wf_deeds ?_
    repeat trivial
    intro xn dn hx hdn hne
    have p2 := pp.frz
    have ex2 := pp.frzEx
    have p3 := p2.newF hdn (o := .own xn)
    have ex3 := p2.newEx hdn (o := .own xn)
    have hx2 : upd H' dn (.own xn) xn = none := by rw [upd_ne (Ne.symm hne)]; exact hx
    have p4 := p3.new hx2 (o := .ins CR dn [])
    refine ⟨_, _, _, rfl, _, M, xn, dn, besideW wd wd', n * n', rfl, by rw [zip_deeds eq], ⟨D, ks, rfl, ex3 _ _ upd_same, (ex2.trans ex3).al al'⟩, p4, wcR, okb, sm, fun F2 H2 km2 kb2 exf p5 d5 => ⟨rfl, ?_⟩⟩
    refine q3 eq sm _ _ _ ((ex.trans ex2).trans (ex3.trans (exf.trans p5.frzEx))) p5.frz ⟨xn, dn, km2, kb2, rfl, wcR, upd_same, p5.frzEx.dict d5, okb⟩
end
end Rb

set_option maxHeartbeats 2000000
namespace Rb
open PySem PySem.Spec PyProof.Rows L2
local macro_rules | `(tactic| trivial) => `(tactic| with_reducible first
  | refine i_seq ?_ | refine i_nx ?_ | refine i_ret ?_ | refine i_retN ?_ | refine i_drop ?_ | refine i_ifS ?_ | refine i_asg ?_ | refine i_name ?_ | refine i_sub ?_
  | refine ite_t ?_ | refine ite_f ?_ | refine not_t ?_ | refine not_f ?_ | refine i_test ?_ | refine i_bl ?_ | refine i_not ?_ | refine i_and ?_ | refine i_or ?_ | refine i_tr ?_ | refine i_trb ?_ | refine i_yes ?_ | refine i_chain ?_
  | refine i_var rfl ?_ | refine i_c ?_ | refine i_op ?_ | refine i_if ?_ | refine i_andV ?_ | refine i_orV ?_ | refine i_notV ?_ | refine ite_nt ?_ | refine ite_nf ?_ | refine i_nil ?_ | refine i_cons ?_ | refine i_cb ?_ | refine i_call ?_ | refine i_callS ?_
  | refine o_gt ?_ | refine o_lt ?_ | refine o_ge ?_ | refine o_le ?_ | refine o_subI ?_ | refine i_m0 ?_ | refine i_m1 ?_ | refine i_ix ?_ | refine i_fld ?_ | refine i_lst ?_ | refine i_tup ?_)
section
variable {K : PySem.W.Frag} {vs : List V} {H : Hp} {Q : VK} {E : XK} {D : Ends}
theorem pure__law_letters (h : sp__law_letters vs H Q E) : t__law_letters K (fin Q) (start N__law_letters vs) H := by
  obtain ⟨x, rfl, F, M, ds, rfl, hd, hs, q⟩ := h
  unfold t__law_letters
  have hd4 := hd.len
  repeat trivial
  refine ⟨Nat.zero_le _, fun L hL => ?_⟩
  have p1 := hs.newF hL (o := .lst [])
  have ex1 := hs.newEx hL (o := .lst [])
  repeat trivial
  refine i_for_s ?_
  repeat trivial
  refine e_for_s (fun i σ H' => ∃ l w F', σ = [some (S ds), some (.ref l), w] ∧ Ex F F' ∧ HS F' M H' ∧ F' l = some (.lst ((lets (ds.take i)).map fun c => S [c]))) ⟨L, _, _, rfl, ex1, p1, upd_same⟩ ?_ ?_
  · rintro i c σ H' hc ⟨l, w, F', rfl, ex, p, hl⟩
    have hc2 := hd.lt c (mem_of_get hc)
    have hi : i < ds.length := get_lt hc
    refine i_name (i_asg (i_op (i_var rfl (i_lst (i_cons (i_var rfl (i_cons (i_m0 (i_var rfl ?_)))))))))
    refine ⟨⟨_, rfl⟩, _, rfl, rfl, by show 1 ≤ 5592405; decide, ?_⟩
    rw [upper_one hc2]
    refine i_nil ⟨by show 2 ≤ sizeLine; decide, fun t ht => ?_⟩
    have p2 := p.newF ht (o := .lst [S [c], S [up c]])
    have ex2 := p.newEx ht (o := .lst [S [c], S [up c]])
    refine .inr (.inr ⟨l, t, _, _, rfl, rfl, p2.fget (ex2 _ _ hl), p2.fget upd_same, ?_, fun r hr => ?_⟩)
    · rw [List.length_map, lets_len, List.length_take, sizeLine_eq]
      simp
      omega
    · have p3 := p2.newF hr (o := .lst (((lets (ds.take i)).map fun c => S [c]) ++ [S [c], S [up c]]))
      repeat trivial
      refine ⟨r, _, _, rfl, ex.trans (ex2.trans (p2.newEx hr)), p3, ?_⟩
      rw [lets_take hc, List.map_append]
      exact upd_same
  · rintro σ H' ⟨l, w, F', rfl, ex, p, hl⟩
    repeat trivial
    rw [List.take_length] at hl
    exact q _ _ _ ex p ⟨l, rfl, hl⟩
theorem o_int {k : Int} (h : Q (.int k) H) : oInt [.int k] H Q := .inl ⟨k, rfl, h⟩
theorem pure__law_least (h : sp__law_least vs H Q E) : t__law_least K (fin Q) (start N__law_least vs) H := by
  obtain ⟨x, y, rfl, a, b, rfl, rfl, ha, hb, hb2, q⟩ := h
  unfold t__law_least
  repeat trivial
  refine i_for_r ?_
  repeat trivial
  refine e_for_r hb2 (fun i σ H' => (∃ w, σ = [some (iv a), some (iv b), some (iv (leastFrom a b i a)), w]) ∧ H' = H) ⟨⟨_, rfl⟩, rfl⟩ ?_ ?_
  · rintro i σ H' hi ⟨⟨w, rfl⟩, rfl⟩
    repeat trivial
    refine o_int ?_
    repeat trivial
    refine o_mod hb ?_
    repeat trivial
    have e := leastFrom_succ a b i a
    refine ite_d (fun c => ?_) fun c => ?_
    · repeat trivial
      refine o_add ?_
      repeat trivial
      refine ⟨⟨some (iv i), ?_⟩, rfl⟩
      rw [e]
      unfold leastStep
      rw [if_pos (by omega)]
      rfl
    · repeat trivial
      refine ⟨⟨some (iv i), ?_⟩, rfl⟩
      rw [e]
      unfold leastStep
      rw [if_neg (by omega)]
      rfl
  · rintro σ H' ⟨⟨w, rfl⟩, rfl⟩
    repeat trivial
    rw [least_is ha hb]
    exact q
theorem alX_get {F : Hp} {c : Nat} {m : List Nat} : ∀ {wd : WD} {kvs : List (Key × V)}, ALX F wd kvs → wd.lookup c = some m → ∃ v, valV kvs (.inr (T [c])) = some v ∧ TupX F v m
  | _, _, .nil, h => nomatch h
  | _, _, .cons (a := p) (b := q) h t, hl => by
    by_cases e : p.1 = c
    · subst e
      rw [List.lookup_cons_self] at hl
      rw [valV_pos h.1]
      exact ⟨_, rfl, Option.some.inj hl ▸ h.2⟩
    · have e : q.1 ≠ Sum.inr (T [c]) := fun z => by
        have z2 := h.1.symm.trans z
        have z3 := T_inj (Sum.inr.inj z2)
        exact e (List.cons.inj z3).1
      rw [valV_neg e]
      refine alX_get t ?_
      obtain ⟨a, b⟩ := p
      rw [List.lookup_cons] at hl
      split at hl
      · rename_i z
        exact absurd (beq_iff_eq.mp z).symm (by assumption)
      · exact hl
theorem up_flip {c : Nat} (h : 97 ≤ c ∧ c ≤ 122) : up c + 32 = c := by
  unfold up
  omega
theorem idx_inv {n : Nat} {m : List Nat} (p : IsPerm n m) {s : Nat} (hs : s < n) : m.idxOf s = (inv m).getD s 0 := by
  unfold inv
  have hl : s < (List.range m.length).length := by rw [List.length_range, p.len]; exact hs
  rw [getD_map hl, getD_range (by rw [p.len]; exact hs)]
theorem pure__law_step (h : sp__law_step vs H Q E) : t__law_step K (fin Q) (start N__law_step vs) H := by
  obtain ⟨x, y, z, rfl, wd, n, c, s, ⟨a, kvs, rfl, ha, al⟩, ok, hn, rfl, hc, rfl, hs, q⟩ := h
  unfold t__law_step
  repeat trivial
  refine o_eqS ?_
  have e0 : (T [c] : Str) ≠ ("" : Str) := fun z => by
    have z2 : (T [c] : Str) = T [] := z
    exact nomatch T_inj z2
  rw [decide_eq_false e0]
  repeat trivial
  refine i_inT ?_
  repeat trivial
  refine o_inD (k := .inr (T [c])) ha ?_
  obtain ⟨d, hd, e⟩ := lets_is hc
  obtain ⟨⟨d', m⟩, hp, rfl⟩ := List.mem_map.mp hd
  have hdl := ok.deeds.lt d' hd
  have pm : IsPerm n m := ok.perm _ hp
  have hlk := lookup_of_mem ok.deeds.nodup hp
  obtain ⟨v, hv, t⟩ := alX_get al hlk
  rcases e with e | e
  · obtain rfl : c = d' := e
    obtain ⟨b, ob, rfl, hb, hbc, hbd⟩ := t
    rw [hv]
    show if true = true then _ else _
    refine ite_t (i_ret (i_ix (i_ixd ?_)))
    repeat trivial
    refine o_getD (k := .inr (T [c])) ha hv ?_
    repeat trivial
    refine o_ix_t (.inl (.inr ⟨ob, hb⟩)) (get_of_map (get_getD (by rw [pm.len]; exact hs))) ?_
    have hm : mv (both wd) c = m := by
      unfold mv
      rw [low_look ok.deeds hp]
      rfl
    rw [hm] at q
    exact q
  · obtain rfl : c = up d' := e
    obtain ⟨b, ob, rfl, hb, hbc, hbd⟩ := t
    have hnone : valV kvs (.inr (T [up d'])) = none := al_none al.al fun q hq z => by
      have := ok.deeds.lt q.1 (List.mem_map.mpr ⟨q, hq, rfl⟩)
      have h2 : up d' = d' - 32 := rfl
      omega
    rw [hnone]
    show if false = true then _ else _
    repeat trivial
    show tTix _ _ _ _ _
    refine i_ixd ?_
    repeat trivial
    have hup : 65 ≤ up d' ∧ up d' ≤ 90 := by
      have h2 : up d' = d' - 32 := rfl
      omega
    refine ⟨⟨_, rfl⟩, _, rfl, rfl, by show 1 ≤ 5592405; decide, ?_⟩
    rw [lower_one hup, up_flip hdl]
    refine o_getD (k := .inr (T [d'])) ha hv ?_
    refine ⟨b, ob, m, rfl, hb, hbc, hbd, ?_⟩
    repeat trivial
    refine ⟨s, rfl, pm.mem hs, hb, ?_⟩
    have hm : mv (both wd) (up d') = inv m := by
      unfold mv
      rw [lookup_of_mem (both_nodup ok.deeds) (show (up d', inv m) ∈ both wd by unfold both; exact List.mem_flatMap.mpr ⟨_, hp, List.mem_cons_of_mem _ List.mem_cons_self⟩)]
      rfl
    rw [hm] at q
    rw [idx_inv pm hs]
    exact q
theorem pure__law_led (h : sp__law_led vs H Q E) : t__law_led K (fin Q) (start N__law_led vs) H := by
  obtain ⟨x, y, z, rfl, wd, n, s, rs, dat, ok, hn, rfl, hs, rfl, hr, q⟩ := h
  unfold t__law_led
  repeat trivial
  refine i_for_s ?_
  repeat trivial
  refine e_for_s (fun i σ H' => (∃ w, σ = [some x, some (iv (ledBy (both wd) s (rs.take i))), some (S rs), w]) ∧ H' = H) ⟨⟨_, rfl⟩, rfl⟩ ?_ ?_
  · rintro i c σ H' hc ⟨⟨w, rfl⟩, rfl⟩
    repeat trivial
    refine ⟨_, _, _, rfl, wd, n, c, _, dat, ok, hn, rfl, hr c (mem_of_get hc), rfl, led_lt ok hs fun c hc => hr c (List.mem_of_mem_take (i := i) hc), ?_⟩
    repeat trivial
    refine ⟨⟨some (S [c]), ?_⟩, rfl⟩
    rw [take_succ_of hc, ledBy_snoc]
    rfl
  · rintro σ H' ⟨⟨w, rfl⟩, rfl⟩
    repeat trivial
    rw [List.take_length]
    exact q
theorem pure__law_pairs (h : sp__law_pairs vs H Q E) : t__law_pairs K (fin Q) (start N__law_pairs vs) H := by
  obtain ⟨x, y, z, rfl, F, M, wd, n, wd', n', rfl, ⟨a, ka, rfl, ha, ala⟩, ⟨b, kb2, rfl, hb, alb⟩, eq, ok, ok', sm, hs, q⟩ := h
  unfold t__law_pairs
  have hbw := zip_len eq
  have hd4 := ok.deeds.len
  rw [List.length_map] at hd4
  have okb := zip_ok eq ok ok'
  have ndb := okb.deeds.nodup
  repeat trivial
  refine i_dnew fun D hD => ?_
  have hs1 := hs.new hD (o := .dK [])
  repeat trivial
  refine i_for_s ?_
  repeat trivial
  refine e_for_s (fun i σ H' => (∃ u v w z, σ = [some (S (wd.map (·.1))), some (.ref a), some (.ref b), some (.ref D), u, v, w, z]) ∧ ∃ (F' : Hp) (ks : List (Key × V)), Ex F F' ∧ HS F' ((D, .dK ks) :: M) H' ∧ AL F' ((besideW wd wd').take i) ks) ⟨⟨_, _, _, _, rfl⟩, F, [], Ex.refl F, hs1, .nil⟩ ?_ ?_
  · rintro i c σ H' hc ⟨⟨u, v, w, z, rfl⟩, F', ks, ex, pp, al'⟩
    obtain ⟨⟨c', m⟩, hi, rfl⟩ := get_map hc
    obtain ⟨m', hi'⟩ := zip_at eq hi
    have hbi := zip_get hi hi'
    have pm : IsPerm n m := ok.perm _ (mem_of_get2 hi)
    have pm' : IsPerm n' m' := ok'.perm _ (mem_of_get2 hi')
    obtain ⟨v1, hv1, t1⟩ := al_get ala (lookup_of_mem ok.deeds.nodup (mem_of_get2 hi))
    obtain ⟨v2, hv2, t2⟩ := al_get alb (lookup_of_mem ok'.deeds.nodup (mem_of_get2 hi'))
    obtain ⟨r1, rfl, rr1⟩ := t1
    obtain ⟨r2, rfl, rr2⟩ := t2
    have hlm := pm.len
    have hlm' := pm'.len
    have hn2 : n' ≤ 2000 := by
      have := Nat.mul_le_mul_right n' ok.pos
      omega
    repeat trivial
    refine ⟨Nat.zero_le _, fun R hR => ?_⟩
    have p2 := pp.new hR (o := .lst [])
    repeat trivial
    refine i_for_t (i_ixd ?_)
    repeat trivial
    refine o_getD (k := .inr (T [c])) (p2.fget (ex _ _ ha)) hv1 ?_
    refine e_for_t (xs := m.map iv) (fun j σ H' => (∃ w z, σ = [some (S (wd.map (·.1))), some (.ref a), some (.ref b), some (.ref D), some (S [c]), some (.ref R), w, z]) ∧ HS F' ((R, .lst ((beside (m.take j) m').map iv)) :: (D, .dK ks) :: M) H') ⟨⟨_, _, rfl⟩, p2⟩ ?_ ?_ ?_
    · rintro j σ H' ⟨_, p3⟩
      exact p3.sqT (ex.rd rr1)
    · rintro j x σ H' hx ⟨⟨w, z, rfl⟩, p3⟩
      obtain ⟨g, hg, rfl⟩ := get_map hx
      repeat trivial
      refine i_bm ?_
      repeat trivial
      refine ⟨ty_lst (SqL.of p3.get), ?_⟩
      repeat trivial
      refine i_lc_t (i_ixd ?_)
      repeat trivial
      refine o_getD (k := .inr (T [c])) (p3.fget (ex _ _ hb)) hv2 ?_
      refine e_lc_t (xs := m'.map iv) (p3.sqT (ex.rd rr2)) fun L hL => ⟨fun k H' => HS F' ((L, .lst (((m'.map fun l => g * m'.length + l).map iv).take k)) :: (R, .lst ((beside (m.take j) m').map iv)) :: (D, .dK ks) :: M) H', p3.new hL, fun k H' p4 => p4.sqT (ex.rd rr2), ?_, ?_⟩
      · intro k x H' hx p4
        obtain ⟨l, hl, rfl⟩ := get_map hx
        refine i_name ⟨rfl, i_yes (ite_t (i_op (i_op (i_var rfl (i_cb (i_cons (i_ixd ?_)))))))⟩
        repeat trivial
        refine o_getD (k := .inr (T [c])) (p4.fget (ex _ _ hb)) hv2 ?_
        repeat trivial
        refine o_len_t (p4.sqT (ex.rd rr2)) ?_
        rw [List.length_map]
        refine o_mul2 (by omega) ?_
        repeat trivial
        refine o_add ?_
        exact lc_put p4 (get_of_map (a := g * m'.length + l) (get_of_map hl)) (by rw [List.length_map, List.length_map]; omega)
      · intro H' p4
        rw [take_all (by simp)] at p4
        repeat trivial
        have hgl : beside (m.take (j + 1)) m' = beside (m.take j) m' ++ m'.map fun l => g * m'.length + l := by rw [take_succ_of hg, beside_snoc]
        refine o_ext p4.get1 p4.get ?_ ?_
        · rw [List.length_map, List.length_map, List.length_map, beside_len, List.length_take, sizeLine_eq]
          have : min j m.length * m'.length ≤ 2000 := by
            refine Nat.le_trans (Nat.mul_le_mul_right _ (Nat.min_le_right _ _)) ?_
            rw [hlm, hlm']
            exact sm
          omega
        · repeat trivial
          refine ⟨⟨_, _, rfl⟩, ?_⟩
          rw [hgl, List.map_append]
          exact (p4.wr1).drop
    · rintro σ H' ⟨⟨w, z, rfl⟩, p3⟩
      repeat trivial
      refine i_putD ?_
      repeat trivial
      refine o_tuple (SqL.of p3.get) fun l hl => ?_
      rw [List.length_map, List.take_length] at p3
      rw [List.length_map, List.take_length]
      have p4 := (p3.drop.newF hl (o := .tup ((beside m m').map iv)))
      repeat trivial
      have hks := al_len al'
      refine o_putD (k := .inr (T [c])) p4.get ?_ (al_none al' (new_key (wd := wd) ndb hbi)) ?_
      · rw [← hks, List.length_take]
        exact line_gt (by omega)
      · refine ⟨⟨_, _, _, _, rfl⟩, _, _, ex.trans (p3.drop.newEx hl), p4.wr, ?_⟩
        rw [take_succ_of hbi]
        exact paired_app ((p3.drop.newEx hl).al al') (.cons ⟨rfl, l, rfl, .inl upd_same⟩ .nil)
  · rintro σ H' ⟨⟨u, v, w, z, rfl⟩, F', ks, ex, pp, al'⟩
    rw [take_all (by rw [List.length_map, hbw])] at al'
    repeat trivial
    exact q _ _ _ (ex.trans pp.frzEx) pp.frz ⟨D, ks, rfl, upd_same, pp.frzEx.al al'⟩
theorem i_try {W : WX} {tb : WX → TS} {l : List Cl} {σ : L2.St} (h : tb (wCl K W D l) D σ H) : tTry K W tb l D σ H := h
theorem pure__law_asked {CR CO CT : Addr} (hO : PySem.W.exmOne K (.ref CO) (.ref CO) = some true) (hTO : PySem.W.exmOne K (.ref CT) (.ref CO) = some false) (hT : PySem.W.exmOne K (.ref CT) (.ref CT) = some true)
    (h : sp__law_asked K CR CO CT vs H Q E) : t__law_asked K CR CO CT E (fin Q) (start N__law_asked vs) H := by
  obtain ⟨x, y, rfl, F, M, C, C', wd, n, wd', n', w1, w2, hs, hn, hn', q⟩ := h
  unfold t__law_asked
  repeat trivial
  refine i_try ?_
  repeat trivial
  refine ⟨_, _, rfl, F, M, C, C', wd, n, wd', n', w1, w2, hs, hn, hn', fun ne => ?_, fun eq big d hd => ?_, fun eq sm v F' H' ex p wv => ?_⟩
  · refine ⟨true, hO, fun _ a _ => ?_, (fun z => nomatch z)⟩
    repeat trivial
    refine ⟨by show 2 ≤ sizeLine; decide, fun t ht => ?_⟩
    repeat trivial
    exact q _ _ _ (hs.newEx ht) (hs.newF ht) ⟨t, rfl, fun _ => upd_same, fun e => absurd e ne, fun e => absurd e ne⟩
  · have hs2 := hs.new hd (o := .xd [(("most" : Str), .int 2000)])
    refine ⟨false, hTO, (fun z => nomatch z), fun _ => ⟨true, hT, fun _ a _ => ?_, (fun z => nomatch z)⟩⟩
    refine i_asg (i_tup (i_cons (i_c (i_cons (i_var rfl ?_)))))
    refine ⟨rfl, rfl, d, .int 2000, rfl, hs2.get, ?_⟩
    refine i_nil ⟨by show 2 ≤ sizeLine; decide, fun t ht => ?_⟩
    repeat trivial
    exact q _ _ _ (hs2.drop.newEx ht) (hs2.drop.newF ht) ⟨t, rfl, fun ne => absurd eq ne, fun _ _ => upd_same, fun _ sm => by omega⟩
  · repeat trivial
    refine ⟨by show 2 ≤ sizeLine; decide, fun t ht => ?_⟩
    repeat trivial
    exact q _ _ _ (ex.trans (p.newEx ht)) (p.newF ht) ⟨t, rfl, fun ne => absurd eq ne, fun _ big => by omega, fun _ _ => ⟨v, upd_same, Ex.world (p.newEx ht) wv⟩⟩
end
end Rb

set_option maxHeartbeats 2000000
namespace Rb
open PySem PySem.Spec PyProof.Rows L2
local macro_rules | `(tactic| trivial) => `(tactic| with_reducible first
  | refine i_seq ?_ | refine i_nx ?_ | refine i_ret ?_ | refine i_retN ?_ | refine i_drop ?_ | refine i_ifS ?_ | refine i_asg ?_ | refine i_name ?_ | refine i_sub ?_
  | refine ite_t ?_ | refine ite_f ?_ | refine not_t ?_ | refine not_f ?_ | refine i_test ?_ | refine i_bl ?_ | refine i_not ?_ | refine i_and ?_ | refine i_or ?_ | refine i_tr ?_ | refine i_trb ?_ | refine i_yes ?_ | refine i_chain ?_
  | refine i_var rfl ?_ | refine i_c ?_ | refine i_op ?_ | refine i_if ?_ | refine i_andV ?_ | refine i_orV ?_ | refine i_notV ?_ | refine ite_nt ?_ | refine ite_nf ?_ | refine i_nil ?_ | refine i_cons ?_ | refine i_cb ?_ | refine i_call ?_ | refine i_callS ?_
  | refine o_gt ?_ | refine o_lt ?_ | refine o_ge ?_ | refine o_le ?_ | refine o_subI ?_ | refine i_m0 ?_ | refine i_m1 ?_ | refine i_ix ?_ | refine i_fld ?_ | refine i_lst ?_ | refine i_tup ?_)
section
variable {K : PySem.W.Frag} {vs : List V} {H : Hp} {Q : VK} {E : XK} {D : Ends}
/-! the pot -/
section
variable {F F' : Hp} {M : List (Addr × HO)} {p D' t : Addr} {o u : HO}
theorem PotS.new (h : PotS F M p H) (n : H t = none) : PotS F ((t, o) :: M) p (upd H t o) := by
  obtain ⟨g, s, gs, ss, a, b, hs, r⟩ := h
  exact ⟨g, s, gs, ss, a, b, (hs.new n).dn2, r⟩
theorem PotS.get (h : PotS F ((t, o) :: M) p H) : H t = some o := by
  obtain ⟨g, s, gs, ss, a, b, hs, r⟩ := h
  exact hs.get2
theorem PotS.wr (h : PotS F ((t, o) :: M) p H) : PotS F ((t, u) :: M) p (upd H t u) := by
  obtain ⟨g, s, gs, ss, a, b, hs, r⟩ := h
  exact ⟨g, s, gs, ss, a, b, hs.wr2, r⟩
theorem PotS.ex (h : PotS F ((t, o) :: M) p H) : Ex F (upd F t o) := by
  obtain ⟨g, s, gs, ss, a, b, hs, r⟩ := h
  exact hs.up2.frzEx
theorem PotS.frz (h : PotS F ((t, o) :: M) p H) : PotS (upd F t o) M p H := by
  have e := h.ex
  obtain ⟨g, s, gs, ss, a, b, hs, r⟩ := h
  exact ⟨g, s, gs, ss, a, b, hs.up2.frz, e _ _ r.1, r.2⟩
theorem PotS.newF (h : PotS F M p H) (n : H t = none) : PotS (upd F t o) M p (upd H t o) := (h.new n).frz
theorem PotS.newEx (h : PotS F M p H) (n : H t = none) : Ex F (upd F t o) := (h.new n (o := o)).ex
theorem PotS.fget (h : PotS F M p H) {a : Addr} (e : F a = some o) : H a = some o := by
  obtain ⟨g, s, gs, ss, x, b, hs, r⟩ := h
  exact hs.fget e
theorem PotS.fz (h : PotS F M p H) : Ex F H := fun _ _ e => h.fget e
/-- a call that leaves the cells as they are -/
theorem PotS.hs (h : PotS F M p H) : ∃ M', HS F M' H ∧ ∀ F' H', Ex F F' → HS F' M' H' → PotS F' M p H' := by
  obtain ⟨g, s, gs, ss, a, b, hs, r⟩ := h
  exact ⟨_, hs, fun F' H' e hs' => ⟨g, s, gs, ss, a, b, hs', e _ _ r.1, r.2⟩⟩
end
theorem fmod_nat (z : Int) {m : Nat} (h : 0 < m) : ∃ r : Nat, z.fmod (m : Int) = (r : Int) ∧ r < m := by
  have h1 := Int.fmod_nonneg_of_pos z (show (0 : Int) < m by omega)
  have h2 := Int.fmod_lt_of_pos z (show (0 : Int) < m by omega)
  exact ⟨(z.fmod m).toNat, by omega, by omega⟩
theorem getI {ns : List Int} {i : Nat} (h : i < ns.length) : ns[i]? = some ns[i] := List.getElem?_eq_getElem h
theorem set_int (ns : List Int) (k : Nat) (i : Int) : (ns.map V.int).set k (.int i) = (ns.set k i).map V.int := by rw [List.map_set]
theorem o_pop0 {l : Addr} {ns : List Int} (e : H l = some (.lst (ns.map V.int))) (h0 : 0 < ns.length) (q : ∀ v, Q v (upd H l (.lst ((ns.eraseIdx 0).map V.int)))) : rPopAt (.ref l) [.int 0] H Q := by
  cases ns with
  | nil => exact absurd h0 (Nat.lt_irrefl 0)
  | cons a r =>
    refine ⟨l, _, 0, 0, .int a, rfl, rfl, e, by decide, by decide, ?_, rfl, q _⟩
    exact (ixN_seq (i := 0) (j := 0) (by unfold ixN; rw [if_pos (by omega), if_pos (by rw [List.length_map, List.length_cons]; omega)]; rfl)).1
theorem pure__law_draw (h : sp__law_draw vs H Q E) : t__law_draw K (fin Q) (start N__law_draw vs) H := by
  obtain ⟨x, y, rfl, F, M, p, m, rfl, rfl, hm, hm2, ⟨g, s, gs, ss, t, u, hs, hss, hsl, hsl2, hgl⟩, q⟩ := h
  unfold t__law_draw
  repeat trivial
  refine o_ix_l (i := 2) (SqL.of hs.get) rfl ?_
  repeat trivial
  refine i_put ?_
  repeat trivial
  refine o_addI ?_
  repeat trivial
  refine o_setL (i := 2) hs.get (by show 2 < 4; decide) ?_
  have hs1 := hs.wr (u := .lst ([V.ref g, .ref s, .int t, .int u].set 2 (.int (t + 1))))
  have e1 : [V.ref g, .ref s, .int t, .int u].set 2 (.int (t + 1)) = [V.ref g, .ref s, .int (t + 1), .int u] := rfl
  rw [e1] at hs1 ⊢
  generalize upd H p (.lst [V.ref g, .ref s, .int (t + 1), .int u]) = H1 at hs1 ⊢
  repeat trivial
  refine o_ix_l (i := 0) (SqL.of hs1.get) rfl ?_
  repeat trivial
  refine o_len_l (SqL.of hs1.get1) ?_
  rw [List.length_map]
  repeat trivial
  refine ite_d (fun c => ?_) fun c => ?_
  · have hg0 : 0 < gs.length := by omega
    repeat trivial
    refine o_ix_l (i := 0) (SqL.of hs1.get) rfl ?_
    repeat trivial
    refine o_ix_l (i := 0) (SqL.of hs1.get1) (get_of_map (getI hg0)) ?_
    repeat trivial
    refine i_put ?_
    repeat trivial
    refine o_divI (by omega) (by simp; omega) ?_
    repeat trivial
    refine o_ix_l (i := 0) (SqL.of hs1.get) rfl ?_
    repeat trivial
    refine o_setL (i := 0) hs1.get1 (by rw [List.length_map]; exact hg0) ?_
    rw [set_int]
    have hs2 := hs1.wr1 (u := .lst ((gs.set 0 (gs[0].fdiv (m : Int))).map V.int))
    have fini : ∀ {gs' : List Int} {H2 : Hp}, gs'.length ≤ 1000 → HS F ((p, .lst [V.ref g, .ref s, .int (t + 1), .int u]) :: (g, .lst (gs'.map V.int)) :: M) H2 → Q (.int (gs[0].fmod (m : Int))) H2 := fun hl hs3 => by
      obtain ⟨r, e, hr⟩ := fmod_nat gs[0] hm
      rw [e]
      exact q r _ hr ⟨g, s, _, ss, t + 1, u, hs3, hss, hsl, hsl2, hl⟩
    repeat trivial
    refine ite_d (fun c2 => ?_) fun c2 => ?_
    · repeat trivial
      refine i_bm ?_
      repeat trivial
      refine o_ix_l (i := 0) (SqL.of hs2.get) rfl ?_
      refine ⟨ty_lst (SqL.of hs2.get1), ?_⟩
      repeat trivial
      refine o_pop0 hs2.get1 (by rw [List.length_set]; exact hg0) fun v => ?_
      · have hs3 := hs2.wr1 (u := .lst (((gs.set 0 (gs[0].fdiv (m : Int))).eraseIdx 0).map V.int))
        repeat trivial
        refine o_int ?_
        repeat trivial
        refine o_modI (by omega) ?_
        refine fini ?_ hs3
        have := List.length_eraseIdx_le (gs.set 0 (gs[0].fdiv (m : Int))) 0
        rw [List.length_set] at this
        omega
    · repeat trivial
      refine o_int ?_
      repeat trivial
      refine o_modI (by omega) ?_
      exact fini (by rw [List.length_set]; exact hgl) hs2
  · repeat trivial
    refine o_ix_l (i := 1) (SqL.of hs1.get) rfl ?_
    repeat trivial
    refine o_int ?_
    repeat trivial
    refine o_ix_l (i := 1) (SqL.of hs1.get) rfl ?_
    repeat trivial
    refine o_len_l (SqL.of (hs1.fget hss)) ?_
    rw [List.length_map]
    refine o_modI (by omega) ?_
    obtain ⟨r, e, hr⟩ := fmod_nat t hsl
    rw [e]
    repeat trivial
    refine o_ix_l (SqL.of (hs1.fget hss)) (get_of_map (getI hr)) ?_
    repeat trivial
    refine o_mulI (.inr ⟨by decide, by decide⟩) ?_
    repeat trivial
    refine o_mulI (.inl ⟨by decide, by decide⟩) ?_
    refine o_addI ?_
    repeat trivial
    refine o_ix_l (i := 3) (SqL.of hs1.get) rfl ?_
    repeat trivial
    refine o_mulI (.inr ⟨by decide, by decide⟩) ?_
    refine o_addI ?_
    repeat trivial
    refine o_mulI (.inr ⟨by decide, by decide⟩) ?_
    repeat trivial
    refine o_addI ?_
    repeat trivial
    refine o_int ?_
    repeat trivial
    refine o_modI (by decide) ?_
    generalize hz1 : Int.fmod _ 2147483647 = z1
    have b1 : 0 ≤ z1 ∧ z1 < 2147483647 := by
      rw [← hz1]
      exact ⟨Int.fmod_nonneg_of_pos _ (by decide), Int.fmod_lt_of_pos _ (by decide)⟩
    repeat trivial
    refine o_divI (by decide) (by decide) ?_
    repeat trivial
    refine o_addI ?_
    refine o_mulI (.inl ⟨by omega, by omega⟩) ?_
    repeat trivial
    refine o_int ?_
    repeat trivial
    refine o_modI (by decide) ?_
    generalize hz2 : Int.fmod _ 2147483629 = z2
    have b2 : 0 ≤ z2 ∧ z2 < 2147483629 := by
      rw [← hz2]
      exact ⟨Int.fmod_nonneg_of_pos _ (by decide), Int.fmod_lt_of_pos _ (by decide)⟩
    repeat trivial
    refine o_divI (by decide) (by decide) ?_
    repeat trivial
    refine o_addI ?_
    refine o_mulI (.inl ⟨by omega, by omega⟩) ?_
    repeat trivial
    refine o_addI ?_
    repeat trivial
    refine o_int ?_
    repeat trivial
    refine o_modI (by decide) ?_
    repeat trivial
    refine o_divI (by decide) (by decide) ?_
    repeat trivial
    refine o_int ?_
    repeat trivial
    refine o_modI (by omega) ?_
    generalize Int.fdiv _ 64 = z3
    obtain ⟨r, e, hr⟩ := fmod_nat z3 hm
    rw [e]
    exact q r _ hr ⟨g, s, gs, ss, t + 1, u, hs1, hss, hsl, hsl2, hgl⟩
end
end Rb

set_option maxHeartbeats 2000000
namespace Rb
open PySem PySem.Spec PyProof.Rows L2
local macro_rules | `(tactic| trivial) => `(tactic| with_reducible first
  | refine i_seq ?_ | refine i_nx ?_ | refine i_ret ?_ | refine i_retN ?_ | refine i_drop ?_ | refine i_ifS ?_ | refine i_asg ?_ | refine i_name ?_ | refine i_sub ?_
  | refine ite_t ?_ | refine ite_f ?_ | refine not_t ?_ | refine not_f ?_ | refine i_test ?_ | refine i_bl ?_ | refine i_not ?_ | refine i_and ?_ | refine i_or ?_ | refine i_tr ?_ | refine i_trb ?_ | refine i_yes ?_ | refine i_chain ?_
  | refine i_var rfl ?_ | refine i_c ?_ | refine i_op ?_ | refine i_if ?_ | refine i_andV ?_ | refine i_orV ?_ | refine i_notV ?_ | refine ite_nt ?_ | refine ite_nf ?_ | refine i_nil ?_ | refine i_cons ?_ | refine i_cb ?_ | refine i_call ?_ | refine i_callS ?_
  | refine o_gt ?_ | refine o_lt ?_ | refine o_ge ?_ | refine o_le ?_ | refine o_subI ?_ | refine i_m0 ?_ | refine i_m1 ?_ | refine i_ix ?_ | refine i_fld ?_ | refine i_lst ?_ | refine i_tup ?_)
section
variable {K : PySem.W.Frag} {vs : List V} {H : Hp} {Q : VK} {E : XK} {D : Ends}
theorem pure__law_any (h : sp__law_any vs H Q E) : t__law_any K (fin Q) (start N__law_any vs) H := by
  obtain ⟨x, y, rfl, F, M, p, a, xs, rfl, rfl, ha, h0, hl, pot, q⟩ := h
  unfold t__law_any
  repeat trivial
  refine o_len_l (SqL.of (pot.fget ha)) ?_
  repeat trivial
  refine ⟨_, _, rfl, F, M, p, xs.length, rfl, rfl, h0, by omega, pot, fun r H' hr pot' => ?_⟩
  refine o_ix_l (SqL.of (pot'.fget ha)) (List.getElem?_eq_getElem hr) ?_
  exact q _ _ (List.getElem_mem hr) pot'
/-! deeds drawn -/
structure Some1 (i at' : Nat) (ds : List Nat) : Prop where
  len : ds.length = i + 1
  lt : ∀ d ∈ ds, 97 ≤ d ∧ d ≤ 97 + at'
  asc : ds.Pairwise (· < ·)
  hat : at' ≤ 17 + 2 * i
theorem small_get {i : Nat} (h : i < 26) : smallL[i]? = some (97 + i) := by
  unfold smallL
  rw [List.getElem?_range' h]
  simp
theorem Some1.more {i a d : Nat} {ds : List Nat} (h : Some1 i a ds) (hd : d < 2) : Some1 (i + 1) (a + 1 + d) (ds ++ [97 + (a + 1 + d)]) := by
  refine ⟨by rw [List.length_append, h.len]; rfl, fun x hx => ?_, ?_, by have := h.hat; omega⟩
  · rcases List.mem_append.mp hx with hx | hx
    · have := h.lt x hx
      omega
    · rw [List.mem_singleton] at hx
      omega
  · rw [List.pairwise_append]
    refine ⟨h.asc, List.pairwise_singleton _ _, fun x hx y hy => ?_⟩
    rw [List.mem_singleton] at hy
    have := h.lt x hx
    omega
theorem small_lit : V.str "abcdefghijklmnopqrstuvwxyz" = S smallL := small_eq
theorem o_add1n {n : Nat} (h : Q (iv (n + 1)) H) : oAdd (iv n) (.int 1) H Q := o_add1 h
theorem pure__law_deeds (h : sp__law_deeds vs H Q E) : t__law_deeds K (fin Q) (start N__law_deeds vs) H := by
  obtain ⟨x, y, rfl, F, M, p, rfl, rfl, pot, q⟩ := h
  unfold t__law_deeds
  rw [small_lit]
  have hsl : smallL.length ≤ sizeLine := by rw [sizeLine_eq]; decide
  repeat trivial
  refine ⟨_, _, rfl, F, M, p, 18, rfl, rfl, by decide, by decide, pot, fun r H1 hr pot1 => ?_⟩
  repeat trivial
  refine o_ix_s hsl (small_get (i := r) (by omega)) ?_
  repeat trivial
  refine i_for_r ?_
  repeat trivial
  refine ⟨_, _, rfl, F, M, p, 3, rfl, rfl, by decide, by decide, pot1, fun k H2 hk pot2 => ?_⟩
  repeat trivial
  refine e_for_r (by omega) (fun i σ H' => ∃ a ds w, σ = [some (.ref p), some (iv 3), some (iv a), some (S ds), w] ∧ Some1 i a ds ∧ PotS F M p H') ⟨r, [97 + r], _, rfl, ⟨rfl, fun d hd => by rw [List.mem_singleton] at hd; omega, List.pairwise_singleton _ _, by omega⟩, pot2⟩ ?_ ?_
  · rintro i σ H' hi ⟨a, ds, w, rfl, s1, pot3⟩
    repeat trivial
    refine o_add1n ?_
    repeat trivial
    refine ⟨_, _, rfl, F, M, p, 2, rfl, rfl, by decide, by decide, pot3, fun d H4 hd pot4 => ?_⟩
    refine o_add ?_
    repeat trivial
    have hb : a + 1 + d < 26 := by
      have := s1.hat
      omega
    refine o_ix_s hsl (small_get hb) ?_
    refine o_addS ?_ ?_
    · show ds.length + 1 ≤ sizeLine
      rw [s1.len, sizeLine_eq]
      omega
    rw [T_app]
    repeat trivial
    exact ⟨_, _, _, rfl, s1.more hd, pot4⟩
  · rintro σ H' ⟨a, ds, w, rfl, s1, pot3⟩
    repeat trivial
    have hl := s1.len
    have ha := s1.hat
    exact q ds _ ⟨by omega, by omega, fun d hd => by have := s1.lt d hd; omega, s1.asc⟩ (by omega) pot3
theorem emp_lit : V.str "" = S [] := by decide +kernel
theorem pure__law_row (h : sp__law_row vs H Q E) : t__law_row K (fin Q) (start N__law_row vs) H := by
  obtain ⟨x, y, z, rfl, F, M, p, ds, m, rfl, rfl, hd, rfl, hm, pot, q⟩ := h
  unfold t__law_row
  rw [emp_lit]
  have hd0 := hd.ne
  have hd4 := hd.len
  repeat trivial
  refine ⟨⟨_, rfl⟩, i_lc_r ?_⟩
  repeat trivial
  refine o_add1n ?_
  repeat trivial
  refine ⟨_, _, rfl, F, M, p, m + 1, rfl, rfl, by omega, by omega, pot, fun k H2 hk pot2 => ?_⟩
  repeat trivial
  refine e_lc_r (by omega) fun D hD => ⟨fun i H' => ∃ F' acc, Ex F F' ∧ PotS F' ((D, .lst (acc.map fun c => S [c])) :: M) p H' ∧ acc.length = i ∧ ∀ c ∈ acc, c ∈ lets ds, ⟨F, [], Ex.refl F, pot2.new hD, rfl, fun c hc => absurd hc List.not_mem_nil⟩, ?_, ?_⟩
  · rintro i H' hi ⟨F', acc, ex, pot3, hl, ha⟩
    obtain ⟨M', hs', back⟩ := pot3.hs
    repeat trivial
    refine ⟨_, rfl, F', M', ds, rfl, hd, hs', fun v F2 H3 ex2 hs2 ⟨a, e, hla⟩ => ?_⟩
    subst e
    repeat trivial
    refine ⟨_, _, rfl, F2, _, p, a, _, rfl, rfl, hla, by rw [List.length_map, lets_len]; omega, by rw [List.length_map, lets_len]; omega, back F2 H3 ex2 hs2, fun v H4 hv pot4 => ?_⟩
    obtain ⟨c, hc, rfl⟩ := List.mem_map.mp hv
    refine ⟨_, pot4.get, by rw [List.length_map, sizeLine_eq]; omega, F2, acc ++ [c], ex.trans ex2, ?_, by rw [List.length_append, hl]; rfl, fun x hx => ?_⟩
    · rw [List.map_append]
      exact pot4.wr
    · rcases List.mem_append.mp hx with hx | hx
      · exact ha x hx
      · rw [List.mem_singleton] at hx
        subst hx
        exact hc
  · rintro H' ⟨F', acc, ex, pot3, hl, ha⟩
    have e : (acc.map fun c => S [c]) = (acc.map fun c => T [c]).map V.str := by rw [List.map_map]; rfl
    refine ⟨T [], D, acc.map fun c => T [c], rfl, rfl, .inl (by rw [← e]; exact SqL.of pot3.get), ?_, ?_⟩
    · have hsum : ((acc.map fun c => T [c]).map (·.length)).sum = acc.length := by
        rw [List.map_map]
        have : ∀ l : List Nat, (l.map ((fun z : Str => z.length) ∘ fun c => T [c])).sum = l.length := by
          intro l
          induction l with
          | nil => rfl
          | cons c r ih => rw [List.map_cons, List.sum_cons, ih, List.length_cons]; show 1 + _ = _; omega
        exact this acc
      rw [hsum]
      show acc.length + _ * 0 ≤ 16777216
      omega
    · rw [join_one]
      exact q acc _ _ ha (by omega) (ex.trans pot3.ex) pot3.frz
/-! a line mixed -/
theorem getD_set2 {l : List Nat} {i j x u v : Nat} (hi : i < l.length) (hj : j < l.length) : ((l.set i u).set j v).getD x 0 = if x = j then v else if x = i then u else l.getD x 0 := by
  rw [getD_setN (by rw [List.length_set]; exact hj), getD_setN hi]
theorem swap_perm {n : Nat} {l : List Nat} (p : IsPerm n l) {i j : Nat} (hi : i < n) (hj : j < n) : IsPerm n ((l.set i (l.getD j 0)).set j (l.getD i 0)) := by
  have hl := p.len
  refine IsPerm.mk' (by rw [List.length_set, List.length_set, hl]) (fun x hx => ?_) fun x y hx hy e => ?_
  · rw [getD_set2 (by omega) (by omega)]
    split
    · exact p.at_lt hi
    · split
      · exact p.at_lt hj
      · exact p.at_lt hx
  · rw [getD_set2 (by omega) (by omega), getD_set2 (by omega) (by omega)] at e
    have ft : ∀ x : Nat, (if x = j then l.getD i 0 else if x = i then l.getD j 0 else l.getD x 0) = l.getD (if x = j then i else if x = i then j else x) 0 := by
      intro x
      split
      · rfl
      · split
        · rfl
        · rfl
    have lt : ∀ x : Nat, x < n → (if x = j then i else if x = i then j else x) < n := by
      intro x hx
      split
      · exact hi
      · split
        · exact hj
        · exact hx
    rw [ft, ft] at e
    have := p.inj (lt x hx) (lt y hy) e
    grind
theorem o_listL {a : Addr} {xs : List V} (e : SqL K H a xs) (h : ∀ l, H l = none → Q (.ref l) (upd H l (.lst xs))) : oList K [.ref a] H Q := ⟨a, xs, rfl, .inl e, h⟩
theorem g_two {g1 g2 : TG} {σ : L2.St} {t : Addr} {x y : V} {R : L2.St → Hp → Prop} (e : H t = some (.tup [x, y])) (h : g1 x σ H fun σ' H' => g2 y σ' H' R) : gTup K 2 (gCons g1 (gCons g2 gNil)) (.ref t) σ H R :=
  ⟨t, [x, y], rfl, SqT.of e, rfl, x, [y], rfl, by
    have e : (fun (σ' : L2.St) (H' : Hp) => gCons g2 gNil [y] σ' H' R) = (fun σ' H' => g2 y σ' H' R) := by
      funext σ' H'
      apply propext
      constructor
      · rintro ⟨v, r, e, q⟩
        cases e
        have e2 : (fun (σ' : L2.St) (H' : Hp) => gNil [] σ' H' R) = R := by
          funext σ' H'
          apply propext
          exact ⟨fun z => z.2, fun z => ⟨rfl, z⟩⟩
        rw [e2] at q
        exact q
      · intro q
        refine ⟨y, [], rfl, ?_⟩
        have e2 : (fun (σ' : L2.St) (H' : Hp) => gNil [] σ' H' R) = R := by
          funext σ' H'
          apply propext
          exact ⟨fun z => z.2, fun z => ⟨rfl, z⟩⟩
        rw [e2]
        exact q
    rw [e]
    exact h⟩
theorem pure__law_mixed (h : sp__law_mixed vs H Q E) : t__law_mixed K (fin Q) (start N__law_mixed vs) H := by
  obtain ⟨x, y, rfl, F, M, p, a, n, rfl, rfl, ha, hn, pot, q⟩ := h
  unfold t__law_mixed
  repeat trivial
  refine o_listL (SqL.of (pot.fget ha)) fun L hL => ?_
  have pot1 := pot.new hL (o := .lst ((List.range n).map iv))
  repeat trivial
  refine i_for_r ?_
  repeat trivial
  refine o_len_l (SqL.of pot1.get) ?_
  rw [List.length_map, List.length_range]
  repeat trivial
  refine e_for_r (by omega) (fun i σ H' => (∃ u v, σ = [some (.ref p), some (.ref a), some (.ref L), u, v]) ∧ ∃ (F' : Hp) (l : List Nat), Ex F F' ∧ PotS F' ((L, .lst (l.map iv)) :: M) p H' ∧ IsPerm n l) ⟨⟨_, _, rfl⟩, F, _, Ex.refl F, pot1, IsPerm.range n⟩ ?_ ?_
  · rintro k σ H' hk ⟨⟨u, v, rfl⟩, F', l, ex, pot2, pl⟩
    have hl := pl.len
    repeat trivial
    refine o_len_l (SqL.of pot2.get) ?_
    rw [List.length_map, hl]
    repeat trivial
    refine ⟨_, _, rfl, F', _, p, n, rfl, rfl, by omega, by omega, pot2, fun r H2 hr pot3 => ?_⟩
    repeat trivial
    refine o_ix_l (SqL.of pot3.get) (get_of_map (get_getD (by omega))) ?_
    repeat trivial
    refine o_ix_l (SqL.of pot3.get) (get_of_map (get_getD (by omega))) ?_
    refine i_nil ⟨by show 2 ≤ sizeLine; decide, fun t ht => ?_⟩
    have pot4 := pot3.newF ht (o := .tup [iv (l.getD r 0), iv (l.getD k 0)])
    have ex4 := pot3.newEx ht (o := .tup [iv (l.getD r 0), iv (l.getD k 0)])
    refine g_two upd_same ?_
    repeat trivial
    refine o_setL pot4.get (by rw [List.length_map]; omega) ?_
    rw [set_iv]
    have pot5 := pot4.wr (u := .lst ((l.set k (l.getD r 0)).map iv))
    repeat trivial
    refine o_setL pot5.get (by rw [List.length_map, List.length_set]; omega) ?_
    rw [set_iv]
    exact ⟨⟨_, _, rfl⟩, _, _, ex.trans ex4, pot5.wr, swap_perm pl (by omega) hr⟩
  · rintro σ H' ⟨⟨u, v, rfl⟩, F', l, ex, pot2, pl⟩
    repeat trivial
    exact q L l _ _ pl (ex.trans pot2.ex) pot2.frz upd_same
theorem pure__law_moves (h : sp__law_moves vs H Q E) : t__law_moves K (fin Q) (start N__law_moves vs) H := by
  obtain ⟨x, y, z, rfl, F, M, p, ds, n, rfl, rfl, hd, rfl, hn0, hn, pot, q⟩ := h
  unfold t__law_moves
  have hd4 := hd.len
  repeat trivial
  refine i_dnew fun D hD => ?_
  have pot1 := pot.new hD (o := .dK [])
  repeat trivial
  refine i_for_s ?_
  repeat trivial
  refine e_for_s (fun i σ H' => (∃ u, σ = [some (.ref p), some (S ds), some (iv n), some (.ref D), u]) ∧ ∃ (F' : Hp) (ks : List (Key × V)) (wd : WD), Ex F F' ∧ PotS F' ((D, .dK ks) :: M) p H' ∧ ALX F' wd ks ∧ wd.map (·.1) = ds.take i ∧ ∀ q ∈ wd, IsPerm n q.2) ⟨⟨_, rfl⟩, F, [], [], Ex.refl F, pot1, .nil, rfl, fun q hq => absurd hq List.not_mem_nil⟩ ?_ ?_
  · rintro i c σ H' hc ⟨⟨u, rfl⟩, F', ks, wd, ex, pot2, al, hwd, pw⟩
    have hnew : ∀ q ∈ wd, q.1 ≠ c := fun q hq z => by
      have h1 : q.1 ∈ ds.take i := by rw [← hwd]; exact List.mem_map.mpr ⟨q, hq, rfl⟩
      obtain ⟨j, hj, hjd⟩ := get_take_mem h1
      rw [z] at hjd
      obtain ⟨hj1, e1⟩ := List.getElem?_eq_some_iff.mp hjd
      obtain ⟨hi1, e2⟩ := List.getElem?_eq_some_iff.mp hc
      have := (List.getElem_inj hd.nodup).mp (e1.trans e2.symm)
      omega
    have hwl := congrArg List.length hwd
    rw [List.length_map, List.length_take] at hwl
    have hks := paired_len al
    repeat trivial
    refine i_putD (i_cb (i_cons (i_call (i_cons (i_var rfl (i_cons ?_))))))
    have e : rgV 0 (n : Int) = (List.range n).map iv := by
      unfold rgV
      rw [show ((n : Int) - 0).toNat = n by omega]
      exact List.map_congr_left fun i _ => by rw [show (0 + (i : Int)) = (i : Int) by omega]
    show tRg1 (tVar 2) _ _ _
    unfold tRg1
    repeat trivial
    refine ⟨_, rfl, RgOk.of_le (by omega) (by omega) (by omega) (by omega), fun l hl => ?_⟩
    rw [e]
    have pot3 := pot2.newF hl (o := .lst ((List.range n).map iv))
    have ex3 := pot2.newEx hl (o := .lst ((List.range n).map iv))
    repeat trivial
    refine ⟨_, _, rfl, _, _, p, l, n, rfl, rfl, upd_same, hn, pot3, fun b m F4 H4 pm ex4 pot4 hb => ?_⟩
    repeat trivial
    refine o_tupleX (SqL.of (pot4.fget hb)) fun t ob ht hc1 hc2 => ?_
    have pot5 := pot4.newF ht (o := .frz ob (.tup (m.map iv)))
    have ex5 := pot4.newEx ht (o := .frz ob (.tup (m.map iv)))
    repeat trivial
    refine o_putD (k := .inr (T [c])) pot5.get ?_ (al_none al.al hnew) ?_
    · exact line_gt (by omega)
    · have exx := (ex3.trans ex4).trans ex5
      refine ⟨⟨_, rfl⟩, _, _, wd ++ [(c, m)], ex.trans exx, pot5.wr, paired_app (exx.alX al) (.cons ⟨rfl, t, ob, rfl, upd_same, hc1, hc2⟩ .nil), ?_, fun q hq => ?_⟩
      · rw [List.map_append, hwd, take_succ_of hc]
        rfl
      · rcases List.mem_append.mp hq with hq | hq
        · exact pw q hq
        · rw [List.mem_singleton] at hq
          subst hq
          exact pm
  · rintro σ H' ⟨⟨u, rfl⟩, F', ks, wd, ex, pot2, al, hwd, pw⟩
    rw [List.take_length] at hwd
    repeat trivial
    exact q _ wd _ _ hwd ⟨by rw [hwd]; exact hd, pw, hn0⟩ (ex.trans pot2.ex) pot2.frz ⟨D, ks, rfl, upd_same, pot2.ex.alX al⟩
end
end Rb

set_option maxHeartbeats 2000000
namespace Rb
open PySem PySem.Spec PyProof.Rows L2
local macro_rules | `(tactic| trivial) => `(tactic| with_reducible first
  | refine i_seq ?_ | refine i_nx ?_ | refine i_ret ?_ | refine i_retN ?_ | refine i_drop ?_ | refine i_ifS ?_ | refine i_asg ?_ | refine i_name ?_ | refine i_sub ?_
  | refine ite_t ?_ | refine ite_f ?_ | refine not_t ?_ | refine not_f ?_ | refine i_test ?_ | refine i_bl ?_ | refine i_not ?_ | refine i_and ?_ | refine i_or ?_ | refine i_tr ?_ | refine i_trb ?_ | refine i_yes ?_ | refine i_chain ?_
  | refine i_var rfl ?_ | refine i_c ?_ | refine i_op ?_ | refine i_if ?_ | refine i_andV ?_ | refine i_orV ?_ | refine i_notV ?_ | refine ite_nt ?_ | refine ite_nf ?_ | refine i_nil ?_ | refine i_cons ?_ | refine i_cb ?_ | refine i_call ?_ | refine i_callS ?_
  | refine o_gt ?_ | refine o_lt ?_ | refine o_ge ?_ | refine o_le ?_ | refine o_subI ?_ | refine i_m0 ?_ | refine i_m1 ?_ | refine i_ix ?_ | refine i_fld ?_ | refine i_lst ?_ | refine i_tup ?_)
section
variable {K : PySem.W.Frag} {vs : List V} {H : Hp} {Q : VK} {E : XK} {D : Ends}
theorem cut_all {xs : List V} {k : Nat} (h : xs.length ≤ k) : cutV xs none (some (k : Int)) = xs := by
  unfold cutV
  have e1 : HT.sIx xs.length 0 none = 0 := rfl
  have e2 : HT.sIx xs.length xs.length (some (k : Int)) = xs.length := by
    show (if (k : Int) < 0 then ((k : Int) + (xs.length : Int)).toNat else min (k : Int).toNat xs.length) = xs.length
    rw [if_neg (by omega), Int.toNat_natCast]
    omega
  rw [e1, e2, List.drop_zero, Nat.sub_zero, List.take_length]
theorem o_abs {k : Int} (h : Q (.int (if k < 0 then -k else k)) H) : oAbs [.int k] H Q := ⟨k, rfl, h⟩
theorem o_powC {k l : Int} (hl : 0 ≤ l ∧ l ≤ 1000000 ∧ k.natAbs < 2 ^ 64) (h : Q (.int (k ^ l.toNat)) H) : oPow (.int k) (.int l) H Q := ⟨k, l, rfl, rfl, hl, h⟩
theorem HS.all (H : Hp) : HS H [] H := ⟨fun _ _ h => h, fun p hp => absurd hp List.not_mem_nil, fun p hp => absurd hp List.not_mem_nil, List.nodup_nil⟩
theorem map_snoc (l : List Int) (i : Int) : l.map V.int ++ [V.int i] = (l ++ [i]).map V.int := by rw [List.map_append]; rfl
theorem i_noP {σ : L2.St} {R : Option Int → Hp → Prop} (h : R none H) : tNoPart σ H R := h
theorem i_part {σ : L2.St} {te : TE} {R : Option Int → Hp → Prop} (h : te σ H fun x H1 => ∃ i, x = .int i ∧ R (some i) H1) : tPart te σ H R := h
theorem pure__law_pot (h : sp__law_pot K vs H Q E) : t__law_pot K (fin Q) (start N__law_pot vs) H := by
  obtain ⟨x, rfl, a, ns, rfl, hq, hl, q⟩ := h
  unfold t__law_pot
  have hs0 := HS.all H
  repeat trivial
  refine i_lc_l ?_
  show tVar 0 _ _ _
  refine i_var rfl ?_
  refine i_noP (i_part (i_c ⟨_, rfl, ?_⟩))
  refine .inl ⟨a, _, rfl, hq, fun c hc => ?_⟩
  have ecut : cutV (ns.map V.int) none (some 63) = ns.map V.int := cut_all (k := 63) (by rw [List.length_map]; exact hl)
  rw [ecut]
  have p1 := hs0.newF hc (o := .lst (ns.map V.int))
  have ex1 := hs0.newEx hc (o := .lst (ns.map V.int))
  refine e_lc_l (xs := ns.map V.int) (SqL.of upd_same) fun D hD => ⟨fun i H' => HS (upd H c (.lst (ns.map V.int))) [(D, .lst ((ns.map V.int).take i))] H', p1.new hD, fun i H' p => SqL.of (p.fget upd_same), ?_, ?_⟩
  · intro i x H' hx p
    obtain ⟨k, hk, rfl⟩ := get_map hx
    repeat trivial
    refine o_int ?_
    exact lc_put p hx (by rw [List.length_map]; omega)
  intro H' p
  rw [List.take_length] at p
  have p2 := p.frz
  have ex2 := p.frzEx
  have hD2 : upd (upd H c (.lst (ns.map V.int))) D (.lst (ns.map V.int)) D = some (.lst (ns.map V.int)) := upd_same
  generalize upd (upd H c (.lst (ns.map V.int))) D (.lst (ns.map V.int)) = F2 at p2 ex2 hD2
  have exF : Ex H F2 := ex1.trans ex2
  repeat trivial
  refine i_lc_l ?_
  repeat trivial
  refine e_lc_l (xs := ns.map V.int) (SqL.of (p2.fget hD2)) fun G hG => ⟨fun i H' => ∃ acc : List Int, HS F2 [(G, .lst (acc.map V.int))] H' ∧ acc.length ≤ i, ⟨[], p2.new hG, Nat.le_refl _⟩, fun i H' ⟨_, p, _⟩ => SqL.of (p.fget hD2), ?_, ?_⟩
  · rintro i x H' hx ⟨acc, p, hacc⟩
    obtain ⟨k, hk, rfl⟩ := get_map hx
    have hi := get_lt hk
    repeat trivial
    refine o_abs ?_
    repeat trivial
    refine o_powC (by decide) ?_
    repeat trivial
    refine ite_d (fun _ => ?_) fun _ => ?_
    · repeat trivial
      refine o_abs ?_
      refine ⟨_, p.get, by rw [List.length_map, sizeLine_eq]; omega, acc ++ [if k < 0 then -k else k], ?_, by rw [List.length_append, List.length_singleton]; omega⟩
      rw [← map_snoc]
      exact p.wr
    · exact ⟨acc, p, by omega⟩
  rintro H3 ⟨gs, p3, hgs⟩
  rw [List.length_map] at hgs
  repeat trivial
  refine i_lc_l ?_
  repeat trivial
  refine e_lc_l (xs := ns.map V.int) (SqL.of (p3.fget hD2)) fun L hL => ⟨fun i H' => ∃ acc : List Int, HS F2 [(L, .lst (acc.map V.int)), (G, .lst (gs.map V.int))] H' ∧ acc.length ≤ i, ⟨[], p3.new hL, Nat.le_refl _⟩, fun i H' ⟨_, p, _⟩ => SqL.of (p.fget hD2), ?_, ?_⟩
  · rintro i x H' hx ⟨acc, p, hacc⟩
    obtain ⟨k, hk, rfl⟩ := get_map hx
    have hi := get_lt hk
    repeat trivial
    refine o_abs ?_
    repeat trivial
    refine o_powC (by decide) ?_
    repeat trivial
    refine ite_d (fun _ => ?_) fun _ => ?_
    · repeat trivial
      refine o_int ?_
      repeat trivial
      refine o_modI (by decide) ?_
      refine ⟨_, p.get, by rw [List.length_map, sizeLine_eq]; omega, acc ++ [k.fmod 1000000007], ?_, by rw [List.length_append, List.length_singleton]; omega⟩
      rw [← map_snoc]
      exact p.wr
    · exact ⟨acc, p, by omega⟩
  rintro H4 ⟨ss, p4, hss⟩
  rw [List.length_map] at hss
  have p5 := p4.frz
  have ex5 := p4.frzEx
  have hL5 : upd F2 L (.lst (ss.map V.int)) L = some (.lst (ss.map V.int)) := upd_same
  generalize upd F2 L (.lst (ss.map V.int)) = F5 at p5 ex5 hL5
  have hD5 := ex5 _ _ hD2
  repeat trivial
  refine o_len_l (SqL.of (p5.fget hD5)) ?_
  rw [List.length_map]
  repeat trivial
  refine o_add1 ?_
  refine i_nil ⟨by show 1 ≤ sizeLine; decide, fun t ht => ?_⟩
  have p6 := p5.newF ht (o := .lst [iv (ns.length + 1)])
  have ex6 := p5.newEx ht (o := .lst [iv (ns.length + 1)])
  refine .inr (.inr ⟨L, t, _, _, rfl, rfl, p6.fget (ex6 _ _ hL5), p6.fget upd_same, ?_, fun S hS => ?_⟩)
  · rw [List.length_map, sizeLine_eq]
    show ss.length + 1 ≤ 16777216
    omega
  have e7 : ss.map V.int ++ [iv (ns.length + 1)] = (ss ++ [((ns.length + 1 : Nat) : Int)]).map V.int := map_snoc _ _
  rw [e7]
  have p7 := p6.newF hS (o := .lst ((ss ++ [((ns.length + 1 : Nat) : Int)]).map V.int))
  have ex7 := p6.newEx hS (o := .lst ((ss ++ [((ns.length + 1 : Nat) : Int)]).map V.int))
  have hS7 : upd (upd F5 t (.lst [iv (ns.length + 1)])) S (.lst ((ss ++ [((ns.length + 1 : Nat) : Int)]).map V.int)) S = some (.lst ((ss ++ [((ns.length + 1 : Nat) : Int)]).map V.int)) := upd_same
  have exA := exF.trans (ex5.trans (ex6.trans ex7))
  generalize upd (upd F5 t (.lst [iv (ns.length + 1)])) S (.lst ((ss ++ [((ns.length + 1 : Nat) : Int)]).map V.int)) = F7 at p7 hS7 exA
  repeat trivial
  refine ⟨S, _, rfl, SqL.of (p7.fget hS7), ?_⟩
  repeat trivial
  refine o_int ?_
  repeat trivial
  refine o_modI (by decide) ?_
  generalize Int.fmod _ 999983 = u
  refine i_nil ⟨by show 4 ≤ sizeLine; decide, fun p hp => ?_⟩
  have p8 := p7.new hp (o := .lst [V.ref G, V.ref S, V.int 0, V.int u])
  refine q F7 p _ ⟨G, S, gs, _, 0, u, p8, hS7, by rw [List.length_append, List.length_singleton]; omega, by rw [List.length_append, List.length_singleton]; omega, by omega⟩ ?_
  exact SqL.ext hq (fun b o e => p8.fget (exA b o e))
end
end Rb

set_option maxHeartbeats 2000000
namespace Rb
open PySem PySem.Spec PyProof.Rows L2
local macro_rules | `(tactic| trivial) => `(tactic| with_reducible first
  | refine i_seq ?_ | refine i_nx ?_ | refine i_ret ?_ | refine i_retN ?_ | refine i_drop ?_ | refine i_ifS ?_ | refine i_asg ?_ | refine i_name ?_ | refine i_sub ?_
  | refine ite_t ?_ | refine ite_f ?_ | refine not_t ?_ | refine not_f ?_ | refine i_test ?_ | refine i_bl ?_ | refine i_not ?_ | refine i_and ?_ | refine i_or ?_ | refine i_tr ?_ | refine i_trb ?_ | refine i_yes ?_ | refine i_chain ?_
  | refine i_var rfl ?_ | refine i_c ?_ | refine i_op ?_ | refine i_if ?_ | refine i_andV ?_ | refine i_orV ?_ | refine i_notV ?_ | refine ite_nt ?_ | refine ite_nf ?_ | refine i_nil ?_ | refine i_cons ?_ | refine i_cb ?_ | refine i_call ?_ | refine i_callS ?_
  | refine o_gt ?_ | refine o_lt ?_ | refine o_ge ?_ | refine o_le ?_ | refine o_subI ?_ | refine i_m0 ?_ | refine i_m1 ?_ | refine i_ix ?_ | refine i_fld ?_ | refine i_lst ?_ | refine i_tup ?_)
section
variable {K : PySem.W.Frag} {vs : List V} {H : Hp} {Q : VK} {E : XK} {D : Ends}
/-! mathematics of the law -/
theorem at_deed {wd : WD} {d : Nat} (h : d ∈ wd.map (·.1)) : ∃ (i : Nat) (m : List Nat), wd[i]? = some (d, m) := by
  obtain ⟨⟨d', m⟩, hp, rfl⟩ := List.mem_map.mp h
  obtain ⟨i, hi, e⟩ := List.getElem_of_mem hp
  exact ⟨i, m, by rw [← e]; exact List.getElem?_eq_getElem hi⟩
theorem mv_low {wd : WD} {n i c : Nat} {m : List Nat} (ok : WOk wd n) (h : wd[i]? = some (c, m)) : mv (both wd) c = m := by
  unfold mv
  rw [low_look ok.deeds (mem_of_get2 h)]
  rfl
theorem mv_up {wd : WD} {n i c : Nat} {m : List Nat} (ok : WOk wd n) (h : wd[i]? = some (c, m)) : mv (both wd) (up c) = inv m := by
  unfold mv
  rw [lookup_of_mem (both_nodup ok.deeds) (show (up c, inv m) ∈ both wd by unfold both; exact List.mem_flatMap.mpr ⟨_, mem_of_get2 h, List.mem_cons_of_mem _ List.mem_cons_self⟩)]
  rfl
theorem mv_beside {wd wd' : WD} {n n' c : Nat} (eq : wd.map (·.1) = wd'.map (·.1)) (ok : WOk wd n) (ok' : WOk wd' n') (hc : c ∈ lets (wd.map (·.1))) : mv (both (besideW wd wd')) c = beside (mv (both wd) c) (mv (both wd') c) := by
  obtain ⟨d, hd, e⟩ := lets_is hc
  obtain ⟨i, m, hi⟩ := at_deed hd
  obtain ⟨m', hi'⟩ := zip_at eq hi
  have hz := zip_get hi hi'
  have okz := zip_ok eq ok ok'
  rcases e with rfl | rfl
  · rw [mv_low okz hz, mv_low ok hi, mv_low ok' hi']
  · rw [mv_up okz hz, mv_up ok hi, mv_up ok' hi']
    exact beside_inv (ok.perm _ (mem_of_get2 hi)) (ok'.perm _ (mem_of_get2 hi'))
theorem led_beside {wd wd' : WD} {n n' : Nat} (eq : wd.map (·.1) = wd'.map (·.1)) (ok : WOk wd n) (ok' : WOk wd' n') : ∀ {rs : List Nat} {s t : Nat}, s < n → t < n' → (∀ c ∈ rs, c ∈ lets (wd.map (·.1))) →
    ledBy (both (besideW wd wd')) (s * n' + t) rs = ledBy (both wd) s rs * n' + ledBy (both wd') t rs
  | [], s, t, _, _, _ => rfl
  | c :: r, s, t, hs, ht, hr => by
    have hc := hr c List.mem_cons_self
    have p := (letter_move ok hc).2.1
    have p' := (letter_move ok' (show c ∈ lets (wd'.map (·.1)) by rw [← eq]; exact hc)).2.1
    show ledBy _ ((mv (both (besideW wd wd')) c).getD (s * n' + t) 0) r = ledBy _ ((mv (both wd) c).getD s 0) r * n' + ledBy _ ((mv (both wd') c).getD t 0) r
    rw [mv_beside eq ok ok' hc]
    have h := beside_at (a := mv (both wd) c) (b := mv (both wd') c) (t := t) (s := s) (by rw [p'.len]; exact ht) (by rw [p.len]; exact hs)
    rw [p'.len] at h
    rw [h]
    exact led_beside eq ok ok' (p.at_lt hs) (p'.at_lt ht) fun x hx => hr x (List.mem_cons_of_mem _ hx)
theorem row_beside {wd wd' : WD} {n n' : Nat} (eq : wd.map (·.1) = wd'.map (·.1)) (ok : WOk wd n) (ok' : WOk wd' n') {rs : List Nat} (hr : ∀ c ∈ rs, c ∈ lets (wd.map (·.1))) :
    rowMove (both (besideW wd wd')) (n * n') rs = beside (rowMove (both wd) n rs) (rowMove (both wd') n' rs) := by
  suffices h : ∀ (rs : List Nat) (f g : List Nat), IsPerm n f → IsPerm n' g → (∀ c ∈ rs, c ∈ lets (wd.map (·.1))) →
      rs.foldl (fun f c => comp f (mv (both (besideW wd wd')) c)) (beside f g) = beside (rs.foldl (fun f c => comp f (mv (both wd) c)) f) (rs.foldl (fun f c => comp f (mv (both wd') c)) g) by
    unfold rowMove
    rw [← beside_range]
    exact h rs _ _ (IsPerm.range n) (IsPerm.range n') hr
  intro rs
  induction rs with
  | nil => intro f g _ _ _; rfl
  | cons c r ih =>
    intro f g pf pg hr
    have hc := hr c List.mem_cons_self
    have p := (letter_move ok hc).2.1
    have p' := (letter_move ok' (show c ∈ lets (wd'.map (·.1)) by rw [← eq]; exact hc)).2.1
    rw [List.foldl_cons, List.foldl_cons, List.foldl_cons, mv_beside eq ok ok' hc, beside_comp pf pg p p']
    exact ih _ _ (pf.comp p) (pg.comp p') fun x hx => hr x (List.mem_cons_of_mem _ hx)
theorem row_led (al : WD) : ∀ (rs f : List Nat) (s : Nat), s < f.length → (rs.foldl (fun f c => comp f (mv al c)) f).getD s 0 = ledBy al (f.getD s 0) rs
  | [], f, s, _ => rfl
  | c :: r, f, s, h => by
    rw [List.foldl_cons, row_led al r _ s (by rw [comp_len]; exact h), comp_at h]
    rfl
theorem row_at {al : WD} {n s : Nat} {rs : List Nat} (h : s < n) : (rowMove al n rs).getD s 0 = ledBy al s rs := by
  have e := row_led al rs (List.range n) s (by rw [List.length_range]; exact h)
  rw [getD_range h] at e
  exact e
theorem zip_assoc (a b c : WD) : besideW (besideW a b) c = besideW a (besideW b c) := by
  unfold besideW
  induction a generalizing b c with
  | nil => rfl
  | cons x a ih =>
    cases b with
    | nil => rfl
    | cons y b =>
      cases c with
      | nil => rfl
      | cons z c =>
        show (x.1, beside (beside x.2 y.2) z.2) :: _ = (x.1, beside x.2 (beside y.2 z.2)) :: _
        rw [beside_assoc]
        exact congrArg _ (ih b c)
theorem ord_small {m : List Nat} {o : Nat} (h : OrdOf m o) (hl : m.length ≤ 6) : o ≤ 1000000 := by
  have h1 := Nat.le_of_dvd (fact_pos _) h.fac
  have : ∀ k, k ≤ 6 → fact k ≤ 720 := by
    intro k hk
    have : k = 0 ∨ k = 1 ∨ k = 2 ∨ k = 3 ∨ k = 4 ∨ k = 5 ∨ k = 6 := by omega
    rcases this with rfl | rfl | rfl | rfl | rfl | rfl | rfl <;> decide
  have := this _ hl
  omega
theorem sub_len : ∀ {l m : List Nat}, l.Nodup → (∀ x ∈ l, x ∈ m) → l.length ≤ m.length
  | [], m, _, _ => Nat.zero_le _
  | a :: r, m, nd, h => by
    have hn := List.nodup_cons.mp nd
    have ha := h a List.mem_cons_self
    have := sub_len (l := r) (m := m.erase a) hn.2 fun x hx => by
      have hne : x ≠ a := fun z => hn.1 (z ▸ hx)
      exact (List.mem_erase_of_ne hne).mpr (h x (List.mem_cons_of_mem _ hx))
    rw [List.length_erase_of_mem ha] at this
    have hp : 0 < m.length := List.length_pos_of_mem ha
    rw [List.length_cons]
    omega
def spares (ds : List Nat) : List Nat := smallL.filter fun c => decide (c ∉ ds)
theorem spares_ne {ds : List Nat} (h : ds.length ≤ 25) : 0 < (spares ds).length := by
  rcases Nat.eq_zero_or_pos (spares ds).length with e | e
  · exfalso
    have h1 : smallL.length ≤ ds.length := sub_len (by unfold smallL; exact List.nodup_range') fun x hx => by
      rcases Classical.em (x ∈ ds) with g | g
      · exact g
      · have : x ∈ spares ds := by
          unfold spares
          exact List.mem_filter.mpr ⟨hx, decide_eq_true g⟩
        rw [List.length_eq_zero_iff.mp e] at this
        exact absurd this List.not_mem_nil
    have : smallL.length = 26 := by decide
    omega
  · exact e
theorem cut_tail (d : Nat) (r : List Nat) : cutS (T (d :: r)) (some 1) none = T r := by
  have e0 : (T (d :: r)).length = r.length + 1 := rfl
  have e1 : HT.sIx (r.length + 1) 0 (some 1) = 1 := by
    show (if (1 : Int) < 0 then ((1 : Int) + ((r.length + 1 : Nat) : Int)).toNat else min (1 : Int).toNat (r.length + 1)) = 1
    rw [if_neg (by decide)]
    show min 1 (r.length + 1) = 1
    omega
  have e2 : HT.sIx (r.length + 1) (r.length + 1) none = r.length + 1 := rfl
  unfold cutS
  rw [e0, e1, e2]
  show (⟨(((d :: r).drop 1).take (r.length + 1 - 1)).toArray⟩ : Str) = ⟨r.toArray⟩
  rw [List.drop_succ_cons, List.drop_zero, Nat.add_sub_cancel, List.take_length]
theorem rising_le : ∀ {os : List Nat} {p : Nat}, risingS (T [p]) (os.map fun c => T [c]) = true → (∀ x ∈ os, p ≤ x) ∧ os.Pairwise (· ≤ ·)
  | [], p, _ => ⟨fun x hx => absurd hx List.not_mem_nil, .nil⟩
  | x :: r, p, h => by
    have h' : (!(decide (x < p) || (x == p && false)) && risingS (T [x]) (r.map fun c => T [c])) = true := h
    rw [Bool.and_eq_true] at h'
    obtain ⟨h1, h2⟩ := h'
    obtain ⟨g1, g2⟩ := rising_le h2
    have hp : p ≤ x := by
      simp at h1
      omega
    refine ⟨fun y hy => ?_, List.pairwise_cons.mpr ⟨g1, g2⟩⟩
    rcases List.mem_cons.mp hy with rfl | hy
    · exact hp
    · exact Nat.le_trans hp (g1 y hy)
theorem le_of_sorted {os : List Nat} (h : sortedS (os.map fun c => T [c]) = true) : os.Pairwise (· ≤ ·) := by
  cases os with
  | nil => exact .nil
  | cons x r =>
    obtain ⟨g1, g2⟩ := rising_le (p := x) (os := r) h
    exact List.pairwise_cons.mpr ⟨g1, g2⟩
theorem perm_map {l : List Nat} {ys : List Str} (h : ys.Perm (l.map fun c => T [c])) : ∃ os : List Nat, ys = os.map (fun c => T [c]) ∧ os.Perm l := by
  refine ⟨ys.map fun s => s.cps.toList.headD 0, ?_, ?_⟩
  · rw [List.map_map]
    have : ∀ s ∈ ys, ((fun c => T [c]) ∘ fun s : Str => s.cps.toList.headD 0) s = s := fun s hs => by
      obtain ⟨c, _, e⟩ := List.mem_map.mp (h.mem_iff.mp hs)
      rw [← e]
      rfl
    exact (List.map_id ys).symm.trans (List.map_congr_left fun s hs => (this s hs).symm)
  · have := h.map fun s : Str => s.cps.toList.headD 0
    rw [List.map_map] at this
    have e : l.map ((fun s : Str => s.cps.toList.headD 0) ∘ fun c => T [c]) = l := (List.map_congr_left fun c _ => rfl).trans (List.map_id l)
    rw [e] at this
    exact this
/-- the other deeds -/
theorem other_deeds {d sp : Nat} {r : List Nat} {ys : List Str} (hd : Deeds (d :: r)) (hs : sp ∈ spares (d :: r)) (h : ys.Perm ((r ++ [sp]).map fun c => T [c])) (hs2 : sortedS ys = true) :
    ∃ os : List Nat, ys = os.map (fun c => T [c]) ∧ Deeds os ∧ os ≠ d :: r ∧ os.length = r.length + 1 := by
  obtain ⟨os, rfl, hp⟩ := perm_map h
  have hle := le_of_sorted hs2
  obtain ⟨h1, h2⟩ := List.mem_filter.mp hs
  have hns : sp ∉ d :: r := of_decide_eq_true h2
  have hsl : 97 ≤ sp ∧ sp ≤ 122 := by
    unfold smallL at h1
    rw [List.mem_range'] at h1
    obtain ⟨i, hi, e⟩ := h1
    omega
  have nd : (r ++ [sp]).Nodup := by
    rw [List.nodup_append]
    refine ⟨(List.nodup_cons.mp hd.nodup).2, by simp, fun a ha b hb e => ?_⟩
    rw [List.mem_singleton] at hb
    subst hb
    subst e
    exact hns (List.mem_cons_of_mem _ ha)
  have ndo : os.Nodup := hp.nodup_iff.mpr nd
  have hlen := hp.length_eq
  rw [List.length_append, List.length_singleton] at hlen
  have hd4 := hd.len
  rw [List.length_cons] at hd4
  refine ⟨os, rfl, ⟨by omega, by omega, fun x hx => ?_, ?_⟩, fun e => ?_, hlen⟩
  · rcases List.mem_append.mp (hp.mem_iff.mp hx) with hx | hx
    · exact hd.lt x (List.mem_cons_of_mem _ hx)
    · rw [List.mem_singleton] at hx
      subst hx
      exact hsl
  · exact (hle.and ndo).imp fun h => Nat.lt_of_le_of_ne h.1 h.2
  · refine hns ?_
    rw [← e]
    exact hp.mem_iff.mpr (List.mem_append_right _ (List.mem_singleton.mpr rfl))
end
end Rb

set_option maxHeartbeats 2000000
namespace Rb
open PySem PySem.Spec PyProof.Rows L2
local macro_rules | `(tactic| trivial) => `(tactic| with_reducible first
  | refine i_seq ?_ | refine i_nx ?_ | refine i_ret ?_ | refine i_retN ?_ | refine i_drop ?_ | refine i_ifS ?_ | refine i_asg ?_ | refine i_name ?_ | refine i_sub ?_
  | refine ite_t ?_ | refine ite_f ?_ | refine not_t ?_ | refine not_f ?_ | refine i_test ?_ | refine i_bl ?_ | refine i_not ?_ | refine i_and ?_ | refine i_or ?_ | refine i_tr ?_ | refine i_trb ?_ | refine i_yes ?_ | refine i_chain ?_
  | refine i_var rfl ?_ | refine i_c ?_ | refine i_op ?_ | refine i_if ?_ | refine i_andV ?_ | refine i_orV ?_ | refine i_notV ?_ | refine ite_nt ?_ | refine ite_nf ?_ | refine i_nil ?_ | refine i_cons ?_ | refine i_cb ?_ | refine i_call ?_ | refine i_callS ?_
  | refine o_gt ?_ | refine o_lt ?_ | refine o_ge ?_ | refine o_le ?_ | refine o_subI ?_ | refine i_m0 ?_ | refine i_m1 ?_ | refine i_ix ?_ | refine i_fld ?_ | refine i_lst ?_ | refine i_tup ?_)
section
variable {K : PySem.W.Frag} {vs : List V} {H : Hp} {Q : VK} {E : XK} {D : Ends}
theorem with_rest {t : TS} {σ : L2.St} (I : L2.St → Hp → Prop) (rest : ∀ σ' H', I σ' H' → D.nx σ' H') (h : (∀ σ' H', I σ' H' → D.nx σ' H') → t D σ H) : t D σ H := h rest
theorem ite_rest {c : Bool} {t1 t2 : TS} {σ : L2.St} (I : L2.St → Hp → Prop) (rest : ∀ σ' H', I σ' H' → D.nx σ' H') (h1 : c = true → (∀ σ' H', I σ' H' → D.nx σ' H') → t1 D σ H) (h2 : c = false → (∀ σ' H', I σ' H' → D.nx σ' H') → t2 D σ H) : if c = true then t1 D σ H else t2 D σ H := by
  cases c with
  | true => rw [if_pos rfl]; exact h1 rfl rest
  | false => rw [if_neg Bool.false_ne_true]; exact h2 rfl rest
theorem PotS.ext {F : Hp} {M : List (Addr × HO)} {p : Addr} {H' : Hp} (h : PotS F M p H) (e : Ext H H') : PotS F M p H' := by
  obtain ⟨g, s, gs, ss, a, b, hs, r⟩ := h
  exact ⟨g, s, gs, ss, a, b, ⟨fun x o q => e _ _ (hs.fz x o q), fun q hq => e _ _ (hs.mu q hq), hs.dj, hs.nd⟩, r⟩
/-- World(ds, v) -/
theorem pot_make {C : Addr} {QA : Addr → Hp → Prop} {F : Hp} {M : List (Addr × HO)} {p : Addr} {v : V} {wd : WD} {n : Nat} (pot : PotS F M p H) (wc : WC K C) (dat : DictAt F v wd) (ok : WOk wd n) (hn : n ≤ 24) (q : ∀ x F' H', Ex F F' → PotS F' M p H' → WorldAt K C F' (.ref x) wd n → QA x H') :
    ∀ x dx, H x = none → H dx = none → dx ≠ x → sp_World_init K C (.ref x :: ([S (wd.map (·.1)), v] ++ [])) (upd (upd H dx (.own x)) x (.ins C dx [])) (fun v H2 => v = .non ∧ QA x H2) E := by
  intro x dx hx hdx hne
  obtain ⟨M', hs, back⟩ := pot.hs
  have h1 := hs.newF hdx (o := .own x)
  have ex1 := hs.newEx hdx (o := .own x)
  have h2 := h1.new (p := x) (o := .ins C dx []) (by rw [upd_ne (Ne.symm hne)]; exact hx)
  refine ⟨_, _, _, rfl, _, M', x, dx, wd, n, rfl, rfl, ex1.dict dat, h2, wc, ok, hn, fun F' H' km kb ex p2 d => ⟨rfl, ?_⟩⟩
  exact q x _ H' (ex1.trans (ex.trans p2.frzEx)) (back _ _ (ex1.trans (ex.trans p2.frzEx)) p2.frz) ⟨x, dx, km, kb, rfl, wc, upd_same, p2.frzEx.dict d, ok⟩
theorem ne_dat {x y : V} {d : PyData} (hx : Dp K H x d) (hy : Dp K H y d) (hs : SeqAt.shaped d = true) (he : PyData.eqv d d = true) (q : Q (.bl false) H) : cNe K x y H Q := .inr ⟨d, d, hx, hy, hs, hs, by rw [he]; exact q⟩
theorem i_prop {C : Addr} {sp : Sp} {ta : TE} {σ : L2.St} (h : ta σ H fun x H1 => ∃ a dx fs, x = .ref a ∧ H1 a = some (.ins C dx fs) ∧ sp (.ref a :: []) H1 Q E) : tProp C sp [] E ta σ H Q := h
theorem six {r : Nat} (h : r < 6) : [V.int 1, V.int 2, V.int 3, V.int 4, V.int 5, V.int 6][r]? = some (iv (r + 1)) := by
  match r, h with
  | 0, _ => rfl
  | 1, _ => rfl
  | 2, _ => rfl
  | 3, _ => rfl
  | 4, _ => rfl
  | 5, _ => rfl
theorem three {α : Type} {l : List α} (h : l.length = 3) : ∃ a b c, l = [a, b, c] := by
  match l, h with
  | [a, b, c], _ => exact ⟨a, b, c, rfl⟩
/-- the two dicts are unlike nowhere -/
theorem ne_dicts {F : Hp} {M : List (Addr × HO)} {p : Addr} {x y : V} {wd : WD} {n : Nat} (pot : PotS F M p H) (ok : WOk wd n) (hx : DictAt F x wd) (hy : DictAt F y wd) (q : Q (.bl false) H) : rNeDT K x y H Q := by
  obtain ⟨a, ks, rfl, ha, al⟩ := hx
  obtain ⟨b, ls, rfl, hb, bl⟩ := hy
  refine ⟨a, b, ks, ls, rfl, rfl, pot.fget ha, pot.fget hb, by rw [← al_len al, ← al_len bl], ?_, q⟩
  exact al_alike (Ex.al pot.fz al) (Ex.al pot.fz bl) fun c m hm => lookup_of_mem ok.deeds.nodup hm
theorem dp_two {a : Addr} {s : Str} {v : V} {d : PyData} (h : H a = some (.tup [.str s, v])) (hv : Dp K H v d) : Dp K H (.ref a) (.tuple [.str s, d]) := .tup (SqT.of h) (.cons (.str s) (.cons hv .nil))
theorem sh_large : SeqAt.shaped (.tuple [.str "large", .int 2000]) = true := by decide +kernel
theorem sh_deeds : SeqAt.shaped (.tuple [.str "deeds", .none]) = true := by decide +kernel
theorem eq_large : PyData.eqv (.tuple [.str "large", .int 2000]) (.tuple [.str "large", .int 2000]) = true := by decide +kernel
theorem eq_deeds : PyData.eqv (.tuple [.str "deeds", .none]) (.tuple [.str "deeds", .none]) = true := by decide +kernel
theorem and_rest {b : Bool} {t : TT} {σ : L2.St} {QB : Bool → Hp → Prop} (I : Hp → Prop) (rest : ∀ H', I H' → QB false H') (h : I H) (h1 : b = true → (∀ H', I H' → QB false H') → t σ H QB) : if b = true then t σ H QB else QB false H := by
  cases b with
  | true => rw [if_pos rfl]; exact h1 rfl rest
  | false => rw [if_neg Bool.false_ne_true]; exact rest H h
theorem ite_restH {c : Bool} {t1 t2 : TS} {σ : L2.St} (I : Hp → Prop) (rest : ∀ H', I H' → D.nx σ H') (h1 : c = true → (∀ H', I H' → D.nx σ H') → t1 D σ H) (h2 : c = false → (∀ H', I H' → D.nx σ H') → t2 D σ H) : if c = true then t1 D σ H else t2 D σ H := by
  cases c with
  | true => rw [if_pos rfl]; exact h1 rfl rest
  | false => rw [if_neg Bool.false_ne_true]; exact h2 rfl rest
theorem i_sl {rr : V → Option Int → Option Int → Hp → VK → Prop} {te : TE} {tl th : TO} {σ : L2.St} (h : te σ H fun x H1 => tl σ H1 fun l H2 => th σ H2 fun u H3 => rr x l u H3 Q) : tSl rr te tl th σ H Q := h
theorem pure_law {CW CR CO CT : Addr} (wcW : WC K CW) (wcR : WC K CR) (hk : PySem.W.kitOne K (.ref CR) (.ref CW) = some true) (h : sp_law K vs H Q E) : t_law K CW CR CO CT (fin Q) (start N_law vs) H := by
  obtain ⟨x, rfl, a, ns, rfl, hq, hl, q⟩ := h
  unfold t_law
  -- the pot, the deeds
  repeat trivial
  refine ⟨_, rfl, a, ns, rfl, hq, hl, fun F1 p H1 pot1 _ => ?_⟩
  repeat trivial
  refine ⟨_, _, rfl, F1, [], p, rfl, rfl, pot1, fun ds H2 hd hd3 pot2 => ?_⟩
  have hd0 := hd.ne
  -- the sizes
  repeat trivial
  refine i_lc_r ?_
  repeat trivial
  refine e_lc_r (k := 3) (by decide) fun D hD => ⟨fun i H' => ∃ (F' : Hp) (acc : List Nat), Ex F1 F' ∧ PotS F' [(D, .lst (acc.map iv))] p H' ∧ acc.length = i ∧ ∀ n ∈ acc, 1 ≤ n ∧ n ≤ 6, ⟨F1, [], Ex.refl F1, pot2.new hD, rfl, fun n hn => absurd hn List.not_mem_nil⟩, ?_, ?_⟩
  · rintro i H' hi ⟨F', acc, ex, pot, hacc, hb⟩
    repeat trivial
    refine ⟨by show 6 ≤ sizeLine; decide, fun t ht => ?_⟩
    have potT := pot.newF ht (o := .tup [V.int 1, V.int 2, V.int 3, V.int 4, V.int 5, V.int 6])
    have exT := pot.newEx ht (o := .tup [V.int 1, V.int 2, V.int 3, V.int 4, V.int 5, V.int 6])
    repeat trivial
    refine ⟨_, _, rfl, _, _, p, 6, rfl, rfl, by decide, by decide, potT, fun r H3 hr pot3 => ?_⟩
    refine o_ix_t (SqT.of (pot3.fget upd_same)) (six hr) ?_
    refine ⟨_, pot3.get, by rw [List.length_map, sizeLine_eq]; omega, _, acc ++ [r + 1], ex.trans exT, ?_, by rw [List.length_append, hacc]; rfl, fun n hn => ?_⟩
    · rw [List.map_append]
      exact pot3.wr
    · rcases List.mem_append.mp hn with hn | hn
      · exact hb n hn
      · rw [List.mem_singleton] at hn
        omega
  rintro H3 ⟨F2, sz0, ex2, pot3, hsz, hb⟩
  have pot4 := pot3.frz
  have hD4 : upd F2 D (.lst (sz0.map iv)) D = some (.lst (sz0.map iv)) := upd_same
  generalize upd F2 D (.lst (sz0.map iv)) = F4 at pot4 hD4
  -- great or not
  repeat trivial
  refine ⟨_, _, rfl, F4, [], p, 8, rfl, rfl, by decide, by decide, pot4, fun gr H5 hgr pot5 => ?_⟩
  repeat trivial
  refine o_eqI ?_
  generalize hG : decide ((gr : Int) = 0) = G
  repeat trivial
  refine ite_rest (fun σ' H' => ∃ (F' : Hp) (L : Addr) (n0 n1 n2 : Nat) (v4 : Option V), σ' = [some (.ref a), some (.ref p), some (S ds), some (.ref L), v4, some (.bl G), none, none, none, none, none, none, none, none, none, none, none, none, none, none, none] ∧
    PotS F' [] p H' ∧ F' L = some (.lst ([n0, n1, n2].map iv)) ∧ (1 ≤ n0 ∧ n0 ≤ 24) ∧ (1 ≤ n1 ∧ n1 ≤ 24) ∧ (1 ≤ n2 ∧ n2 ≤ 24) ∧ (G = false → n0 ≤ 6 ∧ n1 ≤ 6)) ?_ (fun hg rest => ?_) (fun hg rest => ?_)
  · rintro σ' H6 ⟨F6, L, n0, n1, n2, v4, rfl, pot6, hL, b0, b1, b2, hgs⟩
    have hLq : ∀ {F' : Hp} {M : List (Addr × HO)} {H' : Hp}, Ex F6 F' → PotS F' M p H' → SqL K H' L ([n0, n1, n2].map iv) := fun e pt => SqL.of (pt.fget (e _ _ hL))
    -- the moves
    repeat trivial
    refine i_lc_l ?_
    repeat trivial
    refine e_lc_l (xs := [n0, n1, n2].map iv) (hLq (Ex.refl _) pot6) fun D hD => ⟨fun i H' => ∃ (F' : Hp) (ws : List V) (wds : List WD), Ex F6 F' ∧ PotS F' [(D, .lst ws)] p H' ∧ Paired (fun v wd => DictX F' v wd ∧ wd.map (·.1) = ds) ws wds ∧ Paired (fun wd n => WOk wd n) wds ([n0, n1, n2].take i),
      ⟨F6, [], [], Ex.refl F6, pot6.new hD, .nil, .nil⟩, fun i H' ⟨F', ws, wds, ex, pt, _, _⟩ => hLq ex pt, ?_, ?_⟩
    · rintro i x H' hx ⟨F', ws, wds, ex, pt, pw, po⟩
      obtain ⟨n, hn, rfl⟩ := get_map hx
      have hi : i < 3 := get_lt hn
      have hnb : 0 < n ∧ n ≤ 24 := by
        have := mem_of_get2 hn
        simp at this
        omega
      repeat trivial
      refine ⟨_, _, _, rfl, F', _, p, ds, n, rfl, rfl, hd, rfl, hnb.1, by omega, pt, fun v wd F3 H3 hwd okw ex3 pot3 dx => ?_⟩
      have hwl := paired_len pw
      have hwl2 := paired_len po
      rw [List.length_take] at hwl2
      refine ⟨_, pot3.get, by rw [sizeLine_eq]; omega, F3, ws ++ [v], wds ++ [wd], ex.trans ex3, pot3.wr, paired_app (Paired.mapP pw fun _ _ z => ⟨ex3.dictX z.1, z.2⟩) (.cons ⟨dx, hwd⟩ .nil), ?_⟩
      rw [take_succ_of hn]
      exact paired_app po (.cons okw .nil)
    rintro H7 ⟨F7, ws, wds, ex7, pt7, pw, po⟩
    have pot8 := pt7.frz
    have ex8 := pt7.ex
    have po' : Paired (fun wd n => WOk wd n) wds [n0, n1, n2] := po
    have hwl := paired_len po'
    obtain ⟨w0, w1, w2, rfl⟩ := three hwl
    have hwl2 := paired_len pw
    obtain ⟨m0, m1, m2, rfl⟩ := three hwl2
    obtain ⟨ok0, ok1, ok2⟩ : WOk w0 n0 ∧ WOk w1 n1 ∧ WOk w2 n2 := by
      cases po' with
      | cons a t => cases t with
        | cons b t => cases t with
          | cons c t => exact ⟨a, b, c⟩
    obtain ⟨⟨dx0, e0⟩, ⟨dx1, e1⟩, ⟨dx2, e2⟩⟩ : (DictX F7 m0 w0 ∧ w0.map (·.1) = ds) ∧ (DictX F7 m1 w1 ∧ w1.map (·.1) = ds) ∧ (DictX F7 m2 w2 ∧ w2.map (·.1) = ds) := by
      cases pw with
      | cons a t => cases t with
        | cons b t => cases t with
          | cons c t => exact ⟨a, b, c⟩
    have hM8 : upd F7 D (.lst [m0, m1, m2]) D = some (.lst [m0, m1, m2]) := upd_same
    have x0 := ex8.dictX dx0
    have x1 := ex8.dictX dx1
    have x2 := ex8.dictX dx2
    have hL8 := ex8 _ _ (ex7 _ _ hL)
    generalize upd F7 D (.lst [m0, m1, m2]) = F8 at pot8 hM8 x0 x1 x2 hL8
    clear pt7 pw po ex8 dx0 dx1 dx2
    -- the worlds
    repeat trivial
    refine i_lc_l ?_
    repeat trivial
    refine e_lc_l (xs := [m0, m1, m2]) (SqL.of (pot8.fget hM8)) fun B hB => ⟨fun i H' => ∃ (F' : Hp) (us : List V), Ex F8 F' ∧ PotS F' [(B, .lst us)] p H' ∧ Paired (fun (u : V) (q : WD × Nat) => WorldAt K CW F' u q.1 q.2) us ([(w0, n0), (w1, n1), (w2, n2)].take i),
      ⟨F8, [], Ex.refl F8, pot8.new hB, .nil⟩, fun i H' ⟨F', us, ex, pt, _⟩ => SqL.of (pt.fget (ex _ _ hM8)), ?_, ?_⟩
    · rintro i x H' hx ⟨F', us, ex, pt, pu⟩
      have hi : i < 3 := get_lt hx
      obtain ⟨wd, n, h1, h2, h3, h4, h5⟩ : ∃ wd n, [(w0, n0), (w1, n1), (w2, n2)][i]? = some (wd, n) ∧ DictAt F8 x wd ∧ WOk wd n ∧ n ≤ 24 ∧ wd.map (·.1) = ds := by
        match i, hi with
        | 0, _ => cases hx; exact ⟨w0, n0, rfl, x0.at, ok0, b0.2, e0⟩
        | 1, _ => cases hx; exact ⟨w1, n1, rfl, x1.at, ok1, b1.2, e1⟩
        | 2, _ => cases hx; exact ⟨w2, n2, rfl, x2.at, ok2, b2.2, e2⟩
      have hul := paired_len pu
      rw [List.length_take] at hul
      repeat trivial
      refine i_make ?_
      repeat trivial
      rw [← h5]
      refine pot_make pt wcW (ex.dict h2) h3 h4 fun y F3 H3 ex3 pot3 wv => ?_
      refine ⟨_, pot3.get, by rw [sizeLine_eq]; omega, F3, us ++ [.ref y], ex.trans ex3, pot3.wr, ?_⟩
      rw [take_succ_of h1]
      exact paired_app (Paired.mapP pu fun _ _ z => ex3.world z) (.cons wv .nil)
    rintro H9 ⟨F9, us, ex9, pt9, pu⟩
    have pot10 := pt9.frz
    have ex10 := pt9.ex
    have pu' : Paired (fun (u : V) (q : WD × Nat) => WorldAt K CW F9 u q.1 q.2) us [(w0, n0), (w1, n1), (w2, n2)] := pu
    obtain ⟨u0, u1, u2, rfl⟩ := three (paired_len pu')
    obtain ⟨y0, y1, y2⟩ : WorldAt K CW F9 u0 w0 n0 ∧ WorldAt K CW F9 u1 w1 n1 ∧ WorldAt K CW F9 u2 w2 n2 := by
      cases pu' with
      | cons a t => cases t with
        | cons b t => cases t with
          | cons c t => exact ⟨a, b, c⟩
    have z0 := ex10.world y0
    have z1 := ex10.world y1
    have z2 := ex10.world y2
    have exx := ex9.trans ex10
    have hM := exx _ _ hM8
    have hL10 := exx _ _ hL8
    have d0 := exx.dictX x0
    have d1 := exx.dictX x1
    have d2 := exx.dictX x2
    have hB10 : upd F9 B (.lst [u0, u1, u2]) B = some (.lst [u0, u1, u2]) := upd_same
    generalize upd F9 B (.lst [u0, u1, u2]) = F at pot10 hB10 z0 z1 z2 hM hL10 d0 d1 d2
    clear pt9 pu ex10 exx pu' y0 y1 y2 x0 x1 x2 hM8 hL8 hLq hL pot8 ex9 ex7 po'
    have eq01 : w0.map (·.1) = w1.map (·.1) := by rw [e0, e1]
    have eq12 : w1.map (·.1) = w2.map (·.1) := by rw [e1, e2]
    have le01 : n0 * n1 ≤ 2000 := by
      have := Nat.mul_le_mul b0.2 b1.2
      omega
    have le12 : n1 * n2 ≤ 2000 := by
      have := Nat.mul_le_mul b1.2 b2.2
      omega
    have okT := zip_ok eq01 ok0 ok1
    have eT : (besideW w0 w1).map (·.1) = ds := by rw [zip_deeds eq01, e0]
    -- told
    obtain ⟨M10, hs10, back10⟩ := pot10.hs
    repeat trivial
    refine o_ix_l (i := 0) (SqL.of (pot10.fget hB10)) rfl ?_
    repeat trivial
    refine o_ix_l (i := 1) (SqL.of (pot10.fget hB10)) rfl ?_
    repeat trivial
    refine ⟨_, _, rfl, F, M10, CW, CW, w0, n0, w1, n1, z0, z1, hs10, by omega, by omega, fun ne => absurd eq01 ne, fun _ big => by omega, fun _ _ told F11 H11 ex11 hs11 wT => ?_⟩
    have pot11 := back10 F11 H11 ex11 hs11
    -- due
    repeat trivial
    refine o_ix_l (i := 0) (SqL.of (pot11.fget (ex11 _ _ hM))) rfl ?_
    repeat trivial
    refine o_ix_l (i := 1) (SqL.of (pot11.fget (ex11 _ _ hM))) rfl ?_
    repeat trivial
    refine ⟨_, _, _, rfl, F11, M10, w0, n0, w1, n1, by rw [e0], ex11.dict d0.at, ex11.dict d1.at, eq01, ok0, ok1, le01, hs11, fun due F12 H12 ex12 hs12 dD => ?_⟩
    have exA := ex11.trans ex12
    have pot12 := back10 F12 H12 exA hs12
    have wT12 := ex12.world wT
    have wT12' := wT12
    obtain ⟨tp, tdx, tkm, tkb, rfl, _, htp, _, _⟩ := wT12'
    repeat trivial
    refine o_isi (.own CW) (.base (.ins (pot12.fget htp) wcR.cl wcR.ha wcR.hn wcR.htk wcR.hm)) hk ?_
    repeat trivial
    refine o_fld (f := "deeds") (pot12.fget htp) wcR.cl wcR.nD wf_deeds ?_
    repeat trivial
    rw [eT]
    refine o_neS ?_
    rw [decide_eq_true rfl]
    repeat trivial
    refine i_prop ?_
    repeat trivial
    refine ⟨tp, tdx, _, rfl, pot12.fget htp, _, rfl, F12, M10, besideW w0 w1, n0 * n1, wT12, hs12, fun v F13 H13 ex13 hs13 dV => ?_⟩
    repeat trivial
    have exB := exA.trans ex13
    have pot13 := back10 F13 H13 exB hs13
    refine ne_dicts pot13 okT dV (ex13.dict dD) ?_
    repeat trivial
    refine o_fld (f := "size") (pot13.fget (ex13 _ _ htp)) wcR.cl wcR.nS wf_size ?_
    repeat trivial
    refine o_ix_l (i := 0) (SqL.of (pot13.fget (exB _ _ hL10))) rfl ?_
    repeat trivial
    refine o_ix_l (i := 1) (SqL.of (pot13.fget (exB _ _ hL10))) rfl ?_
    refine o_mul (by omega) ?_
    refine o_neI ?_
    rw [decide_eq_true rfl]
    repeat trivial
    have wT13 := ex13.world wT12
    have d0' := exB.dictX d0
    have d1' := exB.dictX d1
    have d2' := exB.dictX d2
    have z0' := exB.world z0
    have z1' := exB.world z1
    have z2' := exB.world z2
    have hM' := exB _ _ hM
    have hL' := exB _ _ hL10
    have hB' := exB _ _ hB10
    have dD' := ex13.dict dD
    clear hs10 hs11 hs12 hs13 pot10 pot11 pot12 d0 d1 d2 z0 z1 z2 hM hL10 hB10 wT wT12 back10 dV dD ex11 ex12 ex13 exA exB htp
    -- the row, the standings
    repeat trivial
    refine ⟨_, _, _, rfl, F13, [], p, ds, 10, rfl, rfl, hd, rfl, by decide, pot13, fun rs F14 H14 hrs hrl ex14 pot14 => ?_⟩
    have hrs0 : ∀ c ∈ rs, c ∈ lets (w0.map (·.1)) := by rw [e0]; exact hrs
    have hrs1 : ∀ c ∈ rs, c ∈ lets (w1.map (·.1)) := by rw [e1]; exact hrs
    have hrsT : ∀ c ∈ rs, c ∈ lets ((besideW w0 w1).map (·.1)) := by rw [eT]; exact hrs
    repeat trivial
    refine i_par ?_
    repeat trivial
    refine o_ix_l (i := 0) (SqL.of (pot14.fget (ex14 _ _ hL'))) rfl ?_
    repeat trivial
    refine ⟨_, _, rfl, F14, [], p, n0, rfl, rfl, by omega, by omega, pot14, fun s H15 hs pot15 => ?_⟩
    repeat trivial
    refine o_ix_l (i := 1) (SqL.of (pot15.fget (ex14 _ _ hL'))) rfl ?_
    repeat trivial
    refine ⟨_, _, rfl, F14, [], p, n1, rfl, rfl, by omega, by omega, pot15, fun t H16 ht pot16 => ?_⟩
    refine i_nil ⟨_, _, rfl, ?_⟩
    have wT14 := ex14.world wT13
    have d0 := ex14.dictX d0'
    have d1 := ex14.dictX d1'
    have d2 := ex14.dictX d2'
    have z0 := ex14.world z0'
    have z1 := ex14.world z1'
    have z2 := ex14.world z2'
    have hM := ex14 _ _ hM'
    have hL := ex14 _ _ hL'
    have hB := ex14 _ _ hB'
    have dD := ex14.dict dD'
    clear wT13 d0' d1' d2' z0' z1' z2' hM' hL' hB' dD' pot13 pot14 pot15 ex14
    -- the goal
    repeat trivial
    refine o_ix_l (i := 0) (SqL.of (pot16.fget hM)) rfl ?_
    repeat trivial
    refine ⟨_, _, _, rfl, w0, n0, s, rs, Ex.dictX pot16.fz d0, ok0, by omega, rfl, hs, rfl, hrs0, ?_⟩
    repeat trivial
    refine o_ix_l (i := 1) (SqL.of (pot16.fget hL)) rfl ?_
    refine o_mul2 (by omega) ?_
    repeat trivial
    refine o_ix_l (i := 1) (SqL.of (pot16.fget hM)) rfl ?_
    repeat trivial
    refine ⟨_, _, _, rfl, w1, n1, t, rs, Ex.dictX pot16.fz d1, ok1, by omega, rfl, ht, rfl, hrs1, ?_⟩
    refine o_add ?_
    have hst : s * n1 + t < n0 * n1 := pair_lt hs ht
    have hgoal := led_beside eq01 ok0 ok1 (rs := rs) hs ht hrs0
    rw [← hgoal]
    -- led
    repeat trivial
    refine o_ix_l (i := 1) (SqL.of (pot16.fget hL)) rfl ?_
    refine o_mul2 (by omega) ?_
    repeat trivial
    refine o_add ?_
    repeat trivial
    refine ⟨_, _, _, rfl, CR, _, _, _, rs, Ex.world pot16.fz wT14, rfl, hst, rfl, hrsT, ?_⟩
    repeat trivial
    refine o_neI ?_
    rw [decide_eq_true rfl]
    repeat trivial
    -- move_of
    obtain ⟨M16, hs16, back16⟩ := pot16.hs
    refine ⟨_, _, rfl, F14, M16, CR, _, _, rs, wT14, rfl, hs16, le01, hrsT, fun v F17 H17 ex17 hs17 tv => ?_⟩
    have pot17 := back16 F17 H17 ex17 hs17
    obtain ⟨ta, rfl, rta⟩ := tv
    have hrl : (rowMove (both (besideW w0 w1)) (n0 * n1) rs).length = n0 * n1 := (rowMove_perm okT hrsT).len
    repeat trivial
    refine o_ix_l (i := 1) (SqL.of (pot17.fget (ex17 _ _ hL))) rfl ?_
    refine o_mul2 (by omega) ?_
    repeat trivial
    refine o_add ?_
    refine o_ix_t (.inl (Ex.rd pot17.fz rta)) (get_of_map (get_getD (by rw [hrl]; exact hst))) ?_
    rw [row_at hst]
    repeat trivial
    refine o_neI ?_
    rw [decide_eq_true rfl]
    repeat trivial
    refine and_rest (fun H' => ∃ F', Ex F17 F' ∧ PotS F' [] p H') ?_ ⟨F17, Ex.refl _, pot17⟩ (fun hg rest => ?_)
    rotate_left
    · have hg' : G = false := by
        cases G with
        | true => exact nomatch hg
        | false => rfl
      obtain ⟨s0, s1⟩ := hgs hg'
      obtain ⟨M17, hs17, back17⟩ := pot17.hs
      repeat trivial
      refine ⟨_, _, rfl, F17, M17, CR, _, _, rs, ex17.world wT14, rfl, hs17, le01, hrsT, fun o Fa Ha oo exa hsa => ?_⟩
      have exa' := ex17.trans exa
      have pota := back17 Fa Ha exa hsa
      repeat trivial
      refine o_ix_l (i := 0) (SqL.of (pota.fget (exa' _ _ hB))) rfl ?_
      repeat trivial
      refine ⟨_, _, rfl, Fa, M17, CW, w0, n0, rs, exa'.world z0, rfl, hsa, by omega, hrs0, fun o0 Fb Hb oo0 exb hsb => ?_⟩
      have exb' := exa'.trans exb
      have potb := back17 Fb Hb (exa.trans exb) hsb
      repeat trivial
      refine o_ix_l (i := 1) (SqL.of (potb.fget (exb' _ _ hB))) rfl ?_
      repeat trivial
      refine ⟨_, _, rfl, Fb, M17, CW, w1, n1, rs, exb'.world z1, rfl, hsb, by omega, hrs1, fun o1 Fc Hc oo1 exc hsc => ?_⟩
      have potc := back17 Fc Hc ((exa.trans exb).trans exc) hsc
      repeat trivial
      have pr0 := rowMove_perm ok0 hrs0
      have pr1 := rowMove_perm ok1 hrs1
      refine ⟨_, _, rfl, o0, o1, rfl, rfl, oo0.pos, oo1.pos, ord_small oo1 (by rw [pr1.len]; exact s1), ?_⟩
      rw [row_beside eq01 ok0 ok1 hrs0] at oo
      have eo := ord_beside pr0 pr1 (by omega) (by omega) oo oo0 oo1
      refine o_neI ?_
      rw [decide_eq_true (by omega)]
      refine i_bl ?_
      exact rest _ ⟨Fc, (exa.trans exb).trans exc, potc⟩
    rintro H18 ⟨F18, ex18, pot18⟩
    have exC := ex17.trans ex18
    have wT := exC.world wT14
    have d0' := exC.dictX d0
    have d1' := exC.dictX d1
    have d2' := exC.dictX d2
    have z0' := exC.world z0
    have z1' := exC.world z1
    have z2' := exC.world z2
    have hM' := exC _ _ hM
    have hL' := exC _ _ hL
    have hB' := exC _ _ hB
    have dD' := exC.dict dD
    clear hs16 hs17 back16 pot16 pot17 d0 d1 d2 z0 z1 z2 hM hL hB dD wT14 exC ex18 ex17 rta
    have eqT2 : (besideW w0 w1).map (·.1) = w2.map (·.1) := by rw [eT, e2]
    have eq2T : w2.map (·.1) = (besideW w0 w1).map (·.1) := eqT2.symm
    -- asked
    obtain ⟨M18, hs18, back18⟩ := pot18.hs
    repeat trivial
    refine o_ix_l (i := 2) (SqL.of (pot18.fget hB')) rfl ?_
    repeat trivial
    refine ⟨_, _, rfl, F18, M18, CR, CW, _, _, w2, n2, wT, z2', hs18, le01, by omega, fun v F19 H19 ex19 hs19 ⟨fa, efa, c1, c2, c3⟩ => ?_⟩
    subst efa
    have pot19 := back18 F19 H19 ex19 hs19
    have wT9 := ex19.world wT
    have d0 := ex19.dictX d0'
    have d1 := ex19.dictX d1'
    have d2 := ex19.dictX d2'
    have z0 := ex19.world z0'
    have z1 := ex19.world z1'
    have z2 := ex19.world z2'
    have hM := ex19 _ _ hM'
    have hL := ex19 _ _ hL'
    have hB := ex19 _ _ hB'
    have dD := ex19.dict dD'
    clear d0' d1' d2' z0' z1' z2' hM' hL' hB' dD' wT pot18 hs18 ex19
    have le012 : n0 * n1 < 2 ^ 64 := by omega
    repeat trivial
    refine o_ix_l (i := 0) (SqL.of (pot19.fget hL)) rfl ?_
    repeat trivial
    refine o_ix_l (i := 1) (SqL.of (pot19.fget hL)) rfl ?_
    refine o_mul2 (by omega) ?_
    repeat trivial
    refine o_ix_l (i := 2) (SqL.of (pot19.fget hL)) rfl ?_
    refine o_mul le012 ?_
    repeat trivial
    refine ite_restH (fun H' => ∃ F', Ex F19 F' ∧ PotS F' [] p H') ?_ (fun hbig rest => ?_) (fun hbig rest => ?_)
    rotate_left
    · have big : n0 * n1 * n2 > 2000 := by
        have := of_decide_eq_true hbig
        omega
      have hfa := c2 eqT2 big
      repeat trivial
      refine ⟨by show 2 ≤ sizeLine; decide, fun t1 ht1 => ?_⟩
      have pota := pot19.newF ht1 (o := .tup [.str "large", .int 2000])
      have exa := pot19.newEx ht1 (o := .tup [.str "large", .int 2000])
      refine ne_dat (dp_two (pota.fget (exa _ _ hfa)) (.int 2000)) (dp_two upd_same (.int 2000)) sh_large eq_large ?_
      repeat trivial
      refine o_ix_l (i := 2) (SqL.of (pota.fget (exa _ _ hB))) rfl ?_
      repeat trivial
      obtain ⟨Ma, hsa, backa⟩ := pota.hs
      refine ⟨_, _, rfl, _, Ma, CW, CR, w2, n2, _, _, exa.world z2, exa.world wT9, hsa, by omega, le01, fun v Fb Hb exb hsb ⟨ga, ega, g1, g2, g3⟩ => ?_⟩
      subst ega
      have potb := backa Fb Hb exb hsb
      have hga := g2 eq2T (by rw [Nat.mul_comm]; exact big)
      repeat trivial
      refine ⟨by show 2 ≤ sizeLine; decide, fun t2 ht2 => ?_⟩
      have potc := potb.newF ht2 (o := .tup [.str "large", .int 2000])
      have exc := potb.newEx ht2 (o := .tup [.str "large", .int 2000])
      refine ne_dat (dp_two (potc.fget (exc _ _ hga)) (.int 2000)) (dp_two upd_same (.int 2000)) sh_large eq_large ?_
      refine i_bl (ite_f (i_nx ?_))
      exact rest _ ⟨_, exa.trans (exb.trans exc), potc⟩
    · have sm : n0 * n1 * n2 ≤ 2000 := by
        have := of_decide_eq_false hbig
        omega
      obtain ⟨u, hfa, wU⟩ := c3 eqT2 sm
      have okU := zip_ok eqT2 okT ok2
      repeat trivial
      refine o_ix_t (i := 0) (SqT.of (pot19.fget hfa)) rfl ?_
      repeat trivial
      refine o_neS ?_
      rw [decide_eq_true rfl]
      repeat trivial
      obtain ⟨up', udx, ukm, ukb, rfl, _, hup, _, _⟩ := id wU
      obtain ⟨Ma, hsa, backa⟩ := pot19.hs
      refine i_prop (i_ix ?_)
      repeat trivial
      refine o_ix_t (i := 1) (SqT.of (pot19.fget hfa)) rfl ?_
      refine ⟨up', udx, _, rfl, pot19.fget hup, _, rfl, F19, Ma, _, _, wU, hsa, fun v Fb Hb exb hsb dV => ?_⟩
      have potb := backa Fb Hb exb hsb
      repeat trivial
      refine o_ix_l (i := 2) (SqL.of (potb.fget (exb _ _ hM))) rfl ?_
      repeat trivial
      refine ⟨_, _, _, rfl, Fb, Ma, _, _, w2, n2, by rw [eT], exb.dict dD, exb.dict d2.at, eqT2, okT, ok2, sm, hsb, fun w Fc Hc exc hsc dW => ?_⟩
      have potc := backa Fc Hc (exb.trans exc) hsc
      refine ne_dicts potc okU (exc.dict dV) dW ?_
      repeat trivial
      have exbc := exb.trans exc
      -- the other way round
      refine o_ix_t (i := 1) (SqT.of (potc.fget (exbc _ _ hfa))) rfl ?_
      repeat trivial
      refine o_ix_l (i := 0) (SqL.of (potc.fget (exbc _ _ hB))) rfl ?_
      repeat trivial
      refine o_ix_l (i := 1) (SqL.of (potc.fget (exbc _ _ hB))) rfl ?_
      repeat trivial
      refine o_ix_l (i := 2) (SqL.of (potc.fget (exbc _ _ hB))) rfl ?_
      repeat trivial
      refine ⟨_, _, rfl, Fc, Ma, CW, CW, w1, n1, w2, n2, exbc.world z1, exbc.world z2, hsc, by omega, by omega, fun ne => absurd eq12 ne, fun _ big => by omega, fun _ _ v1 Fd Hd exd hsd wV1 => ?_⟩
      have exD := exbc.trans exd
      have ok12 := zip_ok eq12 ok1 ok2
      have eq0V : w0.map (·.1) = (besideW w1 w2).map (·.1) := by rw [zip_deeds eq12, e0, e1]
      have sm' : n0 * (n1 * n2) ≤ 2000 := by rw [← Nat.mul_assoc]; exact sm
      repeat trivial
      refine ⟨_, _, rfl, Fd, Ma, CW, CR, w0, n0, _, _, exD.world z0, wV1, hsd, by omega, le12, fun ne => absurd eq0V ne, fun _ big => by omega, fun _ _ v2 Fe He exe hse wV2 => ?_⟩
      have exE := exD.trans exe
      have pote := backa Fe He exE hse
      rw [← zip_assoc, ← Nat.mul_assoc] at wV2
      have wUe := exE.world wU
      obtain ⟨q1, qdx, qkm, qkb, rfl, _, hq1, _, _⟩ := id wV2
      refine ⟨⟨up', q1, udx, qdx, _, _, rfl, rfl, pote.fget (exE _ _ hup), pote.fget hq1, _, _, Ex.world pote.fz wUe, Ex.world pote.fz wV2⟩, fun Hf eH => ?_⟩
      refine i_bl (ite_f (i_nx ?_))
      exact rest _ ⟨Fe, exE, pote.ext eH⟩
    rintro H20 ⟨F20, ex20, pot20⟩
    have wT := ex20.world wT9
    have d0' := ex20.dictX d0
    have d1' := ex20.dictX d1
    have z0' := ex20.world z0
    have z1' := ex20.world z1
    have hM' := ex20 _ _ hM
    have hL' := ex20 _ _ hL
    have hB' := ex20 _ _ hB
    clear d0 d1 d2 z0 z1 z2 hM hL hB dD wT9 hs19 back18 c1 c2 c3 pot19 ex20
    -- a sign that is no deed
    repeat trivial
    refine i_lc_s ?_
    refine i_c ?_
    rw [small_lit]
    refine e_lc_s (z := smallL) fun W hW => ⟨fun i H' => PotS F20 [(W, .lst (((smallL.take i).filter fun c => decide (c ∉ ds)).map fun c => S [c]))] p H', pot20.new hW, ?_, ?_⟩
    · intro i c H' hc pt
      have hi := get_lt hc
      refine i_name ⟨rfl, i_ninT_s ?_⟩
      repeat trivial
      refine o_nin_c ?_
      repeat trivial
      refine ite_nd (fun hm => ?_) fun hm => ?_
      · have e : (smallL.take (i + 1)).filter (fun c => decide (c ∉ ds)) = (smallL.take i).filter fun c => decide (c ∉ ds) := by
          rw [take_succ_of hc, List.filter_append]
          simp [hm]
        show PotS _ _ _ _
        rw [e]
        exact pt
      · have e : (smallL.take (i + 1)).filter (fun c => decide (c ∉ ds)) = ((smallL.take i).filter fun c => decide (c ∉ ds)) ++ [c] := by
          rw [take_succ_of hc, List.filter_append]
          simp [hm]
        refine i_var rfl ⟨_, pt.get, ?_, ?_⟩
        · rw [List.length_map]
          have := List.length_filter_le (fun c => decide (c ∉ ds)) (smallL.take i)
          rw [List.length_take] at this
          have h26 : smallL.length = 26 := by decide
          exact line_gt (by omega)
        · show PotS _ _ _ _
          rw [e, List.map_append]
          exact pt.wr
    intro H21 pt21
    rw [List.take_length] at pt21
    have pot21 := pt21.frz
    have ex21 := pt21.ex
    have hsp := spares_ne (ds := ds) (by omega)
    obtain ⟨sp, srest, hspl⟩ : ∃ a r, spares ds = a :: r := by
      cases e : spares ds with
      | nil => rw [e] at hsp; exact absurd hsp (Nat.lt_irrefl 0)
      | cons a r => exact ⟨a, r, rfl⟩
    have hW21 : upd F20 W (.lst ((smallL.filter fun c => decide (c ∉ ds)).map fun c => S [c])) W = some (.lst ((smallL.filter fun c => decide (c ∉ ds)).map fun c => S [c])) := upd_same
    repeat trivial
    refine o_ix_l (i := 0) (v := S [sp]) (SqL.of (pot21.fget hW21)) (by
      have : smallL.filter (fun c => decide (c ∉ ds)) = spares ds := rfl
      rw [this, hspl]
      rfl) ?_
    generalize upd F20 W (.lst ((smallL.filter fun c => decide (c ∉ ds)).map fun c => S [c])) = F21 at pot21 ex21 hW21
    have wT1 := ex21.world wT
    have d0 := ex21.dictX d0'
    have d1 := ex21.dictX d1'
    have z0 := ex21.world z0'
    have z1 := ex21.world z1'
    have hM := ex21 _ _ hM'
    have hL := ex21 _ _ hL'
    have hB := ex21 _ _ hB'
    clear d0' d1' z0' z1' hM' hL' hB' wT pt21 pot20 ex21
    -- the other deeds
    obtain ⟨dd, dr, rfl⟩ : ∃ a r, ds = a :: r := by
      cases ds with
      | nil => exact absurd hd0 (Nat.lt_irrefl 0)
      | cons a r => exact ⟨a, r, rfl⟩
    have hdrl : dr.length ≤ 2 := by
      rw [List.length_cons] at hd3
      omega
    repeat trivial
    rw [emp_lit]
    refine ⟨⟨_, rfl⟩, i_cb (i_cons (i_op (i_sl (i_var rfl (i_part (i_c ⟨1, rfl, i_noP (.inr (.inr ⟨T (dd :: dr), rfl, ?_, ?_⟩))⟩))))))⟩
    · show dr.length + 1 ≤ sizeLine
      rw [sizeLine_eq]
      omega
    rw [cut_tail]
    repeat trivial
    refine o_addS ?_ ?_
    · show dr.length + 1 ≤ sizeLine
      rw [sizeLine_eq]
      omega
    rw [T_app]
    repeat trivial
    refine ⟨dr ++ [sp], rfl, by rw [List.length_append, List.length_singleton]; omega, fun ys O hperm hsort hO => ?_⟩
    obtain ⟨os, hys, hos, hne, hosl⟩ := other_deeds hd (show sp ∈ spares (dd :: dr) by rw [hspl]; exact List.mem_cons_self) hperm hsort
    subst hys
    have pot22 := pot21.newF hO (o := .lst ((os.map fun c => (⟨[c].toArray⟩ : Str)).map V.str))
    have ex22 := pot21.newEx hO (o := .lst ((os.map fun c => (⟨[c].toArray⟩ : Str)).map V.str))
    refine ⟨T [], O, os.map fun c => T [c], rfl, rfl, .inl (SqL.of upd_same), ?_, ?_⟩
    · have hsum : ∀ l : List Nat, ((l.map fun c => T [c]).map (·.length)).sum = l.length := by
        intro l
        induction l with
        | nil => rfl
        | cons c r ih => rw [List.map_cons, List.map_cons, List.sum_cons, ih, List.length_cons]; show 1 + _ = _; omega
      rw [hsum]
      show os.length + _ * 0 ≤ 16777216
      omega
    rw [join_one]
    -- the other world
    repeat trivial
    refine i_make ?_
    repeat trivial
    refine o_ix_l (i := 1) (SqL.of (pot22.fget (ex22 _ _ hL))) rfl ?_
    repeat trivial
    refine ⟨_, _, _, rfl, _, [], p, os, n1, rfl, rfl, hos, rfl, by omega, by omega, pot22, fun vm wo F23 H23 hwo oko ex23 pot23 dxo => ?_⟩
    have exA := ex22.trans ex23
    repeat trivial
    rw [← hwo]
    refine pot_make pot23 wcW dxo.at oko b1.2 fun y F24 H24 ex24 pot24 wS => ?_
    have exB := exA.trans ex24
    have neS : w0.map (·.1) ≠ wo.map (·.1) := by
      rw [e0, hwo]
      exact Ne.symm hne
    have neS2 : wo.map (·.1) ≠ (besideW w0 w1).map (·.1) := by
      rw [eT, hwo]
      exact hne
    -- asked, twice
    obtain ⟨M24, hs24, back24⟩ := pot24.hs
    repeat trivial
    refine o_ix_l (i := 0) (SqL.of (pot24.fget (exB _ _ hB))) rfl ?_
    repeat trivial
    refine ⟨_, _, rfl, F24, M24, CW, CW, w0, n0, wo, n1, exB.world z0, wS, hs24, by omega, by omega, fun v F25 H25 ex25 hs25 ⟨fa, efa, c1, _, _⟩ => ?_⟩
    subst efa
    have pot25 := back24 F25 H25 ex25 hs25
    have hfa := c1 neS
    repeat trivial
    refine ⟨by show 2 ≤ sizeLine; decide, fun t1 ht1 => ?_⟩
    have pot26 := pot25.newF ht1 (o := .tup [.str "deeds", .non])
    have ex26 := pot25.newEx ht1 (o := .tup [.str "deeds", .non])
    refine ne_dat (dp_two (pot26.fget (ex26 _ _ hfa)) .non) (dp_two upd_same .non) sh_deeds eq_deeds ?_
    have exC := ex25.trans ex26
    obtain ⟨M26, hs26, back26⟩ := pot26.hs
    repeat trivial
    refine ⟨_, _, rfl, _, M26, CW, CR, wo, n1, _, _, exC.world wS, (exB.trans exC).world wT1, hs26, by omega, le01, fun v F27 H27 ex27 hs27 ⟨ga, ega, g1, _, _⟩ => ?_⟩
    subst ega
    have pot27 := back26 F27 H27 ex27 hs27
    have hga := g1 neS2
    repeat trivial
    refine ⟨by show 2 ≤ sizeLine; decide, fun t2 ht2 => ?_⟩
    have pot28 := pot27.newF ht2 (o := .tup [.str "deeds", .non])
    have ex28 := pot27.newEx ht2 (o := .tup [.str "deeds", .non])
    refine ne_dat (dp_two (pot28.fget (ex28 _ _ hga)) .non) (dp_two upd_same .non) sh_deeds eq_deeds ?_
    have exD := ((exB.trans exC).trans ex27).trans ex28
    -- the end
    repeat trivial
    refine o_ix_l (i := 0) (SqL.of (pot28.fget (exD _ _ hB))) rfl ?_
    refine i_make ?_
    repeat trivial
    refine o_ix_l (i := 0) (SqL.of (pot28.fget (exD _ _ hM))) rfl ?_
    repeat trivial
    rw [← e0]
    refine pot_make pot28 wcW (exD.dict d0.at) ok0 b0.2 fun x1 F29 H29 ex29 pot29 wX => ?_
    have wZ := ex29.world (exD.world z0)
    obtain ⟨q0, qdx, qkm, qkb, rfl, _, hq0, _, _⟩ := id wZ
    obtain ⟨q2, qdx2, qkm2, qkb2, eq2, _, hq2, _, _⟩ := id wX
    cases eq2
    refine ⟨⟨q0, _, qdx, qdx2, _, _, rfl, rfl, pot29.fget hq0, pot29.fget hq2, _, _, Ex.world pot29.fz wZ, Ex.world pot29.fz wX⟩, fun Hf eH => ?_⟩
    have pot30 := pot29.ext eH
    have exE := exD.trans ex29
    repeat trivial
    refine o_ix_l (i := 1) (SqL.of (pot30.fget (exE _ _ hB))) rfl ?_
    refine i_make ?_
    repeat trivial
    refine o_ix_l (i := 1) (SqL.of (pot30.fget (exE _ _ hM))) rfl ?_
    repeat trivial
    rw [e0, ← e1]
    refine pot_make pot30 wcW (exE.dict d1.at) ok1 b1.2 fun x2 F31 H31 ex31 pot31 wX2 => ?_
    have wZ2 := ex31.world (exE.world z1)
    obtain ⟨r0, rdx, rkm, rkb, rfl, _, hr0, _, _⟩ := id wZ2
    obtain ⟨r2, rdx2, rkm2, rkb2, er2, _, hr2, _, _⟩ := id wX2
    cases er2
    refine ⟨⟨r0, _, rdx, rdx2, _, _, rfl, rfl, pot31.fget hr0, pot31.fget hr2, _, _, Ex.world pot31.fz wZ2, Ex.world pot31.fz wX2⟩, fun Hg _ => ?_⟩
    exact q Hg
  · subst hg
    repeat trivial
    refine ⟨_, _, rfl, F4, [], p, 3, rfl, rfl, by decide, by decide, pot5, fun k H6 hk3 pot6 => ?_⟩
    refine .inl ⟨_, _, rfl, rfl, ?_⟩
    refine i_nil ⟨by show 3 ≤ sizeLine; decide, fun L hL => ?_⟩
    have e : ((3 : Int) + (k : Int)) = ((3 + k : Nat) : Int) := by omega
    rw [e]
    repeat trivial
    exact rest _ _ ⟨_, L, 24, 24, 3 + k, _, rfl, pot6.newF hL, upd_same, by omega, by omega, by omega, fun z => nomatch z⟩
  · obtain ⟨n0, n1, n2, rfl⟩ := three hsz
    have b0 := hb n0 (by simp)
    have b1 := hb n1 (by simp)
    have b2 := hb n2 (by simp)
    repeat trivial
    exact rest _ _ ⟨_, D, n0, n1, n2, _, rfl, pot5, hD4, by omega, by omega, by omega, fun _ => by omega⟩
end
end Rb

set_option maxHeartbeats 4000000
/-! printed by gen.py: each def keeps its promise; all of them -/
namespace Rb
open PySem PySem.Spec PyProof.Rows L2
/-- a def of the module, a method, an __init__, a property, an own == -/
def FnX (K : PySem.W.Frag) (mg : Str → Option Value) (x qual : Str) (st : Stmt) (ps : List Str) : Prop := ∃ (f : Addr) (fd : FuncData), mg x = some (.ref f) ∧ Fun K x qual st f fd ∧ Binds K fd ps []
def MthX (K : PySem.W.Frag) (C : Addr) (m qual : Str) (st : Stmt) (ps : List Str) : Prop := ∃ (f : Addr) (fd : FuncData), Meth K C m f ∧ Fun K m qual st f fd ∧ Binds K fd ps []
def IniX (K : PySem.W.Frag) (mg : Str → Option Value) (x : Str) (C : Addr) (qual : Str) (st : Stmt) (ps : List Str) : Prop := mg x = some (.ref C) ∧ ∃ (f : Addr) (fd : FuncData), Mk K C f ∧ Fun K "__init__" qual st f fd ∧ Binds K fd ps []
def PrpX (K : PySem.W.Frag) (C : Addr) (x qual : Str) (st : Stmt) (ps : List Str) : Prop := ∃ (p f : Addr) (fd : FuncData), PropOf K C x p f ∧ Fun K x qual st f fd ∧ Binds K fd ps []
def EqX (K : PySem.W.Frag) (C : Addr) (qual : Str) (st : Stmt) (ps : List Str) : Prop := ∃ (f : Addr) (fd : FuncData), PySem.W.findIn K (.ref C) "__eq__" = some (some (.ref f)) ∧ PySem.W.isFn K (.ref f) = true ∧ Fun K "__eq__" qual st f fd ∧ Binds K fd ps []
theorem spFill_len {K : PySem.W.Frag} {C : Addr} {most : Nat} {vs : List V} {H : Hp} {Q : VK} {E : XK} {x y z : Str} (h : spFill K C most vs H Q E) : vs.length = [x, y, z].length := by
  obtain ⟨_, _, _, rfl, _⟩ := h
  rfl
theorem spEq_len {R : Addr → Addr → Hp → Prop} {vs : List V} {H : Hp} {Q : VK} {E : XK} {x y : Str} (h : spEq R vs H Q E) : vs.length = [x, y].length := by
  obtain ⟨_, _, rfl, _⟩ := h
  rfl
theorem ok_is_integer {P : Program} {w : World} {K : PySem.W.Frag} {mg : Str → Option Value} {base : Heap} {CW CR CO CT : Addr} (B : Blt mg) (X : FnX K mg "is_integer" "is_integer" s_is_integer ["thing"]) :
    GoodF P w K mg base 1 "is_integer" ["thing"] sp_is_integer := by
  obtain ⟨f, fd, g, F, b⟩ := X
  exact ⟨f, fd, g, F.kp, b, F.okX sc_is_integer (fun _ _ _ _ h => Sp1.len h) fun cdv A outer s H vs Q E hr h => ⟨_, der_is_integer (E := E) B hr, pure_is_integer h⟩⟩
theorem ok_is_string_of {P : Program} {w : World} {K : PySem.W.Frag} {mg : Str → Option Value} {base : Heap} {CW CR CO CT : Addr} (B : Blt mg) (X : FnX K mg "is_string_of" "is_string_of" s_is_string_of ["thing", "signs"]) :
    GoodF P w K mg base 1 "is_string_of" ["thing", "signs"] sp_is_string_of := by
  obtain ⟨f, fd, g, F, b⟩ := X
  exact ⟨f, fd, g, F.kp, b, F.okX sc_is_string_of (fun _ _ _ _ h => Sp2.len h) fun cdv A outer s H vs Q E hr h => ⟨_, der_is_string_of (E := E) B hr, pure_is_string_of h⟩⟩
theorem ok_is_word {P : Program} {w : World} {K : PySem.W.Frag} {mg : Str → Option Value} {base : Heap} {CW CR CO CT : Addr} (B : Blt mg) (X : FnX K mg "is_word" "is_word" s_is_word ["thing"])
    (h0 : GoodK mg "SMALL" v_SMALL)
    (h1 : GoodF P w K mg base 1 "is_string_of" ["thing", "signs"] sp_is_string_of) :
    GoodF P w K mg base 2 "is_word" ["thing"] sp_is_word := by
  obtain ⟨f, fd, g, F, b⟩ := X
  exact ⟨f, fd, g, F.kp, b, F.okX sc_is_word (fun _ _ _ _ h => Sp1.len h) fun cdv A outer s H vs Q E hr h => ⟨_, der_is_word (E := E) B hr h0 h1, pure_is_word h⟩⟩
theorem ok_is_deeds {P : Program} {w : World} {K : PySem.W.Frag} {mg : Str → Option Value} {base : Heap} {CW CR CO CT : Addr} (B : Blt mg) (X : FnX K mg "is_deeds" "is_deeds" s_is_deeds ["thing"])
    (h0 : GoodF P w K mg base 2 "is_word" ["thing"] sp_is_word) :
    GoodF P w K mg base 3 "is_deeds" ["thing"] sp_is_deeds := by
  obtain ⟨f, fd, g, F, b⟩ := X
  exact ⟨f, fd, g, F.kp, b, F.okX sc_is_deeds (fun _ _ _ _ h => Sp1.len h) fun cdv A outer s H vs Q E hr h => ⟨_, der_is_deeds (E := E) B hr h0, pure_is_deeds h⟩⟩
theorem ok_undoing_of {P : Program} {w : World} {K : PySem.W.Frag} {mg : Str → Option Value} {base : Heap} {CW CR CO CT : Addr} (B : Blt mg) (X : FnX K mg "undoing_of" "undoing_of" s_undoing_of ["letter"]) :
    GoodF P w K mg base 1 "undoing_of" ["letter"] sp_undoing_of := by
  obtain ⟨f, fd, g, F, b⟩ := X
  exact ⟨f, fd, g, F.kp, b, F.okX sc_undoing_of (fun _ _ _ _ h => Sp1.len h) fun cdv A outer s H vs Q E hr h => ⟨_, der_undoing_of (E := E) B hr, pure_undoing_of h⟩⟩
theorem ok_letters_over {P : Program} {w : World} {K : PySem.W.Frag} {mg : Str → Option Value} {base : Heap} {CW CR CO CT : Addr} (B : Blt mg) (X : FnX K mg "letters_over" "letters_over" s_letters_over ["deeds"]) :
    GoodF P w K mg base 1 "letters_over" ["deeds"] sp_letters_over := by
  obtain ⟨f, fd, g, F, b⟩ := X
  exact ⟨f, fd, g, F.kp, b, F.okX sc_letters_over (fun _ _ _ _ h => Sp1.len h) fun cdv A outer s H vs Q E hr h => ⟨_, der_letters_over (E := E) B hr, pure_letters_over h⟩⟩
theorem ok_is_row_over {P : Program} {w : World} {K : PySem.W.Frag} {mg : Str → Option Value} {base : Heap} {CW CR CO CT : Addr} (B : Blt mg) (X : FnX K mg "is_row_over" "is_row_over" s_is_row_over ["deeds", "thing"])
    (h0 : GoodF P w K mg base 1 "is_string_of" ["thing", "signs"] sp_is_string_of) :
    GoodF P w K mg base 2 "is_row_over" ["deeds", "thing"] sp_is_row_over := by
  obtain ⟨f, fd, g, F, b⟩ := X
  exact ⟨f, fd, g, F.kp, b, F.okX sc_is_row_over (fun _ _ _ _ h => Sp2.len h) fun cdv A outer s H vs Q E hr h => ⟨_, der_is_row_over (E := E) B hr h0, pure_is_row_over h⟩⟩
theorem ok_check_row {P : Program} {w : World} {K : PySem.W.Frag} {mg : Str → Option Value} {base : Heap} {CW CR CO CT : Addr} (B : Blt mg) (X : FnX K mg "check_row" "check_row" s_check_row ["deeds", "thing"])
    (h0 : GoodF P w K mg base 2 "is_row_over" ["deeds", "thing"] sp_is_row_over) :
    GoodF P w K mg base 3 "check_row" ["deeds", "thing"] sp_check_row := by
  obtain ⟨f, fd, g, F, b⟩ := X
  exact ⟨f, fd, g, F.kp, b, F.okX sc_check_row (fun _ _ _ _ h => Sp2.len h) fun cdv A outer s H vs Q E hr h => ⟨_, der_check_row (E := E) B hr h0, pure_check_row h⟩⟩
theorem ok_standing_still {P : Program} {w : World} {K : PySem.W.Frag} {mg : Str → Option Value} {base : Heap} {CW CR CO CT : Addr} (B : Blt mg) (X : FnX K mg "standing_still" "standing_still" s_standing_still ["size"]) :
    GoodF P w K mg base 1 "standing_still" ["size"] sp_standing_still := by
  obtain ⟨f, fd, g, F, b⟩ := X
  exact ⟨f, fd, g, F.kp, b, F.okX sc_standing_still (fun _ _ _ _ h => Sp1.len h) fun cdv A outer s H vs Q E hr h => ⟨_, der_standing_still (E := E) B hr, pure_standing_still h⟩⟩
theorem ok_composed {P : Program} {w : World} {K : PySem.W.Frag} {mg : Str → Option Value} {base : Heap} {CW CR CO CT : Addr} (B : Blt mg) (X : FnX K mg "composed" "composed" s_composed ["first", "second"]) :
    GoodF P w K mg base 1 "composed" ["first", "second"] sp_composed := by
  obtain ⟨f, fd, g, F, b⟩ := X
  exact ⟨f, fd, g, F.kp, b, F.okX sc_composed (fun _ _ _ _ h => Sp2.len h) fun cdv A outer s H vs Q E hr h => ⟨_, der_composed (E := E) B hr, pure_composed h⟩⟩
theorem ok_turned_back {P : Program} {w : World} {K : PySem.W.Frag} {mg : Str → Option Value} {base : Heap} {CW CR CO CT : Addr} (B : Blt mg) (X : FnX K mg "turned_back" "turned_back" s_turned_back ["move"]) :
    GoodF P w K mg base 1 "turned_back" ["move"] sp_turned_back := by
  obtain ⟨f, fd, g, F, b⟩ := X
  exact ⟨f, fd, g, F.kp, b, F.okX sc_turned_back (fun _ _ _ _ h => Sp1.len h) fun cdv A outer s H vs Q E hr h => ⟨_, der_turned_back (E := E) B hr, pure_turned_back h⟩⟩
theorem ok_circles_of {P : Program} {w : World} {K : PySem.W.Frag} {mg : Str → Option Value} {base : Heap} {CW CR CO CT : Addr} (B : Blt mg) (X : FnX K mg "circles_of" "circles_of" s_circles_of ["move"]) :
    GoodF P w K mg base 1 "circles_of" ["move"] sp_circles_of := by
  obtain ⟨f, fd, g, F, b⟩ := X
  exact ⟨f, fd, g, F.kp, b, F.okX sc_circles_of (fun _ _ _ _ h => Sp1.len h) fun cdv A outer s H vs Q E hr h => ⟨_, der_circles_of (E := E) B hr, pure_circles_of h⟩⟩
theorem ok_greatest_divisor {P : Program} {w : World} {K : PySem.W.Frag} {mg : Str → Option Value} {base : Heap} {CW CR CO CT : Addr} (B : Blt mg) (X : FnX K mg "greatest_divisor" "greatest_divisor" s_greatest_divisor ["one", "other"]) :
    GoodF P w K mg base 1 "greatest_divisor" ["one", "other"] sp_greatest_divisor := by
  obtain ⟨f, fd, g, F, b⟩ := X
  exact ⟨f, fd, g, F.kp, b, F.okX sc_greatest_divisor (fun _ _ _ _ h => Sp2.len h) fun cdv A outer s H vs Q E hr h => ⟨_, der_greatest_divisor (E := E) B hr, pure_greatest_divisor h⟩⟩
theorem ok_order_of {P : Program} {w : World} {K : PySem.W.Frag} {mg : Str → Option Value} {base : Heap} {CW CR CO CT : Addr} (B : Blt mg) (X : FnX K mg "order_of" "order_of" s_order_of ["move"])
    (h0 : GoodF P w K mg base 1 "circles_of" ["move"] sp_circles_of)
    (h1 : GoodF P w K mg base 1 "greatest_divisor" ["one", "other"] sp_greatest_divisor) :
    GoodF P w K mg base 2 "order_of" ["move"] sp_order_of := by
  obtain ⟨f, fd, g, F, b⟩ := X
  exact ⟨f, fd, g, F.kp, b, F.okX sc_order_of (fun _ _ _ _ h => Sp1.len h) fun cdv A outer s H vs Q E hr h => ⟨_, der_order_of (E := E) B hr h0 h1, pure_order_of h⟩⟩
theorem ok_is_standing {P : Program} {w : World} {K : PySem.W.Frag} {mg : Str → Option Value} {base : Heap} {CW CR CO CT : Addr} (B : Blt mg) (X : FnX K mg "is_standing" "is_standing" s_is_standing ["size", "thing"])
    (h0 : GoodF P w K mg base 1 "is_integer" ["thing"] sp_is_integer) :
    GoodF P w K mg base 2 "is_standing" ["size", "thing"] sp_is_standing := by
  obtain ⟨f, fd, g, F, b⟩ := X
  exact ⟨f, fd, g, F.kp, b, F.okX sc_is_standing (fun _ _ _ _ h => Sp2.len h) fun cdv A outer s H vs Q E hr h => ⟨_, der_is_standing (E := E) B hr h0, pure_is_standing h⟩⟩
theorem ok_is_move {P : Program} {w : World} {K : PySem.W.Frag} {mg : Str → Option Value} {base : Heap} {CW CR CO CT : Addr} (B : Blt mg) (X : FnX K mg "is_move" "is_move" s_is_move ["size", "thing"])
    (h0 : GoodF P w K mg base 2 "is_standing" ["size", "thing"] sp_is_standing) :
    GoodF P w K mg base 3 "is_move" ["size", "thing"] sp_is_move := by
  obtain ⟨f, fd, g, F, b⟩ := X
  exact ⟨f, fd, g, F.kp, b, F.okX sc_is_move (fun _ _ _ _ h => Sp2.len h) fun cdv A outer s H vs Q E hr h => ⟨_, der_is_move (E := E) B hr h0, pure_is_move h⟩⟩
theorem ok_are_moves {P : Program} {w : World} {K : PySem.W.Frag} {mg : Str → Option Value} {base : Heap} {CW CR CO CT : Addr} (B : Blt mg) (X : FnX K mg "are_moves" "are_moves" s_are_moves ["deeds", "thing"])
    (h0 : GoodK mg "MOST_STANDINGS" v_MOST_STANDINGS)
    (h1 : GoodF P w K mg base 3 "is_move" ["size", "thing"] sp_is_move) :
    GoodF P w K mg base 4 "are_moves" ["deeds", "thing"] sp_are_moves := by
  obtain ⟨f, fd, g, F, b⟩ := X
  exact ⟨f, fd, g, F.kp, b, F.okX sc_are_moves (fun _ _ _ _ h => Sp2.len h) fun cdv A outer s H vs Q E hr h => ⟨_, der_are_moves (E := E) B hr h0 h1, pure_are_moves h⟩⟩
theorem ok_all_moves {P : Program} {w : World} {K : PySem.W.Frag} {mg : Str → Option Value} {base : Heap} {CW CR CO CT : Addr} (B : Blt mg) (X : FnX K mg "all_moves" "all_moves" s_all_moves ["deeds", "moves"])
    (h0 : GoodF P w K mg base 1 "undoing_of" ["letter"] sp_undoing_of)
    (h1 : GoodF P w K mg base 1 "turned_back" ["move"] sp_turned_back) :
    GoodF P w K mg base 2 "all_moves" ["deeds", "moves"] sp_all_moves := by
  obtain ⟨f, fd, g, F, b⟩ := X
  exact ⟨f, fd, g, F.kp, b, F.okX sc_all_moves (fun _ _ _ _ h => Sp2.len h) fun cdv A outer s H vs Q E hr h => ⟨_, der_all_moves (E := E) B hr h0 h1, pure_all_moves h⟩⟩
theorem ok_World_init_CW {P : Program} {w : World} {K : PySem.W.Frag} {mg : Str → Option Value} {base : Heap} {CW CR CO CT : Addr} (B : Blt mg) (X : IniX K mg "World" CW "World.__init__" s_World_init ["self", "deeds", "moves"])
    (h0 : GoodF P w K mg base 3 "is_deeds" ["thing"] sp_is_deeds)
    (h1 : GoodF P w K mg base 4 "are_moves" ["deeds", "thing"] sp_are_moves)
    (h2 : Cls K CW ∧ GoodM P w K mg base 3 CW "keep" ["self", "deeds", "moves"] (sp_World_keep K CW)) :
    GoodC P w K mg base 5 "World" CW ["self", "deeds", "moves"] (sp_World_init K CW) := by
  obtain ⟨gC, f, fd, g, F, b⟩ := X
  exact ⟨gC, f, fd, g, b, F.okX sc_World_init (fun _ _ _ _ h => spFill_len h) fun cdv A outer s H vs Q E hr h => ⟨_, der_World_init (E := E) B hr h0 h1 h2, pure_World_init h⟩⟩
theorem ok_World_keep_CW {P : Program} {w : World} {K : PySem.W.Frag} {mg : Str → Option Value} {base : Heap} {CW CR CO CT : Addr} (B : Blt mg) (wc : WC K CW) (X : MthX K CW "keep" "World.keep" s_World_keep ["self", "deeds", "moves"])
    (h0 : GoodF P w K mg base 2 "all_moves" ["deeds", "moves"] sp_all_moves)
    (h1 : GoodF P w K mg base 1 "letters_over" ["deeds"] sp_letters_over)
    (h2 : GoodF P w K mg base 1 "undoing_of" ["letter"] sp_undoing_of) :
    Cls K CW ∧ GoodM P w K mg base 3 CW "keep" ["self", "deeds", "moves"] (sp_World_keep K CW) := by
  obtain ⟨f, fd, g, F, b⟩ := X
  exact ⟨wc.cl, f, fd, g, b, F.okX sc_World_keep (fun _ _ _ _ h => spFill_len h) fun cdv A outer s H vs Q E hr h => ⟨_, der_World_keep (E := E) B hr h0 h1 h2, pure_World_keep h⟩⟩
theorem ok_World_keep_CR {P : Program} {w : World} {K : PySem.W.Frag} {mg : Str → Option Value} {base : Heap} {CW CR CO CT : Addr} (B : Blt mg) (wc : WC K CR) (X : MthX K CR "keep" "World.keep" s_World_keep ["self", "deeds", "moves"])
    (h0 : GoodF P w K mg base 2 "all_moves" ["deeds", "moves"] sp_all_moves)
    (h1 : GoodF P w K mg base 1 "letters_over" ["deeds"] sp_letters_over)
    (h2 : GoodF P w K mg base 1 "undoing_of" ["letter"] sp_undoing_of) :
    Cls K CR ∧ GoodM P w K mg base 3 CR "keep" ["self", "deeds", "moves"] (sp_World_keep K CR) := by
  obtain ⟨f, fd, g, F, b⟩ := X
  exact ⟨wc.cl, f, fd, g, b, F.okX sc_World_keep (fun _ _ _ _ h => spFill_len h) fun cdv A outer s H vs Q E hr h => ⟨_, der_World_keep (E := E) B hr h0 h1 h2, pure_World_keep h⟩⟩
theorem ok_World_moves_CR {P : Program} {w : World} {K : PySem.W.Frag} {mg : Str → Option Value} {base : Heap} {CW CR CO CT : Addr} (B : Blt mg) (wc : WC K CR) (X : PrpX K CR "moves" "World.moves" s_World_moves ["self"]) :
    GoodP P w K mg base 1 CR "moves" (sp_World_moves K CR) := by
  obtain ⟨p, f, fd, g, F, b⟩ := X
  exact ⟨p, f, fd, wc.cl, g, b, F.okX sc_World_moves (fun _ _ _ _ h => Sp1.len h) fun cdv A outer s H vs Q E hr h => ⟨_, der_World_moves (E := E) B hr, pure_World_moves h⟩⟩
theorem ok_World_eq_CW {P : Program} {w : World} {K : PySem.W.Frag} {mg : Str → Option Value} {base : Heap} {CW CR CO CT : Addr} (B : Blt mg) (X : EqX K CW "World.__eq__" s_World_eq ["self", "thing"])
    (h0 : GoodK mg "World" (.ref CW)) :
    GoodEq P w K mg base 1 CW (Alike K CW) ["self", "thing"] := by
  obtain ⟨f, fd, g1, g2, F, b⟩ := X
  exact ⟨f, fd, g1, g2, b, F.okX sc_World_eq (fun _ _ _ _ h => spEq_len h) fun cdv A outer s H vs Q E hr h => ⟨_, der_World_eq (E := E) B hr h0, pure_World_eq kit_same h⟩⟩
theorem ok_World_eq_CR {P : Program} {w : World} {K : PySem.W.Frag} {mg : Str → Option Value} {base : Heap} {CW CR CO CT : Addr} (B : Blt mg) (X : EqX K CR "World.__eq__" s_World_eq ["self", "thing"]) (hkR : PySem.W.kitOne K (.ref CR) (.ref CW) = some true)
    (h0 : GoodK mg "World" (.ref CW)) :
    GoodEq P w K mg base 1 CR (Alike K CR) ["self", "thing"] := by
  obtain ⟨f, fd, g1, g2, F, b⟩ := X
  exact ⟨f, fd, g1, g2, b, F.okX sc_World_eq (fun _ _ _ _ h => spEq_len h) fun cdv A outer s H vs Q E hr h => ⟨_, der_World_eq (E := E) B hr h0, pure_World_eq hkR h⟩⟩
theorem ok_RawWorld_init_CR {P : Program} {w : World} {K : PySem.W.Frag} {mg : Str → Option Value} {base : Heap} {CW CR CO CT : Addr} (B : Blt mg) (X : IniX K mg "RawWorld" CR "RawWorld.__init__" s_RawWorld_init ["self", "deeds", "moves"])
    (h0 : Cls K CR ∧ GoodM P w K mg base 3 CR "keep" ["self", "deeds", "moves"] (sp_World_keep K CR)) :
    GoodC P w K mg base 4 "RawWorld" CR ["self", "deeds", "moves"] (sp_RawWorld_init K CR) := by
  obtain ⟨gC, f, fd, g, F, b⟩ := X
  exact ⟨gC, f, fd, g, b, F.okX sc_RawWorld_init (fun _ _ _ _ h => spFill_len h) fun cdv A outer s H vs Q E hr h => ⟨_, der_RawWorld_init (E := E) B hr h0, pure_RawWorld_init h⟩⟩
theorem ok_check_standing {P : Program} {w : World} {K : PySem.W.Frag} {mg : Str → Option Value} {base : Heap} {CW CR CO CT : Addr} (B : Blt mg) (X : FnX K mg "check_standing" "check_standing" s_check_standing ["world", "standing"])
    (h0 : GoodF P w K mg base 2 "is_standing" ["size", "thing"] sp_is_standing) :
    GoodF P w K mg base 3 "check_standing" ["world", "standing"] (sp_check_standing K) := by
  obtain ⟨f, fd, g, F, b⟩ := X
  exact ⟨f, fd, g, F.kp, b, F.okX sc_check_standing (fun _ _ _ _ h => Sp2.len h) fun cdv A outer s H vs Q E hr h => ⟨_, der_check_standing (E := E) B hr h0, pure_check_standing h⟩⟩
theorem ok_check_same_deeds {P : Program} {w : World} {K : PySem.W.Frag} {mg : Str → Option Value} {base : Heap} {CW CR CO CT : Addr} (B : Blt mg) (X : FnX K mg "check_same_deeds" "check_same_deeds" s_check_same_deeds ["one", "second"])
    (h0 : Exc0 K mg "OtherDeeds" CO) :
    GoodF P w K mg base 1 "check_same_deeds" ["one", "second"] (sp_check_same_deeds K CO) := by
  obtain ⟨f, fd, g, F, b⟩ := X
  exact ⟨f, fd, g, F.kp, b, F.okX sc_check_same_deeds (fun _ _ _ _ h => Sp2.len h) fun cdv A outer s H vs Q E hr h => ⟨_, der_check_same_deeds (E := E) B hr h0, pure_check_same_deeds h⟩⟩
theorem ok_row_move {P : Program} {w : World} {K : PySem.W.Frag} {mg : Str → Option Value} {base : Heap} {CW CR CO CT : Addr} (B : Blt mg) (X : FnX K mg "row_move" "row_move" s_row_move ["world", "row"])
    (h0 : GoodF P w K mg base 1 "standing_still" ["size"] sp_standing_still)
    (h1 : GoodF P w K mg base 1 "composed" ["first", "second"] sp_composed) :
    GoodF P w K mg base 2 "row_move" ["world", "row"] (sp_row_move K) := by
  obtain ⟨f, fd, g, F, b⟩ := X
  exact ⟨f, fd, g, F.kp, b, F.okX sc_row_move (fun _ _ _ _ h => Sp2.len h) fun cdv A outer s H vs Q E hr h => ⟨_, der_row_move (E := E) B hr h0 h1, pure_row_move h⟩⟩
theorem ok_led {P : Program} {w : World} {K : PySem.W.Frag} {mg : Str → Option Value} {base : Heap} {CW CR CO CT : Addr} (B : Blt mg) (X : FnX K mg "led" "led" s_led ["world", "standing", "row"])
    (h0 : GoodF P w K mg base 3 "check_standing" ["world", "standing"] (sp_check_standing K))
    (h1 : GoodF P w K mg base 3 "check_row" ["deeds", "thing"] sp_check_row) :
    GoodF P w K mg base 4 "led" ["world", "standing", "row"] (sp_led K) := by
  obtain ⟨f, fd, g, F, b⟩ := X
  exact ⟨f, fd, g, F.kp, b, F.okX sc_led (fun _ _ _ _ h => Sp3.len h) fun cdv A outer s H vs Q E hr h => ⟨_, der_led (E := E) B hr h0 h1, pure_led h⟩⟩
theorem ok_move_of {P : Program} {w : World} {K : PySem.W.Frag} {mg : Str → Option Value} {base : Heap} {CW CR CO CT : Addr} (B : Blt mg) (X : FnX K mg "move_of" "move_of" s_move_of ["world", "row"])
    (h0 : GoodF P w K mg base 3 "check_row" ["deeds", "thing"] sp_check_row)
    (h1 : GoodF P w K mg base 2 "row_move" ["world", "row"] (sp_row_move K)) :
    GoodF P w K mg base 4 "move_of" ["world", "row"] (sp_move_of K) := by
  obtain ⟨f, fd, g, F, b⟩ := X
  exact ⟨f, fd, g, F.kp, b, F.okX sc_move_of (fun _ _ _ _ h => Sp2.len h) fun cdv A outer s H vs Q E hr h => ⟨_, der_move_of (E := E) B hr h0 h1, pure_move_of h⟩⟩
theorem ok_order {P : Program} {w : World} {K : PySem.W.Frag} {mg : Str → Option Value} {base : Heap} {CW CR CO CT : Addr} (B : Blt mg) (X : FnX K mg "order" "order" s_order ["world", "row"])
    (h0 : GoodF P w K mg base 3 "check_row" ["deeds", "thing"] sp_check_row)
    (h1 : GoodF P w K mg base 2 "row_move" ["world", "row"] (sp_row_move K))
    (h2 : GoodF P w K mg base 2 "order_of" ["move"] sp_order_of) :
    GoodF P w K mg base 4 "order" ["world", "row"] (sp_order K) := by
  obtain ⟨f, fd, g, F, b⟩ := X
  exact ⟨f, fd, g, F.kp, b, F.okX sc_order (fun _ _ _ _ h => Sp2.len h) fun cdv A outer s H vs Q E hr h => ⟨_, der_order (E := E) B hr h0 h1 h2, pure_order h⟩⟩
theorem ok_beside {P : Program} {w : World} {K : PySem.W.Frag} {mg : Str → Option Value} {base : Heap} {CW CR CO CT : Addr} (B : Blt mg) (X : FnX K mg "beside" "beside" s_beside ["one", "second"]) (wcR : WC K CR)
    (h0 : GoodF P w K mg base 1 "check_same_deeds" ["one", "second"] (sp_check_same_deeds K CO))
    (h1 : GoodK mg "MOST_PAIRS" v_MOST_PAIRS)
    (h2 : ∃ fI, BigT P K mg "TooLarge" CT fI "most" "TooLarge.__init__" s_big)
    (h3 : BigS P "most" s_big)
    (h4 : GoodC P w K mg base 4 "RawWorld" CR ["self", "deeds", "moves"] (sp_RawWorld_init K CR)) :
    GoodF P w K mg base 6 "beside" ["one", "second"] (sp_beside K CR CO CT) := by
  obtain ⟨f, fd, g, F, b⟩ := X
  exact ⟨f, fd, g, F.kp, b, F.okX sc_beside (fun _ _ _ _ h => Sp2.len h) fun cdv A outer s H vs Q E hr h => ⟨_, der_beside (E := E) B hr h0 h1 h2 h3 h4, pure_beside wcR h⟩⟩
theorem ok__law_pot {P : Program} {w : World} {K : PySem.W.Frag} {mg : Str → Option Value} {base : Heap} {CW CR CO CT : Addr} (B : Blt mg) (X : FnX K mg "_law_pot" "_law_pot" s__law_pot ["_law_script"]) :
    GoodF P w K mg base 1 "_law_pot" ["_law_script"] (sp__law_pot K) := by
  obtain ⟨f, fd, g, F, b⟩ := X
  exact ⟨f, fd, g, F.kp, b, F.okX sc__law_pot (fun _ _ _ _ h => Sp1.len h) fun cdv A outer s H vs Q E hr h => ⟨_, der__law_pot (E := E) B hr, pure__law_pot h⟩⟩
theorem ok__law_draw {P : Program} {w : World} {K : PySem.W.Frag} {mg : Str → Option Value} {base : Heap} {CW CR CO CT : Addr} (B : Blt mg) (X : FnX K mg "_law_draw" "_law_draw" s__law_draw ["_law_pot_here", "_law_many"]) :
    GoodF P w K mg base 1 "_law_draw" ["_law_pot_here", "_law_many"] sp__law_draw := by
  obtain ⟨f, fd, g, F, b⟩ := X
  exact ⟨f, fd, g, F.kp, b, F.okX sc__law_draw (fun _ _ _ _ h => Sp2.len h) fun cdv A outer s H vs Q E hr h => ⟨_, der__law_draw (E := E) B hr, pure__law_draw h⟩⟩
theorem ok__law_any {P : Program} {w : World} {K : PySem.W.Frag} {mg : Str → Option Value} {base : Heap} {CW CR CO CT : Addr} (B : Blt mg) (X : FnX K mg "_law_any" "_law_any" s__law_any ["_law_pot_here", "_law_items"])
    (h0 : GoodF P w K mg base 1 "_law_draw" ["_law_pot_here", "_law_many"] sp__law_draw) :
    GoodF P w K mg base 2 "_law_any" ["_law_pot_here", "_law_items"] sp__law_any := by
  obtain ⟨f, fd, g, F, b⟩ := X
  exact ⟨f, fd, g, F.kp, b, F.okX sc__law_any (fun _ _ _ _ h => Sp2.len h) fun cdv A outer s H vs Q E hr h => ⟨_, der__law_any (E := E) B hr h0, pure__law_any h⟩⟩
theorem ok__law_deeds {P : Program} {w : World} {K : PySem.W.Frag} {mg : Str → Option Value} {base : Heap} {CW CR CO CT : Addr} (B : Blt mg) (X : FnX K mg "_law_deeds" "_law_deeds" s__law_deeds ["_law_pot_here", "_law_most"])
    (h0 : GoodF P w K mg base 1 "_law_draw" ["_law_pot_here", "_law_many"] sp__law_draw) :
    GoodF P w K mg base 2 "_law_deeds" ["_law_pot_here", "_law_most"] sp__law_deeds := by
  obtain ⟨f, fd, g, F, b⟩ := X
  exact ⟨f, fd, g, F.kp, b, F.okX sc__law_deeds (fun _ _ _ _ h => Sp2.len h) fun cdv A outer s H vs Q E hr h => ⟨_, der__law_deeds (E := E) B hr h0, pure__law_deeds h⟩⟩
theorem ok__law_letters {P : Program} {w : World} {K : PySem.W.Frag} {mg : Str → Option Value} {base : Heap} {CW CR CO CT : Addr} (B : Blt mg) (X : FnX K mg "_law_letters" "_law_letters" s__law_letters ["_law_deeds_here"]) :
    GoodF P w K mg base 1 "_law_letters" ["_law_deeds_here"] sp__law_letters := by
  obtain ⟨f, fd, g, F, b⟩ := X
  exact ⟨f, fd, g, F.kp, b, F.okX sc__law_letters (fun _ _ _ _ h => Sp1.len h) fun cdv A outer s H vs Q E hr h => ⟨_, der__law_letters (E := E) B hr, pure__law_letters h⟩⟩
theorem ok__law_row {P : Program} {w : World} {K : PySem.W.Frag} {mg : Str → Option Value} {base : Heap} {CW CR CO CT : Addr} (B : Blt mg) (X : FnX K mg "_law_row" "_law_row" s__law_row ["_law_pot_here", "_law_deeds_here", "_law_most"])
    (h0 : GoodF P w K mg base 1 "_law_draw" ["_law_pot_here", "_law_many"] sp__law_draw)
    (h1 : GoodF P w K mg base 1 "_law_letters" ["_law_deeds_here"] sp__law_letters)
    (h2 : GoodF P w K mg base 2 "_law_any" ["_law_pot_here", "_law_items"] sp__law_any) :
    GoodF P w K mg base 3 "_law_row" ["_law_pot_here", "_law_deeds_here", "_law_most"] sp__law_row := by
  obtain ⟨f, fd, g, F, b⟩ := X
  exact ⟨f, fd, g, F.kp, b, F.okX sc__law_row (fun _ _ _ _ h => Sp3.len h) fun cdv A outer s H vs Q E hr h => ⟨_, der__law_row (E := E) B hr h0 h1 h2, pure__law_row h⟩⟩
theorem ok__law_mixed {P : Program} {w : World} {K : PySem.W.Frag} {mg : Str → Option Value} {base : Heap} {CW CR CO CT : Addr} (B : Blt mg) (X : FnX K mg "_law_mixed" "_law_mixed" s__law_mixed ["_law_pot_here", "_law_items"])
    (h0 : GoodF P w K mg base 1 "_law_draw" ["_law_pot_here", "_law_many"] sp__law_draw) :
    GoodF P w K mg base 2 "_law_mixed" ["_law_pot_here", "_law_items"] sp__law_mixed := by
  obtain ⟨f, fd, g, F, b⟩ := X
  exact ⟨f, fd, g, F.kp, b, F.okX sc__law_mixed (fun _ _ _ _ h => Sp2.len h) fun cdv A outer s H vs Q E hr h => ⟨_, der__law_mixed (E := E) B hr h0, pure__law_mixed h⟩⟩
theorem ok__law_moves {P : Program} {w : World} {K : PySem.W.Frag} {mg : Str → Option Value} {base : Heap} {CW CR CO CT : Addr} (B : Blt mg) (X : FnX K mg "_law_moves" "_law_moves" s__law_moves ["_law_pot_here", "_law_deeds_here", "_law_size"])
    (h0 : GoodF P w K mg base 2 "_law_mixed" ["_law_pot_here", "_law_items"] sp__law_mixed) :
    GoodF P w K mg base 3 "_law_moves" ["_law_pot_here", "_law_deeds_here", "_law_size"] sp__law_moves := by
  obtain ⟨f, fd, g, F, b⟩ := X
  exact ⟨f, fd, g, F.kp, b, F.okX sc__law_moves (fun _ _ _ _ h => Sp3.len h) fun cdv A outer s H vs Q E hr h => ⟨_, der__law_moves (E := E) B hr h0, pure__law_moves h⟩⟩
theorem ok__law_step {P : Program} {w : World} {K : PySem.W.Frag} {mg : Str → Option Value} {base : Heap} {CW CR CO CT : Addr} (B : Blt mg) (X : FnX K mg "_law_step" "_law_step" s__law_step ["_law_moves_here", "_law_letter", "_law_standing"]) :
    GoodF P w K mg base 1 "_law_step" ["_law_moves_here", "_law_letter", "_law_standing"] sp__law_step := by
  obtain ⟨f, fd, g, F, b⟩ := X
  exact ⟨f, fd, g, F.kp, b, F.okX sc__law_step (fun _ _ _ _ h => Sp3.len h) fun cdv A outer s H vs Q E hr h => ⟨_, der__law_step (E := E) B hr, pure__law_step h⟩⟩
theorem ok__law_led {P : Program} {w : World} {K : PySem.W.Frag} {mg : Str → Option Value} {base : Heap} {CW CR CO CT : Addr} (B : Blt mg) (X : FnX K mg "_law_led" "_law_led" s__law_led ["_law_moves_here", "_law_standing", "_law_row_here"])
    (h0 : GoodF P w K mg base 1 "_law_step" ["_law_moves_here", "_law_letter", "_law_standing"] sp__law_step) :
    GoodF P w K mg base 2 "_law_led" ["_law_moves_here", "_law_standing", "_law_row_here"] sp__law_led := by
  obtain ⟨f, fd, g, F, b⟩ := X
  exact ⟨f, fd, g, F.kp, b, F.okX sc__law_led (fun _ _ _ _ h => Sp3.len h) fun cdv A outer s H vs Q E hr h => ⟨_, der__law_led (E := E) B hr h0, pure__law_led h⟩⟩
theorem ok__law_pairs {P : Program} {w : World} {K : PySem.W.Frag} {mg : Str → Option Value} {base : Heap} {CW CR CO CT : Addr} (B : Blt mg) (X : FnX K mg "_law_pairs" "_law_pairs" s__law_pairs ["_law_deeds_here", "_law_one", "_law_other"]) :
    GoodF P w K mg base 1 "_law_pairs" ["_law_deeds_here", "_law_one", "_law_other"] sp__law_pairs := by
  obtain ⟨f, fd, g, F, b⟩ := X
  exact ⟨f, fd, g, F.kp, b, F.okX sc__law_pairs (fun _ _ _ _ h => Sp3.len h) fun cdv A outer s H vs Q E hr h => ⟨_, der__law_pairs (E := E) B hr, pure__law_pairs h⟩⟩
theorem ok__law_asked {P : Program} {w : World} {K : PySem.W.Frag} {mg : Str → Option Value} {base : Heap} {CW CR CO CT : Addr} (B : Blt mg) (X : FnX K mg "_law_asked" "_law_asked" s__law_asked ["_law_one", "_law_other"]) (hO : PySem.W.exmOne K (.ref CO) (.ref CO) = some true) (hTO : PySem.W.exmOne K (.ref CT) (.ref CO) = some false) (hT : PySem.W.exmOne K (.ref CT) (.ref CT) = some true)
    (h0 : GoodF P w K mg base 6 "beside" ["one", "second"] (sp_beside K CR CO CT))
    (h1 : ∃ fI, BigT P K mg "TooLarge" CT fI "most" "TooLarge.__init__" s_big)
    (h2 : Exc0 K mg "OtherDeeds" CO) :
    GoodF P w K mg base 7 "_law_asked" ["_law_one", "_law_other"] (sp__law_asked K CR CO CT) := by
  obtain ⟨f, fd, g, F, b⟩ := X
  exact ⟨f, fd, g, F.kp, b, F.okX sc__law_asked (fun _ _ _ _ h => Sp2.len h) fun cdv A outer s H vs Q E hr h => ⟨_, der__law_asked (E := E) B hr h0 h1 h2, pure__law_asked hO hTO hT h⟩⟩
theorem ok__law_least {P : Program} {w : World} {K : PySem.W.Frag} {mg : Str → Option Value} {base : Heap} {CW CR CO CT : Addr} (B : Blt mg) (X : FnX K mg "_law_least" "_law_least" s__law_least ["_law_one", "_law_other"]) :
    GoodF P w K mg base 1 "_law_least" ["_law_one", "_law_other"] sp__law_least := by
  obtain ⟨f, fd, g, F, b⟩ := X
  exact ⟨f, fd, g, F.kp, b, F.okX sc__law_least (fun _ _ _ _ h => Sp2.len h) fun cdv A outer s H vs Q E hr h => ⟨_, der__law_least (E := E) B hr, pure__law_least h⟩⟩
theorem ok_law {P : Program} {w : World} {K : PySem.W.Frag} {mg : Str → Option Value} {base : Heap} {CW CR CO CT : Addr} (B : Blt mg) (X : FnX K mg "law" "law" s_law ["_law_script"]) (wcW : WC K CW) (wcR : WC K CR) (hkR : PySem.W.kitOne K (.ref CR) (.ref CW) = some true)
    (h0 : GoodF P w K mg base 1 "_law_pot" ["_law_script"] (sp__law_pot K))
    (h1 : GoodF P w K mg base 2 "_law_deeds" ["_law_pot_here", "_law_most"] sp__law_deeds)
    (h2 : GoodF P w K mg base 1 "_law_draw" ["_law_pot_here", "_law_many"] sp__law_draw)
    (h3 : GoodF P w K mg base 3 "_law_moves" ["_law_pot_here", "_law_deeds_here", "_law_size"] sp__law_moves)
    (h4 : GoodC P w K mg base 5 "World" CW ["self", "deeds", "moves"] (sp_World_init K CW))
    (h5 : GoodF P w K mg base 6 "beside" ["one", "second"] (sp_beside K CR CO CT))
    (h6 : GoodF P w K mg base 1 "_law_pairs" ["_law_deeds_here", "_law_one", "_law_other"] sp__law_pairs)
    (h7 : GoodK mg "World" (.ref CW))
    (h8 : GoodP P w K mg base 1 CR "moves" (sp_World_moves K CR))
    (h9 : GoodF P w K mg base 3 "_law_row" ["_law_pot_here", "_law_deeds_here", "_law_most"] sp__law_row)
    (h10 : GoodF P w K mg base 2 "_law_led" ["_law_moves_here", "_law_standing", "_law_row_here"] sp__law_led)
    (h11 : GoodF P w K mg base 4 "led" ["world", "standing", "row"] (sp_led K))
    (h12 : GoodF P w K mg base 4 "move_of" ["world", "row"] (sp_move_of K))
    (h13 : GoodF P w K mg base 4 "order" ["world", "row"] (sp_order K))
    (h14 : GoodF P w K mg base 1 "_law_least" ["_law_one", "_law_other"] sp__law_least)
    (h15 : GoodF P w K mg base 7 "_law_asked" ["_law_one", "_law_other"] (sp__law_asked K CR CO CT))
    (h16 : GoodNe P w K mg base 1 CR (Alike K CR) ["self", "thing"])
    (h17 : GoodEq P w K mg base 1 CW (Alike K CW) ["self", "thing"]) :
    GoodF P w K mg base 8 "law" ["_law_script"] (sp_law K) := by
  obtain ⟨f, fd, g, F, b⟩ := X
  exact ⟨f, fd, g, F.kp, b, F.okX sc_law (fun _ _ _ _ h => Sp1.len h) fun cdv A outer s H vs Q E hr h => ⟨_, der_law (E := E) B hr h0 h1 h2 h3 h4 h5 h6 h7 h8 h9 h10 h11 h12 h13 h14 h15 h16 h17, pure_law wcW wcR hkR h⟩⟩
theorem okf_law {P : Program} {w : World} {K : PySem.W.Frag} {mg : Str → Option Value} {base : Heap} {CW CR CO CT : Addr} (B : Blt mg) {f : Addr} {fd : FuncData} (F : Fun K "law" "law" s_law f fd) (wcW : WC K CW) (wcR : WC K CR) (hkR : PySem.W.kitOne K (.ref CR) (.ref CW) = some true)
    (h0 : GoodF P w K mg base 1 "_law_pot" ["_law_script"] (sp__law_pot K))
    (h1 : GoodF P w K mg base 2 "_law_deeds" ["_law_pot_here", "_law_most"] sp__law_deeds)
    (h2 : GoodF P w K mg base 1 "_law_draw" ["_law_pot_here", "_law_many"] sp__law_draw)
    (h3 : GoodF P w K mg base 3 "_law_moves" ["_law_pot_here", "_law_deeds_here", "_law_size"] sp__law_moves)
    (h4 : GoodC P w K mg base 5 "World" CW ["self", "deeds", "moves"] (sp_World_init K CW))
    (h5 : GoodF P w K mg base 6 "beside" ["one", "second"] (sp_beside K CR CO CT))
    (h6 : GoodF P w K mg base 1 "_law_pairs" ["_law_deeds_here", "_law_one", "_law_other"] sp__law_pairs)
    (h7 : GoodK mg "World" (.ref CW))
    (h8 : GoodP P w K mg base 1 CR "moves" (sp_World_moves K CR))
    (h9 : GoodF P w K mg base 3 "_law_row" ["_law_pot_here", "_law_deeds_here", "_law_most"] sp__law_row)
    (h10 : GoodF P w K mg base 2 "_law_led" ["_law_moves_here", "_law_standing", "_law_row_here"] sp__law_led)
    (h11 : GoodF P w K mg base 4 "led" ["world", "standing", "row"] (sp_led K))
    (h12 : GoodF P w K mg base 4 "move_of" ["world", "row"] (sp_move_of K))
    (h13 : GoodF P w K mg base 4 "order" ["world", "row"] (sp_order K))
    (h14 : GoodF P w K mg base 1 "_law_least" ["_law_one", "_law_other"] sp__law_least)
    (h15 : GoodF P w K mg base 7 "_law_asked" ["_law_one", "_law_other"] (sp__law_asked K CR CO CT))
    (h16 : GoodNe P w K mg base 1 CR (Alike K CR) ["self", "thing"])
    (h17 : GoodEq P w K mg base 1 CW (Alike K CW) ["self", "thing"]) :
    FnOk P w K mg base (L2.CX P w) 8 f fd ["_law_script"] (sp_law K) := F.okX sc_law (fun _ _ _ _ h => Sp1.len h) fun cdv A outer s H vs Q E hr h => ⟨_, der_law (E := E) B hr h0 h1 h2 h3 h4 h5 h6 h7 h8 h9 h10 h11 h12 h13 h14 h15 h16 h17, pure_law wcW wcR hkR h⟩
theorem ok_all {P : Program} {w : World} {K : PySem.W.Frag} {mg : Str → Option Value} {base : Heap} {CW CR CO CT f : Addr} {fd : FuncData} (B : Blt mg) (F : Fun K "law" "law" s_law f fd)
    (k_SMALL : GoodK mg "SMALL" v_SMALL)
    (k_MOST_STANDINGS : GoodK mg "MOST_STANDINGS" v_MOST_STANDINGS)
    (kc_World : GoodK mg "World" (.ref CW))
    (k_MOST_PAIRS : GoodK mg "MOST_PAIRS" v_MOST_PAIRS)
    (wcW : WC K CW)
    (wcR : WC K CR)
    (hkR : PySem.W.kitOne K (.ref CR) (.ref CW) = some true)
    (hO : PySem.W.exmOne K (.ref CO) (.ref CO) = some true)
    (hTO : PySem.W.exmOne K (.ref CT) (.ref CO) = some false)
    (hT : PySem.W.exmOne K (.ref CT) (.ref CT) = some true)
    (neC : NeCls K CR)
    (excO : Exc0 K mg "OtherDeeds" CO)
    (bigT : ∃ fI, BigT P K mg "TooLarge" CT fI "most" "TooLarge.__init__" s_big)
    (bigS : BigS P "most" s_big)
    (x_is_integer : FnX K mg "is_integer" "is_integer" s_is_integer ["thing"])
    (x_is_string_of : FnX K mg "is_string_of" "is_string_of" s_is_string_of ["thing", "signs"])
    (x_is_word : FnX K mg "is_word" "is_word" s_is_word ["thing"])
    (x_is_deeds : FnX K mg "is_deeds" "is_deeds" s_is_deeds ["thing"])
    (x_undoing_of : FnX K mg "undoing_of" "undoing_of" s_undoing_of ["letter"])
    (x_letters_over : FnX K mg "letters_over" "letters_over" s_letters_over ["deeds"])
    (x_is_row_over : FnX K mg "is_row_over" "is_row_over" s_is_row_over ["deeds", "thing"])
    (x_check_row : FnX K mg "check_row" "check_row" s_check_row ["deeds", "thing"])
    (x_standing_still : FnX K mg "standing_still" "standing_still" s_standing_still ["size"])
    (x_composed : FnX K mg "composed" "composed" s_composed ["first", "second"])
    (x_turned_back : FnX K mg "turned_back" "turned_back" s_turned_back ["move"])
    (x_circles_of : FnX K mg "circles_of" "circles_of" s_circles_of ["move"])
    (x_greatest_divisor : FnX K mg "greatest_divisor" "greatest_divisor" s_greatest_divisor ["one", "other"])
    (x_order_of : FnX K mg "order_of" "order_of" s_order_of ["move"])
    (x_is_standing : FnX K mg "is_standing" "is_standing" s_is_standing ["size", "thing"])
    (x_is_move : FnX K mg "is_move" "is_move" s_is_move ["size", "thing"])
    (x_are_moves : FnX K mg "are_moves" "are_moves" s_are_moves ["deeds", "thing"])
    (x_all_moves : FnX K mg "all_moves" "all_moves" s_all_moves ["deeds", "moves"])
    (x_World_init_CW : IniX K mg "World" CW "World.__init__" s_World_init ["self", "deeds", "moves"])
    (x_World_keep_CW : MthX K CW "keep" "World.keep" s_World_keep ["self", "deeds", "moves"])
    (x_World_keep_CR : MthX K CR "keep" "World.keep" s_World_keep ["self", "deeds", "moves"])
    (x_World_moves_CR : PrpX K CR "moves" "World.moves" s_World_moves ["self"])
    (x_World_eq_CW : EqX K CW "World.__eq__" s_World_eq ["self", "thing"])
    (x_World_eq_CR : EqX K CR "World.__eq__" s_World_eq ["self", "thing"])
    (x_RawWorld_init_CR : IniX K mg "RawWorld" CR "RawWorld.__init__" s_RawWorld_init ["self", "deeds", "moves"])
    (x_check_standing : FnX K mg "check_standing" "check_standing" s_check_standing ["world", "standing"])
    (x_check_same_deeds : FnX K mg "check_same_deeds" "check_same_deeds" s_check_same_deeds ["one", "second"])
    (x_row_move : FnX K mg "row_move" "row_move" s_row_move ["world", "row"])
    (x_led : FnX K mg "led" "led" s_led ["world", "standing", "row"])
    (x_move_of : FnX K mg "move_of" "move_of" s_move_of ["world", "row"])
    (x_order : FnX K mg "order" "order" s_order ["world", "row"])
    (x_beside : FnX K mg "beside" "beside" s_beside ["one", "second"])
    (x__law_pot : FnX K mg "_law_pot" "_law_pot" s__law_pot ["_law_script"])
    (x__law_draw : FnX K mg "_law_draw" "_law_draw" s__law_draw ["_law_pot_here", "_law_many"])
    (x__law_any : FnX K mg "_law_any" "_law_any" s__law_any ["_law_pot_here", "_law_items"])
    (x__law_deeds : FnX K mg "_law_deeds" "_law_deeds" s__law_deeds ["_law_pot_here", "_law_most"])
    (x__law_letters : FnX K mg "_law_letters" "_law_letters" s__law_letters ["_law_deeds_here"])
    (x__law_row : FnX K mg "_law_row" "_law_row" s__law_row ["_law_pot_here", "_law_deeds_here", "_law_most"])
    (x__law_mixed : FnX K mg "_law_mixed" "_law_mixed" s__law_mixed ["_law_pot_here", "_law_items"])
    (x__law_moves : FnX K mg "_law_moves" "_law_moves" s__law_moves ["_law_pot_here", "_law_deeds_here", "_law_size"])
    (x__law_step : FnX K mg "_law_step" "_law_step" s__law_step ["_law_moves_here", "_law_letter", "_law_standing"])
    (x__law_led : FnX K mg "_law_led" "_law_led" s__law_led ["_law_moves_here", "_law_standing", "_law_row_here"])
    (x__law_pairs : FnX K mg "_law_pairs" "_law_pairs" s__law_pairs ["_law_deeds_here", "_law_one", "_law_other"])
    (x__law_asked : FnX K mg "_law_asked" "_law_asked" s__law_asked ["_law_one", "_law_other"])
    (x__law_least : FnX K mg "_law_least" "_law_least" s__law_least ["_law_one", "_law_other"]) :
    FnOk P w K mg base (L2.CX P w) 8 f fd ["_law_script"] (sp_law K) := by
  have g_is_integer := ok_is_integer (P := P) (w := w) (base := base) (CW := CW) (CR := CR) (CO := CO) (CT := CT) B x_is_integer
  have g_is_string_of := ok_is_string_of (P := P) (w := w) (base := base) (CW := CW) (CR := CR) (CO := CO) (CT := CT) B x_is_string_of
  have g_undoing_of := ok_undoing_of (P := P) (w := w) (base := base) (CW := CW) (CR := CR) (CO := CO) (CT := CT) B x_undoing_of
  have g_letters_over := ok_letters_over (P := P) (w := w) (base := base) (CW := CW) (CR := CR) (CO := CO) (CT := CT) B x_letters_over
  have g_standing_still := ok_standing_still (P := P) (w := w) (base := base) (CW := CW) (CR := CR) (CO := CO) (CT := CT) B x_standing_still
  have g_composed := ok_composed (P := P) (w := w) (base := base) (CW := CW) (CR := CR) (CO := CO) (CT := CT) B x_composed
  have g_turned_back := ok_turned_back (P := P) (w := w) (base := base) (CW := CW) (CR := CR) (CO := CO) (CT := CT) B x_turned_back
  have g_circles_of := ok_circles_of (P := P) (w := w) (base := base) (CW := CW) (CR := CR) (CO := CO) (CT := CT) B x_circles_of
  have g_greatest_divisor := ok_greatest_divisor (P := P) (w := w) (base := base) (CW := CW) (CR := CR) (CO := CO) (CT := CT) B x_greatest_divisor
  have p_moves := ok_World_moves_CR (P := P) (w := w) (base := base) (CW := CW) (CR := CR) (CO := CO) (CT := CT) B wcR x_World_moves_CR
  have eqW := ok_World_eq_CW (P := P) (w := w) (base := base) (CW := CW) (CR := CR) (CO := CO) (CT := CT) B x_World_eq_CW kc_World
  have eqR := ok_World_eq_CR (P := P) (w := w) (base := base) (CW := CW) (CR := CR) (CO := CO) (CT := CT) B x_World_eq_CR hkR kc_World
  have g_check_same_deeds := ok_check_same_deeds (P := P) (w := w) (base := base) (CW := CW) (CR := CR) (CO := CO) (CT := CT) B x_check_same_deeds excO
  have g__law_pot := ok__law_pot (P := P) (w := w) (base := base) (CW := CW) (CR := CR) (CO := CO) (CT := CT) B x__law_pot
  have g__law_draw := ok__law_draw (P := P) (w := w) (base := base) (CW := CW) (CR := CR) (CO := CO) (CT := CT) B x__law_draw
  have g__law_letters := ok__law_letters (P := P) (w := w) (base := base) (CW := CW) (CR := CR) (CO := CO) (CT := CT) B x__law_letters
  have g__law_step := ok__law_step (P := P) (w := w) (base := base) (CW := CW) (CR := CR) (CO := CO) (CT := CT) B x__law_step
  have g__law_pairs := ok__law_pairs (P := P) (w := w) (base := base) (CW := CW) (CR := CR) (CO := CO) (CT := CT) B x__law_pairs
  have g__law_least := ok__law_least (P := P) (w := w) (base := base) (CW := CW) (CR := CR) (CO := CO) (CT := CT) B x__law_least
  have g_is_word := ok_is_word (P := P) (w := w) (base := base) (CW := CW) (CR := CR) (CO := CO) (CT := CT) B x_is_word k_SMALL g_is_string_of
  have g_is_row_over := ok_is_row_over (P := P) (w := w) (base := base) (CW := CW) (CR := CR) (CO := CO) (CT := CT) B x_is_row_over g_is_string_of
  have g_order_of := ok_order_of (P := P) (w := w) (base := base) (CW := CW) (CR := CR) (CO := CO) (CT := CT) B x_order_of g_circles_of g_greatest_divisor
  have g_is_standing := ok_is_standing (P := P) (w := w) (base := base) (CW := CW) (CR := CR) (CO := CO) (CT := CT) B x_is_standing g_is_integer
  have g_all_moves := ok_all_moves (P := P) (w := w) (base := base) (CW := CW) (CR := CR) (CO := CO) (CT := CT) B x_all_moves g_undoing_of g_turned_back
  have g_row_move := ok_row_move (P := P) (w := w) (base := base) (CW := CW) (CR := CR) (CO := CO) (CT := CT) B x_row_move g_standing_still g_composed
  have g__law_any := ok__law_any (P := P) (w := w) (base := base) (CW := CW) (CR := CR) (CO := CO) (CT := CT) B x__law_any g__law_draw
  have g__law_deeds := ok__law_deeds (P := P) (w := w) (base := base) (CW := CW) (CR := CR) (CO := CO) (CT := CT) B x__law_deeds g__law_draw
  have g__law_mixed := ok__law_mixed (P := P) (w := w) (base := base) (CW := CW) (CR := CR) (CO := CO) (CT := CT) B x__law_mixed g__law_draw
  have g__law_led := ok__law_led (P := P) (w := w) (base := base) (CW := CW) (CR := CR) (CO := CO) (CT := CT) B x__law_led g__law_step
  have g_is_deeds := ok_is_deeds (P := P) (w := w) (base := base) (CW := CW) (CR := CR) (CO := CO) (CT := CT) B x_is_deeds g_is_word
  have g_check_row := ok_check_row (P := P) (w := w) (base := base) (CW := CW) (CR := CR) (CO := CO) (CT := CT) B x_check_row g_is_row_over
  have g_is_move := ok_is_move (P := P) (w := w) (base := base) (CW := CW) (CR := CR) (CO := CO) (CT := CT) B x_is_move g_is_standing
  have m_CW_keep := ok_World_keep_CW (P := P) (w := w) (base := base) (CW := CW) (CR := CR) (CO := CO) (CT := CT) B wcW x_World_keep_CW g_all_moves g_letters_over g_undoing_of
  have m_CR_keep := ok_World_keep_CR (P := P) (w := w) (base := base) (CW := CW) (CR := CR) (CO := CO) (CT := CT) B wcR x_World_keep_CR g_all_moves g_letters_over g_undoing_of
  have g_check_standing := ok_check_standing (P := P) (w := w) (base := base) (CW := CW) (CR := CR) (CO := CO) (CT := CT) B x_check_standing g_is_standing
  have g__law_row := ok__law_row (P := P) (w := w) (base := base) (CW := CW) (CR := CR) (CO := CO) (CT := CT) B x__law_row g__law_draw g__law_letters g__law_any
  have g__law_moves := ok__law_moves (P := P) (w := w) (base := base) (CW := CW) (CR := CR) (CO := CO) (CT := CT) B x__law_moves g__law_mixed
  have g_are_moves := ok_are_moves (P := P) (w := w) (base := base) (CW := CW) (CR := CR) (CO := CO) (CT := CT) B x_are_moves k_MOST_STANDINGS g_is_move
  have c_RawWorld := ok_RawWorld_init_CR (P := P) (w := w) (base := base) (CW := CW) (CR := CR) (CO := CO) (CT := CT) B x_RawWorld_init_CR m_CR_keep
  have g_led := ok_led (P := P) (w := w) (base := base) (CW := CW) (CR := CR) (CO := CO) (CT := CT) B x_led g_check_standing g_check_row
  have g_move_of := ok_move_of (P := P) (w := w) (base := base) (CW := CW) (CR := CR) (CO := CO) (CT := CT) B x_move_of g_check_row g_row_move
  have g_order := ok_order (P := P) (w := w) (base := base) (CW := CW) (CR := CR) (CO := CO) (CT := CT) B x_order g_check_row g_row_move g_order_of
  have c_World := ok_World_init_CW (P := P) (w := w) (base := base) (CW := CW) (CR := CR) (CO := CO) (CT := CT) B x_World_init_CW g_is_deeds g_are_moves m_CW_keep
  have g_beside := ok_beside (P := P) (w := w) (base := base) (CW := CW) (CR := CR) (CO := CO) (CT := CT) B x_beside wcR g_check_same_deeds k_MOST_PAIRS bigT bigS c_RawWorld
  have g__law_asked := ok__law_asked (P := P) (w := w) (base := base) (CW := CW) (CR := CR) (CO := CO) (CT := CT) B x__law_asked hO hTO hT g_beside bigT excO
  have neR : GoodNe P w K mg base 1 CR (Alike K CR) ["self", "thing"] := ⟨neC, eqR⟩
  exact okf_law (P := P) (w := w) (base := base) (CW := CW) (CR := CR) (CO := CO) (CT := CT) B F wcW wcR hkR g__law_pot g__law_deeds g__law_draw g__law_moves c_World g_beside g__law_pairs kc_World p_moves g__law_row g__law_led g_led g_move_of g_order g__law_least g__law_asked neR eqW
end Rb

set_option maxHeartbeats 4000000
/-! what the top has written, in lemmas -/
namespace Rb
open PySem PySem.Spec PyProof.Rows L2
section
variable {K : PySem.W.Frag} {h : Heap} {mg : Str → Option Value} {x qual m : Str} {st : Stmt} {ps : List Str} {f C p : Addr} {oc : Value} {od an : Option Addr} {osl : Array (Option Value)} {kV dc pm cd ct : Value}
theorem fx_mk (X : K.In h) (G : h.Ns mainGlobals mg) (a : PySem.W.nsIn K mainGlobals x = some (some (.ref f))) (l : K.lookup f = some ⟨oc, od, .func (PySem.W.fnOf x qual (defArgs st) (defBody st) (defScope st) .none kV dc pm an cd ct), osl⟩) (c : PySem.W.codeIn K cd qual = true) (k : PySem.W.keepIn K (.ref f) = true)
    (hb : ∀ (kV doc pm : Value) (an : Option Addr) (cdv ct : Value) (us : List Value), us.length = ps.length → bindArgs (PySem.W.fnOf x qual (defArgs st) (defBody st) (defScope st) .none kV doc pm an cdv ct) ⟨us, []⟩ = pure (ps.zip us)) : FnX K mg x qual st ps :=
  ⟨f, _, PySem.W.mg_of X G a, fun_mk l c k, (fun_mk l c k).binds hb⟩
theorem mx_mk (a : PySem.W.findIn K (.ref C) m = some (some (.ref f))) (i : PySem.W.isFn K (.ref f) = true) (l : K.lookup f = some ⟨oc, od, .func (PySem.W.fnOf m qual (defArgs st) (defBody st) (defScope st) .none kV dc pm an cd ct), osl⟩) (c : PySem.W.codeIn K cd qual = true) (k : PySem.W.keepIn K (.ref f) = true)
    (hb : ∀ (kV doc pm : Value) (an : Option Addr) (cdv ct : Value) (us : List Value), us.length = ps.length → bindArgs (PySem.W.fnOf m qual (defArgs st) (defBody st) (defScope st) .none kV doc pm an cdv ct) ⟨us, []⟩ = pure (ps.zip us)) : MthX K C m qual st ps :=
  ⟨f, _, ⟨a, i, k⟩, fun_mk l c k, (fun_mk l c k).binds hb⟩
theorem ix_mk (X : K.In h) (G : h.Ns mainGlobals mg) (g : PySem.W.nsIn K mainGlobals x = some (some (.ref C))) (m : PySem.W.makesIn K C = true) (a : PySem.W.findIn K (.ref C) "__init__" = some (some (.ref f))) (i : PySem.W.isFn K (.ref f) = true) (kc : PySem.W.keepIn K (.ref C) = true) (l : K.lookup f = some ⟨oc, od, .func (PySem.W.fnOf "__init__" qual (defArgs st) (defBody st) (defScope st) .none kV dc pm an cd ct), osl⟩) (c : PySem.W.codeIn K cd qual = true) (k : PySem.W.keepIn K (.ref f) = true)
    (hb : ∀ (kV doc pm : Value) (an : Option Addr) (cdv ct : Value) (us : List Value), us.length = ps.length → bindArgs (PySem.W.fnOf "__init__" qual (defArgs st) (defBody st) (defScope st) .none kV doc pm an cdv ct) ⟨us, []⟩ = pure (ps.zip us)) : IniX K mg x C qual st ps :=
  ⟨PySem.W.mg_of X G g, f, _, ⟨m, a, i, kc⟩, fun_mk l c k, (fun_mk l c k).binds hb⟩
theorem px_mk {rest : List Value} (a : PySem.W.findIn K (.ref C) x = some (some (.ref p))) (g : PySem.W.specialIn K (.ref p) "__get__" = some (some (.builtin "property.__get__"))) (t : PySem.W.takesIn K (.ref p) = some true) (r : PySem.W.recIn K p "property" = some (.ref f :: rest)) (l : K.lookup f = some ⟨oc, od, .func (PySem.W.fnOf x qual (defArgs st) (defBody st) (defScope st) .none kV dc pm an cd ct), osl⟩) (c : PySem.W.codeIn K cd qual = true) (k : PySem.W.keepIn K (.ref f) = true)
    (hb : ∀ (kV doc pm : Value) (an : Option Addr) (cdv ct : Value) (us : List Value), us.length = ps.length → bindArgs (PySem.W.fnOf x qual (defArgs st) (defBody st) (defScope st) .none kV doc pm an cdv ct) ⟨us, []⟩ = pure (ps.zip us)) : PrpX K C x qual st ps :=
  ⟨p, f, _, ⟨a, g, t, rest, r⟩, fun_mk l c k, (fun_mk l c k).binds hb⟩
theorem ex_mk (a : PySem.W.findIn K (.ref C) "__eq__" = some (some (.ref f))) (i : PySem.W.isFn K (.ref f) = true) (l : K.lookup f = some ⟨oc, od, .func (PySem.W.fnOf "__eq__" qual (defArgs st) (defBody st) (defScope st) .none kV dc pm an cd ct), osl⟩) (c : PySem.W.codeIn K cd qual = true) (k : PySem.W.keepIn K (.ref f) = true)
    (hb : ∀ (kV doc pm : Value) (an : Option Addr) (cdv ct : Value) (us : List Value), us.length = ps.length → bindArgs (PySem.W.fnOf "__eq__" qual (defArgs st) (defBody st) (defScope st) .none kV doc pm an cdv ct) ⟨us, []⟩ = pure (ps.zip us)) : EqX K C qual st ps :=
  ⟨f, _, a, i, fun_mk l c k, (fun_mk l c k).binds hb⟩
theorem gkc_mk (X : K.In h) (G : h.Ns mainGlobals mg) (a : PySem.W.nsIn K mainGlobals x = some (some (.ref C))) : GoodK mg x (.ref C) := ⟨_, PySem.W.mg_of X G a, rfl⟩
theorem gks_mk {z : Str} {t : Tok} (X : K.In h) (G : h.Ns mainGlobals mg) (a : PySem.W.nsIn K mainGlobals x = some (some (.str z t))) : GoodK mg x (.str z) := ⟨_, PySem.W.mg_of X G a, t, rfl⟩
theorem gki_mk {z : Int} {t : Tok} (X : K.In h) (G : h.Ns mainGlobals mg) (a : PySem.W.nsIn K mainGlobals x = some (some (.int z t))) : GoodK mg x (.int z) := ⟨_, PySem.W.mg_of X G a, t, rfl⟩
theorem blt_mk (X : K.In h) (G : h.Ns mainGlobals mg) (b0 : PySem.W.nsIn K mainGlobals "int" = some none) (b1 : PySem.W.nsIn K mainGlobals "str" = some none) (b2 : PySem.W.nsIn K mainGlobals "bool" = some none) (b3 : PySem.W.nsIn K mainGlobals "tuple" = some none) (b4 : PySem.W.nsIn K mainGlobals "list" = some none) (b5 : PySem.W.nsIn K mainGlobals "dict" = some none) (b6 : PySem.W.nsIn K mainGlobals "range" = some none) (b7 : PySem.W.nsIn K mainGlobals "enumerate" = some none) (b8 : PySem.W.nsIn K mainGlobals "isinstance" = some none) (b9 : PySem.W.nsIn K mainGlobals "len" = some none) (b10 : PySem.W.nsIn K mainGlobals "abs" = some none) (b11 : PySem.W.nsIn K mainGlobals "sorted" = some none) (b12 : PySem.W.nsIn K mainGlobals "sum" = some none) : Blt mg := ⟨PySem.W.mg_none_of X G b0, PySem.W.mg_none_of X G b1, PySem.W.mg_none_of X G b2, PySem.W.mg_none_of X G b3, PySem.W.mg_none_of X G b4, PySem.W.mg_none_of X G b5, PySem.W.mg_none_of X G b6, PySem.W.mg_none_of X G b7, PySem.W.mg_none_of X G b8, PySem.W.mg_none_of X G b9, PySem.W.mg_none_of X G b10, PySem.W.mg_none_of X G b11, PySem.W.mg_none_of X G b12⟩
theorem wc_mk (a1 : PySem.W.plainGet K C Str.empty = true) (a2 : PySem.W.hasDictIn K C = true) (a3 : PySem.W.plainOver K C = true) (a4 : PySem.W.findIn K (.ref C) "__setattr__" = some (some (.builtin "object.__setattr__"))) (a5 : PySem.W.findIn K (.ref C) "deeds" = some none) (a6 : PySem.W.findIn K (.ref C) "size" = some none) (a7 : PySem.W.findIn K (.ref C) "kept_moves" = some none) (a8 : PySem.W.findIn K (.ref C) "kept_backs" = some none)
    (a9 : PySem.W.findIn K (.ref C) "__class__" = some (some (.builtin "object.__class__"))) (a10 : PySem.W.specialIn K (.builtin "object.__class__") "__get__" = some (some (.builtin "getset_descriptor.__get__"))) (a11 : PySem.W.takesIn K (.builtin "object.__class__") = some true) (a12 : PySem.W.mroIn K C (.type "object") = some true) : WC K C := ⟨⟨a1, a2, a3, a4⟩, a5, a6, a7, a8, a9, a10, a11, a12⟩
theorem kit_is {t : Value} {b : Bool} (i : PySem.W.isClsIn K C = true) (ty : PySem.W.typeIn K (.ref C) = some (.type "type")) (s : PySem.W.subIn K t (.ref C) = some b) (ne : (t == .ref C) = false) : PySem.W.kitOne K t (.ref C) = some b := by
  unfold PySem.W.kitOne
  rw [if_neg (by rw [ne]; decide)]
  show (if ((PySem.W.clsIn K C).isSome && PySem.W.typeIn K (.ref C) == some (.type "type")) = true then PySem.W.subIn K t (.ref C) else none) = some b
  have i' : (PySem.W.clsIn K C).isSome = true := i
  rw [i', ty, if_pos (by simp), s]
theorem exm_is {t : Value} {b : Bool} (e : PySem.W.subIn K (.ref C) (.type "BaseException") = some true) (i : PySem.W.isClsIn K C = true) (ty : PySem.W.typeIn K (.ref C) = some (.type "type")) (s : PySem.W.subIn K t (.ref C) = some b) : PySem.W.exmOne K t (.ref C) = some b := by
  unfold PySem.W.exmOne
  rw [e, if_pos (by simp)]
  show (if ((PySem.W.clsIn K C).isSome && PySem.W.typeIn K (.ref C) == some (.type "type")) = true then PySem.W.subIn K t (.ref C) else none) = some b
  have i' : (PySem.W.clsIn K C).isSome = true := i
  rw [i', ty, if_pos (by simp), s]
theorem ne_mk (a : PySem.W.findIn K (.ref C) "__ne__" = some (some (.builtin "object.__ne__"))) (b : PySem.W.subIn K (.ref C) (.type "object") = some true) : NeCls K C := ⟨a, b⟩
theorem exc0_mk (X : K.In h) (G : h.Ns mainGlobals mg) (g : PySem.W.nsIn K mainGlobals x = some (some (.ref C))) (q : PySem.W.excIn K C [.type "ValueError", .type "Exception", .type "BaseException", .type "object"] "ValueError.__new__" = true) (k : PySem.W.keepIn K (.ref C) = true) (e : PySem.W.subIn K (.ref C) (.type "BaseException") = some true) (ty : PySem.W.typeIn K (.ref C) = some (.type "type")) (i : PySem.W.isClsIn K C = true) (s : PySem.W.subIn K (.ref C) (.ref C) = some true) : Exc0 K mg x C :=
  ⟨PySem.W.mg_of X G g, q, k, e, ty, exm_is e i ty s⟩
theorem big_mk {P : Program} {fI cda cc N RE : Addr} {fl : Str} {nm qn : Str} {bs : List Value} {sn : List Str} {sub : List Value} {ab : Bool} {col : Option Bool} {dd : Option Addr} {m0 m1 m2 m3 m5 : Option Value} {ccl cl : Value} {cdd cld : Option Addr} {vs : Array Value} {ccs csl : Array (Option Value)} {file : Str} {tf : Tok} {cdR : ClassData}
    (X : K.In h) (G : h.Ns mainGlobals mg) (g : PySem.W.nsIn K mainGlobals x = some (some (.ref C))) (gs : PySem.W.nsIn K mainGlobals "super" = some none)
    (xL : K.lookup C = some (excClassObj nm qn C N bs [.ref RE, .type "ValueError", .type "Exception", .type "BaseException", .type "object"] true sn sub ab col dd m0 m1 m2 m3 m5 "ValueError.__new__"))
    (sa : PySem.W.findIn K (.ref C) "__setattr__" = some (some (.builtin "object.__setattr__"))) (ga : PySem.W.findIn K (.ref C) "__getattribute__" = some (some (.builtin "BaseException.__getattribute__"))) (gg : PySem.W.findIn K (.ref C) "__getattr__" = some none) (no : PySem.W.findIn K (.ref C) fl = some none)
    (iC : PySem.W.findIn K (.ref C) "__init__" = some (some (.ref fI))) (tI : PySem.W.typeIn K (.ref fI) = some (.type "function"))
    (kC : PySem.W.keepIn K (.ref C) = true) (eC : PySem.W.subIn K (.ref C) (.type "BaseException") = some true) (tC : PySem.W.typeIn K (.ref C) = some (.type "type")) (hC : PySem.W.hasDictIn K C = true) (isC : PySem.W.isClsIn K C = true) (sC : PySem.W.subIn K (.ref C) (.ref C) = some true)
    (l : K.lookup fI = some ⟨oc, od, .func (PySem.W.ksFn "__init__" qual (defArgs st) (defBody st) (defScope st) .none kV dc pm an (.ref cda) ct cc), osl⟩) (c : PySem.W.codeIn K (.ref cda) qual = true)
    (lc : K.lookup cda = some ⟨ccl, cdd, .fields vs, ccs⟩) (hv : vs[2]? = some (.str file tf)) (hf : ((P.main.file : Str) == file) = true) (lcc : K.lookup cc = some ⟨cl, cld, .cell (some (.ref C)), csl⟩) (lR : PySem.W.clsIn K RE = some cdR) (hR : cdR.mro = [.ref RE, .type "ValueError", .type "Exception", .type "BaseException", .type "object"])
    (iR : PySem.W.findIn K (.ref RE) "__init__" = some (some (.builtin "ValueError.__init__"))) (su : PySem.W.mroIn K C (.ref C) = some true) (op : PySem.W.nsIn K cStatics "thirdparty.any" = some none) (ve : PySem.W.subIn K (.ref C) (.type "ValueError") = some true)
    (hb : ∀ (kV doc pm : Value) (an : Option Addr) (cdv ct : Value) (cc : Addr) (us : List Value), us.length = (["self", fl] : List Str).length → bindArgs (PySem.W.ksFn "__init__" qual (defArgs st) (defBody st) (defScope st) .none kV doc pm an cdv ct cc) ⟨us, []⟩ = pure ((["self", fl] : List Str).zip us)) :
    ∃ fI, BigT P K mg x C fI fl qual st := by
  have hcl : PySem.W.clsIn K C = some { name := nm, bases := bs, mro := .ref C :: [.ref RE, .type "ValueError", .type "Exception", .type "BaseException", .type "object"], ns := N, qualname := qn, hasDict := true, slotNames := sn, subclasses := sub, abstract := ab, collection := col, hasDel := false } := by unfold PySem.W.clsIn; rw [xL] <;> rfl
  refine ⟨fI, ⟨⟨⟨nm, qn, N, bs, _, sn, sub, ab, col, dd, m0, m1, m2, m3, m5, xL, ?_⟩, sa, eC, tC, kC⟩, PySem.W.mg_of X G g, PySem.W.mg_none_of X G gs, ga, gg, no, iC, tI, hC, exm_is eC isC tC sC, ?_, su, ?_, op, ve⟩⟩
  · rfl
  · exact ⟨oc, od, kV, dc, pm, an, cda, ct, osl, cc, ccl, cdd, vs, ccs, file, tf, cl, cld, csl, _, l, c, lc, hv, hf, lcc, hcl, .all (hb kV dc pm an _ ct cc)⟩
  · unfold PySem.W.ks_superIn
    rw [hcl]
    have e : ((Value.ref C :: [.ref RE, .type "ValueError", .type "Exception", .type "BaseException", .type "object"]).dropWhile (· != .ref C)).drop 1 = cdR.mro := by rw [hR]; simp [List.dropWhile_cons]
    show PySem.W.alongIn K "__init__" (((Value.ref C :: [.ref RE, .type "ValueError", .type "Exception", .type "BaseException", .type "object"]).dropWhile (· != .ref C)).drop 1) = _
    rw [e, ← iR]
    unfold PySem.W.clsIn at lR
    unfold PySem.W.findIn
    split at lR
    · rename_i o c' d cd' sl hl
      simp only [hl]
      cases lR
      rfl
    · cases lR
end
theorem bigS_mk : BigS PySem.Challenge.rw_runsback_k41_whole_worlds_side_by_side.prog "most" s_big :=
  ⟨⟨_, _, _, _, _, _, _, _, _, _, _, _, rfl, rfl⟩, ⟨_, rfl, rfl⟩, ⟨_, _, rfl⟩, by decide +kernel, by decide +kernel, by decide +kernel, by decide +kernel, by decide +kernel, by decide, by decide, by decide +kernel⟩
theorem all_top {w : World} {K : PySem.W.Frag} {h : Heap} {mg : Str → Option Value} {fa CW CR CO CT f : Addr} {oc : Value} {od an : Option Addr} {osl : Array (Option Value)} {kV dc pm cd ct : Value} (X : K.In h) (G : h.Ns mainGlobals mg) (hfa : mg "law" = some (.ref fa))
    (aL : PySem.W.nsIn K mainGlobals "law" = some (some (.ref f))) (lL : K.lookup f = some ⟨oc, od, .func (PySem.W.fnOf "law" "law" (defArgs s_law) (defBody s_law) (defScope s_law) .none kV dc pm an cd ct), osl⟩) (cL : PySem.W.codeIn K cd "law" = true) (kL : PySem.W.keepIn K (.ref f) = true) (B : Blt mg)
    (aCW : PySem.W.nsIn K mainGlobals "World" = some (some (.ref CW)))
    (aCR : PySem.W.nsIn K mainGlobals "RawWorld" = some (some (.ref CR)))
    (aCO : PySem.W.nsIn K mainGlobals "OtherDeeds" = some (some (.ref CO)))
    (aCT : PySem.W.nsIn K mainGlobals "TooLarge" = some (some (.ref CT)))
    (k_SMALL : GoodK mg "SMALL" v_SMALL)
    (k_MOST_STANDINGS : GoodK mg "MOST_STANDINGS" v_MOST_STANDINGS)
    (k_MOST_PAIRS : GoodK mg "MOST_PAIRS" v_MOST_PAIRS)
    (wcW : WC K CW)
    (wcR : WC K CR)
    (hkR : PySem.W.kitOne K (.ref CR) (.ref CW) = some true)
    (hO : PySem.W.exmOne K (.ref CO) (.ref CO) = some true)
    (hTO : PySem.W.exmOne K (.ref CT) (.ref CO) = some false)
    (hT : PySem.W.exmOne K (.ref CT) (.ref CT) = some true)
    (neC : NeCls K CR)
    (excO : Exc0 K mg "OtherDeeds" CO)
    (bigT : ∃ fI, BigT PySem.Challenge.rw_runsback_k41_whole_worlds_side_by_side.prog K mg "TooLarge" CT fI "most" "TooLarge.__init__" s_big)
    (x_is_integer : FnX K mg "is_integer" "is_integer" s_is_integer ["thing"])
    (x_is_string_of : FnX K mg "is_string_of" "is_string_of" s_is_string_of ["thing", "signs"])
    (x_is_word : FnX K mg "is_word" "is_word" s_is_word ["thing"])
    (x_is_deeds : FnX K mg "is_deeds" "is_deeds" s_is_deeds ["thing"])
    (x_undoing_of : FnX K mg "undoing_of" "undoing_of" s_undoing_of ["letter"])
    (x_letters_over : FnX K mg "letters_over" "letters_over" s_letters_over ["deeds"])
    (x_is_row_over : FnX K mg "is_row_over" "is_row_over" s_is_row_over ["deeds", "thing"])
    (x_check_row : FnX K mg "check_row" "check_row" s_check_row ["deeds", "thing"])
    (x_standing_still : FnX K mg "standing_still" "standing_still" s_standing_still ["size"])
    (x_composed : FnX K mg "composed" "composed" s_composed ["first", "second"])
    (x_turned_back : FnX K mg "turned_back" "turned_back" s_turned_back ["move"])
    (x_circles_of : FnX K mg "circles_of" "circles_of" s_circles_of ["move"])
    (x_greatest_divisor : FnX K mg "greatest_divisor" "greatest_divisor" s_greatest_divisor ["one", "other"])
    (x_order_of : FnX K mg "order_of" "order_of" s_order_of ["move"])
    (x_is_standing : FnX K mg "is_standing" "is_standing" s_is_standing ["size", "thing"])
    (x_is_move : FnX K mg "is_move" "is_move" s_is_move ["size", "thing"])
    (x_are_moves : FnX K mg "are_moves" "are_moves" s_are_moves ["deeds", "thing"])
    (x_all_moves : FnX K mg "all_moves" "all_moves" s_all_moves ["deeds", "moves"])
    (x_World_init_CW : IniX K mg "World" CW "World.__init__" s_World_init ["self", "deeds", "moves"])
    (x_World_keep_CW : MthX K CW "keep" "World.keep" s_World_keep ["self", "deeds", "moves"])
    (x_World_keep_CR : MthX K CR "keep" "World.keep" s_World_keep ["self", "deeds", "moves"])
    (x_World_moves_CR : PrpX K CR "moves" "World.moves" s_World_moves ["self"])
    (x_World_eq_CW : EqX K CW "World.__eq__" s_World_eq ["self", "thing"])
    (x_World_eq_CR : EqX K CR "World.__eq__" s_World_eq ["self", "thing"])
    (x_RawWorld_init_CR : IniX K mg "RawWorld" CR "RawWorld.__init__" s_RawWorld_init ["self", "deeds", "moves"])
    (x_check_standing : FnX K mg "check_standing" "check_standing" s_check_standing ["world", "standing"])
    (x_check_same_deeds : FnX K mg "check_same_deeds" "check_same_deeds" s_check_same_deeds ["one", "second"])
    (x_row_move : FnX K mg "row_move" "row_move" s_row_move ["world", "row"])
    (x_led : FnX K mg "led" "led" s_led ["world", "standing", "row"])
    (x_move_of : FnX K mg "move_of" "move_of" s_move_of ["world", "row"])
    (x_order : FnX K mg "order" "order" s_order ["world", "row"])
    (x_beside : FnX K mg "beside" "beside" s_beside ["one", "second"])
    (x__law_pot : FnX K mg "_law_pot" "_law_pot" s__law_pot ["_law_script"])
    (x__law_draw : FnX K mg "_law_draw" "_law_draw" s__law_draw ["_law_pot_here", "_law_many"])
    (x__law_any : FnX K mg "_law_any" "_law_any" s__law_any ["_law_pot_here", "_law_items"])
    (x__law_deeds : FnX K mg "_law_deeds" "_law_deeds" s__law_deeds ["_law_pot_here", "_law_most"])
    (x__law_letters : FnX K mg "_law_letters" "_law_letters" s__law_letters ["_law_deeds_here"])
    (x__law_row : FnX K mg "_law_row" "_law_row" s__law_row ["_law_pot_here", "_law_deeds_here", "_law_most"])
    (x__law_mixed : FnX K mg "_law_mixed" "_law_mixed" s__law_mixed ["_law_pot_here", "_law_items"])
    (x__law_moves : FnX K mg "_law_moves" "_law_moves" s__law_moves ["_law_pot_here", "_law_deeds_here", "_law_size"])
    (x__law_step : FnX K mg "_law_step" "_law_step" s__law_step ["_law_moves_here", "_law_letter", "_law_standing"])
    (x__law_led : FnX K mg "_law_led" "_law_led" s__law_led ["_law_moves_here", "_law_standing", "_law_row_here"])
    (x__law_pairs : FnX K mg "_law_pairs" "_law_pairs" s__law_pairs ["_law_deeds_here", "_law_one", "_law_other"])
    (x__law_asked : FnX K mg "_law_asked" "_law_asked" s__law_asked ["_law_one", "_law_other"])
    (x__law_least : FnX K mg "_law_least" "_law_least" s__law_least ["_law_one", "_law_other"]) :
    ∃ fd : FuncData, (∀ (s : Shared) (v : Value), BindsTo s fd ⟨[v], []⟩ [(("_law_script" : Str), v)]) ∧ ∀ base : Heap, K.In base → base.Ns mainGlobals mg → FnOk PySem.Challenge.rw_runsback_k41_whole_worlds_side_by_side.prog w K mg base (L2.CX PySem.Challenge.rw_runsback_k41_whole_worlds_side_by_side.prog w) 8 fa fd ["_law_script"] (sp_law K) := by
  have e := hfa.symm.trans (PySem.W.mg_of X G aL)
  cases e
  exact ⟨_, fun s v => .of_eq rfl, fun base _ _ => ok_all (P := PySem.Challenge.rw_runsback_k41_whole_worlds_side_by_side.prog) (w := w) (base := base) B (fun_mk (st := s_law) lL cL kL)
    k_SMALL
    k_MOST_STANDINGS
    (gkc_mk X G aCW)
    k_MOST_PAIRS
    wcW
    wcR
    hkR
    hO
    hTO
    hT
    neC
    excO
    bigT
    bigS_mk
    x_is_integer
    x_is_string_of
    x_is_word
    x_is_deeds
    x_undoing_of
    x_letters_over
    x_is_row_over
    x_check_row
    x_standing_still
    x_composed
    x_turned_back
    x_circles_of
    x_greatest_divisor
    x_order_of
    x_is_standing
    x_is_move
    x_are_moves
    x_all_moves
    x_World_init_CW
    x_World_keep_CW
    x_World_keep_CR
    x_World_moves_CR
    x_World_eq_CW
    x_World_eq_CR
    x_RawWorld_init_CR
    x_check_standing
    x_check_same_deeds
    x_row_move
    x_led
    x_move_of
    x_order
    x_beside
    x__law_pot
    x__law_draw
    x__law_any
    x__law_deeds
    x__law_letters
    x__law_row
    x__law_mixed
    x__law_moves
    x__law_step
    x__law_led
    x__law_pairs
    x__law_asked
    x__law_least⟩
theorem walk {l : PySem.W.OpenLaw} {q : Program} {loose : List Str} {XP : (Str → Option Value) → Heap → Prop} {YP : World → Heap → Prop} {d : DefRec} {K : Params → PySem.W.Frag} (hn : l.most = some 63) (hdf : d.params.defaults = [])
    (hY : ∀ (w : World) (h : Heap), YP w h → (K w.params).In h)
    (F : ∀ (w : World) (mg : Str → Option Value) (fa : Addr) (h : Heap), (K w.params).In h → h.Ns mainGlobals mg → mg d.name = some (.ref fa) →
      ∃ fd : FuncData, (∀ (s : Shared) (u : Value), BindsTo s fd ⟨[u], []⟩ [("_law_script", u)]) ∧ ∀ base : Heap, (K w.params).In base → base.Ns mainGlobals mg → FnOk l.prog w (K w.params) mg base (L2.CX l.prog w) 8 fa fd ["_law_script"] (sp_law (K w.params))) :
    PySem.W.WalkO q loose XP YP l.row.toRowW d [] (fun f vs => PySem.call f vs) :=
  L2.walk_of (n := 63) (k := 8) (x := "_law_script") (CX := fun w => L2.CX l.prog w) (sp := fun w => sp_law (K w.params)) hn (by decide) hdf ⟨rfl, by decide, by decide⟩ hY F (fun _ _ a ns hl _ hS => ⟨_, rfl, a, ns, rfl, hS, hl, fun _ => rfl⟩) fun _ _ _ _ _ z => by
    obtain ⟨_, _, _, _, _, _, _, _, _, _, _, _, z⟩ := z
    exact z.elim
end Rb

open PySem PySem.W PyProof.Rows in
set_option maxRecDepth 100000 in
set_option maxHeartbeats 0 in
theorem PySem.Challenge.cw_runsback_k41_whole_worlds_side_by_side_holds : PySem.Challenge.rw_runsback_k41_whole_worlds_side_by_side.Holds := by
  w_on; o_law; k_head; (case hw => w_witness2)
  k_fill
  refine Rb.walk (l := PySem.Challenge.rw_runsback_k41_whole_worlds_side_by_side) rfl rfl (fun w h Y => PySem.W.kIn_of Y) ?F
  case F =>
    intro w mg fa h KX G hmg
    refine' Rb.all_top KX G hmg ?aL ?lL ?cL ?kL ?B ?aCW ?aCR ?aCO ?aCT ?k_SMALL ?k_MOST_STANDINGS ?k_MOST_PAIRS ?wcW ?wcR ?hkR ?hO ?hTO ?hT ?neC ?excO ?bigT ?x_is_integer ?x_is_string_of ?x_is_word ?x_is_deeds ?x_undoing_of ?x_letters_over ?x_is_row_over ?x_check_row ?x_standing_still ?x_composed ?x_turned_back ?x_circles_of ?x_greatest_divisor ?x_order_of ?x_is_standing ?x_is_move ?x_are_moves ?x_all_moves ?x_World_init_CW ?x_World_keep_CW ?x_World_keep_CR ?x_World_moves_CR ?x_World_eq_CW ?x_World_eq_CR ?x_RawWorld_init_CR ?x_check_standing ?x_check_same_deeds ?x_row_move ?x_led ?x_move_of ?x_order ?x_beside ?x__law_pot ?x__law_draw ?x__law_any ?x__law_deeds ?x__law_letters ?x__law_row ?x__law_mixed ?x__law_moves ?x__law_step ?x__law_led ?x__law_pairs ?x__law_asked ?x__law_least
    (case aL => k_is)
    (case lL => k_is)
    (case cL => k_is)
    (case kL => k_is)
    (case B =>
      refine' Rb.blt_mk KX G ?b0 ?b1 ?b2 ?b3 ?b4 ?b5 ?b6 ?b7 ?b8 ?b9 ?b10 ?b11 ?b12
      (case b0 => k_is)
      (case b1 => k_is)
      (case b2 => k_is)
      (case b3 => k_is)
      (case b4 => k_is)
      (case b5 => k_is)
      (case b6 => k_is)
      (case b7 => k_is)
      (case b8 => k_is)
      (case b9 => k_is)
      (case b10 => k_is)
      (case b11 => k_is)
      (case b12 => k_is))
    (case aCW => k_is)
    (case aCR => k_is)
    (case aCO => k_is)
    (case aCT => k_is)
    (case k_SMALL => refine' Rb.gks_mk KX G ?k_SMALL_a; (case k_SMALL_a => k_is))
    (case k_MOST_STANDINGS => refine' Rb.gki_mk KX G ?k_MOST_STANDINGS_a; (case k_MOST_STANDINGS_a => k_is))
    (case k_MOST_PAIRS => refine' Rb.gki_mk KX G ?k_MOST_PAIRS_a; (case k_MOST_PAIRS_a => k_is))
    (case wcW => refine' Rb.wc_mk ?wcW_a1 ?wcW_a2 ?wcW_a3 ?wcW_a4 ?wcW_a5 ?wcW_a6 ?wcW_a7 ?wcW_a8 ?wcW_a9 ?wcW_a10 ?wcW_a11 ?wcW_a12; (case wcW_a1 => k_is); (case wcW_a2 => k_is); (case wcW_a3 => k_is); (case wcW_a4 => k_is); (case wcW_a5 => k_is); (case wcW_a6 => k_is); (case wcW_a7 => k_is); (case wcW_a8 => k_is); (case wcW_a9 => k_is); (case wcW_a10 => k_is); (case wcW_a11 => k_is); (case wcW_a12 => k_is))
    (case wcR => refine' Rb.wc_mk ?wcR_a1 ?wcR_a2 ?wcR_a3 ?wcR_a4 ?wcR_a5 ?wcR_a6 ?wcR_a7 ?wcR_a8 ?wcR_a9 ?wcR_a10 ?wcR_a11 ?wcR_a12; (case wcR_a1 => k_is); (case wcR_a2 => k_is); (case wcR_a3 => k_is); (case wcR_a4 => k_is); (case wcR_a5 => k_is); (case wcR_a6 => k_is); (case wcR_a7 => k_is); (case wcR_a8 => k_is); (case wcR_a9 => k_is); (case wcR_a10 => k_is); (case wcR_a11 => k_is); (case wcR_a12 => k_is))
    (case hkR => refine' Rb.kit_is ?hkR_i ?hkR_ty ?hkR_s ?hkR_ne; (case hkR_i => k_is); (case hkR_ty => k_is); (case hkR_s => first | rfl | k_is); (case hkR_ne => decide))
    (case hO => refine' Rb.exm_is ?hO_e ?hO_i ?hO_ty ?hO_s; (case hO_e => k_is); (case hO_i => k_is); (case hO_ty => k_is); (case hO_s => first | rfl | k_is))
    (case hTO => refine' Rb.exm_is ?hTO_e ?hTO_i ?hTO_ty ?hTO_s; (case hTO_e => k_is); (case hTO_i => k_is); (case hTO_ty => k_is); (case hTO_s => k_is))
    (case hT => refine' Rb.exm_is ?hT_e ?hT_i ?hT_ty ?hT_s; (case hT_e => k_is); (case hT_i => k_is); (case hT_ty => k_is); (case hT_s => first | rfl | k_is))
    (case neC => refine' Rb.ne_mk ?neC_a ?neC_b; (case neC_a => k_is); (case neC_b => k_is))
    (case excO => refine' Rb.exc0_mk KX G ?excO_g ?excO_q ?excO_k ?excO_e ?excO_ty ?excO_i ?excO_s; (case excO_g => k_is); (case excO_q => k_exc); (case excO_k => k_is); (case excO_e => k_is); (case excO_ty => k_is); (case excO_i => k_is); (case excO_s => first | rfl | k_is))
    (case bigT => refine' Rb.big_mk KX G ?bigT_g ?bigT_gs ?bigT_xL ?bigT_sa ?bigT_ga ?bigT_gg ?bigT_no ?bigT_iC ?bigT_tI ?bigT_kC ?bigT_eC ?bigT_tC ?bigT_hC ?bigT_isC ?bigT_sC ?bigT_l ?bigT_c ?bigT_lc ?bigT_hv ?bigT_hf ?bigT_lcc ?bigT_lR ?bigT_hR ?bigT_iR ?bigT_su ?bigT_op ?bigT_ve (fun _ _ _ _ _ _ _ us hl => match us, hl with | [_, _], _ => rfl); (case bigT_g => k_is); (case bigT_gs => k_is); (case bigT_xL => k_is); (case bigT_sa => k_is); (case bigT_ga => k_is); (case bigT_gg => k_is); (case bigT_no => k_is); (case bigT_iC => k_is); (case bigT_tI => k_is); (case bigT_kC => k_is); (case bigT_eC => k_is); (case bigT_tC => k_is); (case bigT_hC => k_is); (case bigT_isC => k_is); (case bigT_sC => first | rfl | k_is); (case bigT_l => k_is); (case bigT_c => k_is); (case bigT_lc => k_is); (case bigT_hv => rfl); (case bigT_hf => decide +kernel); (case bigT_lcc => k_is); (case bigT_lR => k_is); (case bigT_hR => rfl); (case bigT_iR => k_is); (case bigT_su => first | rfl | k_is); (case bigT_op => k_is); (case bigT_ve => k_is))
    (case x_is_integer => refine' Rb.fx_mk KX G ?x_is_integer_a ?x_is_integer_l ?x_is_integer_c ?x_is_integer_k (fun _ _ _ _ _ _ us hl => match us, hl with | [_], _ => rfl); (case x_is_integer_a => k_is); (case x_is_integer_l => k_is); (case x_is_integer_c => k_is); (case x_is_integer_k => k_is))
    (case x_is_string_of => refine' Rb.fx_mk KX G ?x_is_string_of_a ?x_is_string_of_l ?x_is_string_of_c ?x_is_string_of_k (fun _ _ _ _ _ _ us hl => match us, hl with | [_, _], _ => rfl); (case x_is_string_of_a => k_is); (case x_is_string_of_l => k_is); (case x_is_string_of_c => k_is); (case x_is_string_of_k => k_is))
    (case x_is_word => refine' Rb.fx_mk KX G ?x_is_word_a ?x_is_word_l ?x_is_word_c ?x_is_word_k (fun _ _ _ _ _ _ us hl => match us, hl with | [_], _ => rfl); (case x_is_word_a => k_is); (case x_is_word_l => k_is); (case x_is_word_c => k_is); (case x_is_word_k => k_is))
    (case x_is_deeds => refine' Rb.fx_mk KX G ?x_is_deeds_a ?x_is_deeds_l ?x_is_deeds_c ?x_is_deeds_k (fun _ _ _ _ _ _ us hl => match us, hl with | [_], _ => rfl); (case x_is_deeds_a => k_is); (case x_is_deeds_l => k_is); (case x_is_deeds_c => k_is); (case x_is_deeds_k => k_is))
    (case x_undoing_of => refine' Rb.fx_mk KX G ?x_undoing_of_a ?x_undoing_of_l ?x_undoing_of_c ?x_undoing_of_k (fun _ _ _ _ _ _ us hl => match us, hl with | [_], _ => rfl); (case x_undoing_of_a => k_is); (case x_undoing_of_l => k_is); (case x_undoing_of_c => k_is); (case x_undoing_of_k => k_is))
    (case x_letters_over => refine' Rb.fx_mk KX G ?x_letters_over_a ?x_letters_over_l ?x_letters_over_c ?x_letters_over_k (fun _ _ _ _ _ _ us hl => match us, hl with | [_], _ => rfl); (case x_letters_over_a => k_is); (case x_letters_over_l => k_is); (case x_letters_over_c => k_is); (case x_letters_over_k => k_is))
    (case x_is_row_over => refine' Rb.fx_mk KX G ?x_is_row_over_a ?x_is_row_over_l ?x_is_row_over_c ?x_is_row_over_k (fun _ _ _ _ _ _ us hl => match us, hl with | [_, _], _ => rfl); (case x_is_row_over_a => k_is); (case x_is_row_over_l => k_is); (case x_is_row_over_c => k_is); (case x_is_row_over_k => k_is))
    (case x_check_row => refine' Rb.fx_mk KX G ?x_check_row_a ?x_check_row_l ?x_check_row_c ?x_check_row_k (fun _ _ _ _ _ _ us hl => match us, hl with | [_, _], _ => rfl); (case x_check_row_a => k_is); (case x_check_row_l => k_is); (case x_check_row_c => k_is); (case x_check_row_k => k_is))
    (case x_standing_still => refine' Rb.fx_mk KX G ?x_standing_still_a ?x_standing_still_l ?x_standing_still_c ?x_standing_still_k (fun _ _ _ _ _ _ us hl => match us, hl with | [_], _ => rfl); (case x_standing_still_a => k_is); (case x_standing_still_l => k_is); (case x_standing_still_c => k_is); (case x_standing_still_k => k_is))
    (case x_composed => refine' Rb.fx_mk KX G ?x_composed_a ?x_composed_l ?x_composed_c ?x_composed_k (fun _ _ _ _ _ _ us hl => match us, hl with | [_, _], _ => rfl); (case x_composed_a => k_is); (case x_composed_l => k_is); (case x_composed_c => k_is); (case x_composed_k => k_is))
    (case x_turned_back => refine' Rb.fx_mk KX G ?x_turned_back_a ?x_turned_back_l ?x_turned_back_c ?x_turned_back_k (fun _ _ _ _ _ _ us hl => match us, hl with | [_], _ => rfl); (case x_turned_back_a => k_is); (case x_turned_back_l => k_is); (case x_turned_back_c => k_is); (case x_turned_back_k => k_is))
    (case x_circles_of => refine' Rb.fx_mk KX G ?x_circles_of_a ?x_circles_of_l ?x_circles_of_c ?x_circles_of_k (fun _ _ _ _ _ _ us hl => match us, hl with | [_], _ => rfl); (case x_circles_of_a => k_is); (case x_circles_of_l => k_is); (case x_circles_of_c => k_is); (case x_circles_of_k => k_is))
    (case x_greatest_divisor => refine' Rb.fx_mk KX G ?x_greatest_divisor_a ?x_greatest_divisor_l ?x_greatest_divisor_c ?x_greatest_divisor_k (fun _ _ _ _ _ _ us hl => match us, hl with | [_, _], _ => rfl); (case x_greatest_divisor_a => k_is); (case x_greatest_divisor_l => k_is); (case x_greatest_divisor_c => k_is); (case x_greatest_divisor_k => k_is))
    (case x_order_of => refine' Rb.fx_mk KX G ?x_order_of_a ?x_order_of_l ?x_order_of_c ?x_order_of_k (fun _ _ _ _ _ _ us hl => match us, hl with | [_], _ => rfl); (case x_order_of_a => k_is); (case x_order_of_l => k_is); (case x_order_of_c => k_is); (case x_order_of_k => k_is))
    (case x_is_standing => refine' Rb.fx_mk KX G ?x_is_standing_a ?x_is_standing_l ?x_is_standing_c ?x_is_standing_k (fun _ _ _ _ _ _ us hl => match us, hl with | [_, _], _ => rfl); (case x_is_standing_a => k_is); (case x_is_standing_l => k_is); (case x_is_standing_c => k_is); (case x_is_standing_k => k_is))
    (case x_is_move => refine' Rb.fx_mk KX G ?x_is_move_a ?x_is_move_l ?x_is_move_c ?x_is_move_k (fun _ _ _ _ _ _ us hl => match us, hl with | [_, _], _ => rfl); (case x_is_move_a => k_is); (case x_is_move_l => k_is); (case x_is_move_c => k_is); (case x_is_move_k => k_is))
    (case x_are_moves => refine' Rb.fx_mk KX G ?x_are_moves_a ?x_are_moves_l ?x_are_moves_c ?x_are_moves_k (fun _ _ _ _ _ _ us hl => match us, hl with | [_, _], _ => rfl); (case x_are_moves_a => k_is); (case x_are_moves_l => k_is); (case x_are_moves_c => k_is); (case x_are_moves_k => k_is))
    (case x_all_moves => refine' Rb.fx_mk KX G ?x_all_moves_a ?x_all_moves_l ?x_all_moves_c ?x_all_moves_k (fun _ _ _ _ _ _ us hl => match us, hl with | [_, _], _ => rfl); (case x_all_moves_a => k_is); (case x_all_moves_l => k_is); (case x_all_moves_c => k_is); (case x_all_moves_k => k_is))
    (case x_World_init_CW => refine' Rb.ix_mk KX G ?x_World_init_CW_g ?x_World_init_CW_m ?x_World_init_CW_a ?x_World_init_CW_i ?x_World_init_CW_kc ?x_World_init_CW_l ?x_World_init_CW_c ?x_World_init_CW_k (fun _ _ _ _ _ _ us hl => match us, hl with | [_, _, _], _ => rfl); (case x_World_init_CW_g => k_is); (case x_World_init_CW_m => k_is); (case x_World_init_CW_a => k_is); (case x_World_init_CW_i => k_is); (case x_World_init_CW_kc => k_is); (case x_World_init_CW_l => k_is); (case x_World_init_CW_c => k_is); (case x_World_init_CW_k => k_is))
    (case x_World_keep_CW => refine' Rb.mx_mk ?x_World_keep_CW_a ?x_World_keep_CW_i ?x_World_keep_CW_l ?x_World_keep_CW_c ?x_World_keep_CW_k (fun _ _ _ _ _ _ us hl => match us, hl with | [_, _, _], _ => rfl); (case x_World_keep_CW_a => k_is); (case x_World_keep_CW_i => k_is); (case x_World_keep_CW_l => k_is); (case x_World_keep_CW_c => k_is); (case x_World_keep_CW_k => k_is))
    (case x_World_keep_CR => refine' Rb.mx_mk ?x_World_keep_CR_a ?x_World_keep_CR_i ?x_World_keep_CR_l ?x_World_keep_CR_c ?x_World_keep_CR_k (fun _ _ _ _ _ _ us hl => match us, hl with | [_, _, _], _ => rfl); (case x_World_keep_CR_a => k_is); (case x_World_keep_CR_i => k_is); (case x_World_keep_CR_l => k_is); (case x_World_keep_CR_c => k_is); (case x_World_keep_CR_k => k_is))
    (case x_World_moves_CR => refine' Rb.px_mk ?x_World_moves_CR_a ?x_World_moves_CR_g ?x_World_moves_CR_t ?x_World_moves_CR_r ?x_World_moves_CR_l ?x_World_moves_CR_c ?x_World_moves_CR_k (fun _ _ _ _ _ _ us hl => match us, hl with | [_], _ => rfl); (case x_World_moves_CR_a => k_is); (case x_World_moves_CR_g => k_is); (case x_World_moves_CR_t => k_is); (case x_World_moves_CR_r => k_is); (case x_World_moves_CR_l => k_is); (case x_World_moves_CR_c => k_is); (case x_World_moves_CR_k => k_is))
    (case x_World_eq_CW => refine' Rb.ex_mk ?x_World_eq_CW_a ?x_World_eq_CW_i ?x_World_eq_CW_l ?x_World_eq_CW_c ?x_World_eq_CW_k (fun _ _ _ _ _ _ us hl => match us, hl with | [_, _], _ => rfl); (case x_World_eq_CW_a => k_is); (case x_World_eq_CW_i => k_is); (case x_World_eq_CW_l => k_is); (case x_World_eq_CW_c => k_is); (case x_World_eq_CW_k => k_is))
    (case x_World_eq_CR => refine' Rb.ex_mk ?x_World_eq_CR_a ?x_World_eq_CR_i ?x_World_eq_CR_l ?x_World_eq_CR_c ?x_World_eq_CR_k (fun _ _ _ _ _ _ us hl => match us, hl with | [_, _], _ => rfl); (case x_World_eq_CR_a => k_is); (case x_World_eq_CR_i => k_is); (case x_World_eq_CR_l => k_is); (case x_World_eq_CR_c => k_is); (case x_World_eq_CR_k => k_is))
    (case x_RawWorld_init_CR => refine' Rb.ix_mk KX G ?x_RawWorld_init_CR_g ?x_RawWorld_init_CR_m ?x_RawWorld_init_CR_a ?x_RawWorld_init_CR_i ?x_RawWorld_init_CR_kc ?x_RawWorld_init_CR_l ?x_RawWorld_init_CR_c ?x_RawWorld_init_CR_k (fun _ _ _ _ _ _ us hl => match us, hl with | [_, _, _], _ => rfl); (case x_RawWorld_init_CR_g => k_is); (case x_RawWorld_init_CR_m => k_is); (case x_RawWorld_init_CR_a => k_is); (case x_RawWorld_init_CR_i => k_is); (case x_RawWorld_init_CR_kc => k_is); (case x_RawWorld_init_CR_l => k_is); (case x_RawWorld_init_CR_c => k_is); (case x_RawWorld_init_CR_k => k_is))
    (case x_check_standing => refine' Rb.fx_mk KX G ?x_check_standing_a ?x_check_standing_l ?x_check_standing_c ?x_check_standing_k (fun _ _ _ _ _ _ us hl => match us, hl with | [_, _], _ => rfl); (case x_check_standing_a => k_is); (case x_check_standing_l => k_is); (case x_check_standing_c => k_is); (case x_check_standing_k => k_is))
    (case x_check_same_deeds => refine' Rb.fx_mk KX G ?x_check_same_deeds_a ?x_check_same_deeds_l ?x_check_same_deeds_c ?x_check_same_deeds_k (fun _ _ _ _ _ _ us hl => match us, hl with | [_, _], _ => rfl); (case x_check_same_deeds_a => k_is); (case x_check_same_deeds_l => k_is); (case x_check_same_deeds_c => k_is); (case x_check_same_deeds_k => k_is))
    (case x_row_move => refine' Rb.fx_mk KX G ?x_row_move_a ?x_row_move_l ?x_row_move_c ?x_row_move_k (fun _ _ _ _ _ _ us hl => match us, hl with | [_, _], _ => rfl); (case x_row_move_a => k_is); (case x_row_move_l => k_is); (case x_row_move_c => k_is); (case x_row_move_k => k_is))
    (case x_led => refine' Rb.fx_mk KX G ?x_led_a ?x_led_l ?x_led_c ?x_led_k (fun _ _ _ _ _ _ us hl => match us, hl with | [_, _, _], _ => rfl); (case x_led_a => k_is); (case x_led_l => k_is); (case x_led_c => k_is); (case x_led_k => k_is))
    (case x_move_of => refine' Rb.fx_mk KX G ?x_move_of_a ?x_move_of_l ?x_move_of_c ?x_move_of_k (fun _ _ _ _ _ _ us hl => match us, hl with | [_, _], _ => rfl); (case x_move_of_a => k_is); (case x_move_of_l => k_is); (case x_move_of_c => k_is); (case x_move_of_k => k_is))
    (case x_order => refine' Rb.fx_mk KX G ?x_order_a ?x_order_l ?x_order_c ?x_order_k (fun _ _ _ _ _ _ us hl => match us, hl with | [_, _], _ => rfl); (case x_order_a => k_is); (case x_order_l => k_is); (case x_order_c => k_is); (case x_order_k => k_is))
    (case x_beside => refine' Rb.fx_mk KX G ?x_beside_a ?x_beside_l ?x_beside_c ?x_beside_k (fun _ _ _ _ _ _ us hl => match us, hl with | [_, _], _ => rfl); (case x_beside_a => k_is); (case x_beside_l => k_is); (case x_beside_c => k_is); (case x_beside_k => k_is))
    (case x__law_pot => refine' Rb.fx_mk KX G ?x__law_pot_a ?x__law_pot_l ?x__law_pot_c ?x__law_pot_k (fun _ _ _ _ _ _ us hl => match us, hl with | [_], _ => rfl); (case x__law_pot_a => k_is); (case x__law_pot_l => k_is); (case x__law_pot_c => k_is); (case x__law_pot_k => k_is))
    (case x__law_draw => refine' Rb.fx_mk KX G ?x__law_draw_a ?x__law_draw_l ?x__law_draw_c ?x__law_draw_k (fun _ _ _ _ _ _ us hl => match us, hl with | [_, _], _ => rfl); (case x__law_draw_a => k_is); (case x__law_draw_l => k_is); (case x__law_draw_c => k_is); (case x__law_draw_k => k_is))
    (case x__law_any => refine' Rb.fx_mk KX G ?x__law_any_a ?x__law_any_l ?x__law_any_c ?x__law_any_k (fun _ _ _ _ _ _ us hl => match us, hl with | [_, _], _ => rfl); (case x__law_any_a => k_is); (case x__law_any_l => k_is); (case x__law_any_c => k_is); (case x__law_any_k => k_is))
    (case x__law_deeds => refine' Rb.fx_mk KX G ?x__law_deeds_a ?x__law_deeds_l ?x__law_deeds_c ?x__law_deeds_k (fun _ _ _ _ _ _ us hl => match us, hl with | [_, _], _ => rfl); (case x__law_deeds_a => k_is); (case x__law_deeds_l => k_is); (case x__law_deeds_c => k_is); (case x__law_deeds_k => k_is))
    (case x__law_letters => refine' Rb.fx_mk KX G ?x__law_letters_a ?x__law_letters_l ?x__law_letters_c ?x__law_letters_k (fun _ _ _ _ _ _ us hl => match us, hl with | [_], _ => rfl); (case x__law_letters_a => k_is); (case x__law_letters_l => k_is); (case x__law_letters_c => k_is); (case x__law_letters_k => k_is))
    (case x__law_row => refine' Rb.fx_mk KX G ?x__law_row_a ?x__law_row_l ?x__law_row_c ?x__law_row_k (fun _ _ _ _ _ _ us hl => match us, hl with | [_, _, _], _ => rfl); (case x__law_row_a => k_is); (case x__law_row_l => k_is); (case x__law_row_c => k_is); (case x__law_row_k => k_is))
    (case x__law_mixed => refine' Rb.fx_mk KX G ?x__law_mixed_a ?x__law_mixed_l ?x__law_mixed_c ?x__law_mixed_k (fun _ _ _ _ _ _ us hl => match us, hl with | [_, _], _ => rfl); (case x__law_mixed_a => k_is); (case x__law_mixed_l => k_is); (case x__law_mixed_c => k_is); (case x__law_mixed_k => k_is))
    (case x__law_moves => refine' Rb.fx_mk KX G ?x__law_moves_a ?x__law_moves_l ?x__law_moves_c ?x__law_moves_k (fun _ _ _ _ _ _ us hl => match us, hl with | [_, _, _], _ => rfl); (case x__law_moves_a => k_is); (case x__law_moves_l => k_is); (case x__law_moves_c => k_is); (case x__law_moves_k => k_is))
    (case x__law_step => refine' Rb.fx_mk KX G ?x__law_step_a ?x__law_step_l ?x__law_step_c ?x__law_step_k (fun _ _ _ _ _ _ us hl => match us, hl with | [_, _, _], _ => rfl); (case x__law_step_a => k_is); (case x__law_step_l => k_is); (case x__law_step_c => k_is); (case x__law_step_k => k_is))
    (case x__law_led => refine' Rb.fx_mk KX G ?x__law_led_a ?x__law_led_l ?x__law_led_c ?x__law_led_k (fun _ _ _ _ _ _ us hl => match us, hl with | [_, _, _], _ => rfl); (case x__law_led_a => k_is); (case x__law_led_l => k_is); (case x__law_led_c => k_is); (case x__law_led_k => k_is))
    (case x__law_pairs => refine' Rb.fx_mk KX G ?x__law_pairs_a ?x__law_pairs_l ?x__law_pairs_c ?x__law_pairs_k (fun _ _ _ _ _ _ us hl => match us, hl with | [_, _, _], _ => rfl); (case x__law_pairs_a => k_is); (case x__law_pairs_l => k_is); (case x__law_pairs_c => k_is); (case x__law_pairs_k => k_is))
    (case x__law_asked => refine' Rb.fx_mk KX G ?x__law_asked_a ?x__law_asked_l ?x__law_asked_c ?x__law_asked_k (fun _ _ _ _ _ _ us hl => match us, hl with | [_, _], _ => rfl); (case x__law_asked_a => k_is); (case x__law_asked_l => k_is); (case x__law_asked_c => k_is); (case x__law_asked_k => k_is))
    (case x__law_least => refine' Rb.fx_mk KX G ?x__law_least_a ?x__law_least_l ?x__law_least_c ?x__law_least_k (fun _ _ _ _ _ _ us hl => match us, hl with | [_, _], _ => rfl); (case x__law_least_a => k_is); (case x__law_least_l => k_is); (case x__law_least_c => k_is); (case x__law_least_k => k_is))

