/- It is proved here that the law FnExactDiffDo of the given program holds whatever it is handed: the walks through the code, the plain laws and the row, in this order.
   Conditions: none. -/
import Derived.Below
import Derived.ChangeArms
import Derived.ChangeOld
import Derived.ChangeSlices
import Derived.DataReads
import Derived.Deep.MidRow
import Derived.Deep.Quiet
import Derived.Deep.RegionLaw
import Derived.Deep.Upon
import Derived.KernelRfl
import Derived.Laws.Build
import Derived.Laws.IdiomStrings
import Derived.Laws.OwnMore
import Derived.Laws.Slices
import Derived.Laws.StructEq
import Derived.Lib.SliceRun
import Derived.OpenShut
import Derived.ProofKit
import Derived.Shelf.SlSortCmp.NoneTotal
import Derived.Shelf.SlSortCmp.WholeK
import Derived.Shelf.Slices.Cells
import Derived.Shelf.Slices.CompactS
import Derived.Shelf.Slices.In.SortNone
import Derived.Shelf.Small.Bits
import Derived.Shelf.Sort.Plain
import Derived.Shelf.Strconv.Itoa0
import Derived.ShutString
import Derived.SizedLaws
import Derived.StillTail
import Derived.Test.YtndjggncgpjolaaGreatProg
import Derived.Test.YtndjggncgpjolaaGreatRows
import Derived.WalkKit
namespace Go.Proofs.YtndjggncgpjolaaGreat
set_option linter.unusedVariables false
set_option linter.unusedSimpArgs false
set_option linter.unusedSectionVars false
set_option maxHeartbeats 8000000
set_option maxRecDepth 100000
section
open Go.RowKit

theorem beq_ne {a b : Nat} (h : a ≠ b) : Nat.beq a b = false := by
  cases e : Nat.beq a b with
  | false => rfl
  | true => exact absurd (Nat.eq_of_beq_eq_true e) h
theorem blt_lt {a b : Nat} (h : a < b) : Nat.blt a b = true := Nat.ble_eq_true_of_le h
theorem blt_ge {a b : Nat} (h : ¬ a < b) : Nat.blt a b = false := by
  cases e : Nat.blt a b with
  | false => rfl
  | true => exact absurd (Nat.le_of_ble_eq_true e) h
theorem lt_blt {a b : Nat} (h : Nat.blt a b = true) : a < b := Nat.le_of_ble_eq_true h
abbrev Tm := Nat → Value
def upd (d : Nat) (v : Value) (t : Tm) : Tm := fun i => bif Nat.beq i d then v else t i
def acts (n : Nat) (t : Tm) : Act := ⟨((List.range n).map t).toArray, []⟩
def evt (n : Nat) (t : Tm) : Operand → Value
  | .tmp i => bif Nat.blt i n then t i else undef
  | .const v => v
  | .global g => .pointer (some ⟨g, 0, none⟩)
  | .func f => .func (.func f) #[] #[]
def putd (d : Option Nat) (v : Value) (t : Tm) : Tm := match d with | some d => upd d v t | none => t

theorem acts_eval (n : Nat) (t : Tm) (x : Operand) : (acts n t).eval x = evt n t x := by
  cases x with
  | tmp i =>
    simp only [Act.eval, acts, evt, Array.getD_eq_getD_getElem?, List.getElem?_toArray, List.getElem?_map]
    by_cases h : i < n
    · rw [List.getElem?_range h, blt_lt h]; rfl
    · rw [List.getElem?_eq_none (by simpa using h), blt_ge h]; rfl
  | _ => rfl

theorem acts_evalf (n : Nat) (t : Tm) : (acts n t).eval = evt n t := funext (acts_eval n t)

theorem acts_put (n : Nat) (t : Tm) (d : Option Nat) (v : Value) : (acts n t).put d v = acts n (putd d v t) := by
  cases d with
  | none => rfl
  | some d =>
    simp only [Act.put, acts, putd]
    congr 1
    apply Array.ext_getElem?
    intro i
    simp only [Array.getElem?_setIfInBounds, List.getElem?_toArray, List.getElem?_map, List.size_toArray, List.length_map, List.length_range]
    by_cases h : i < n
    · rw [List.getElem?_range h]
      by_cases e : d = i
      · subst e; simp [h, upd]
      · have : Nat.beq i d = false := beq_ne (fun x => e x.symm)
        simp [e, upd, this]
    · rw [List.getElem?_eq_none (by simpa using h)]
      by_cases e : d = i
      · subst e; simp [h]
      · simp [e]

theorem acts_get (n : Nat) (t : Tm) (d : Nat) (h : Nat.blt d n = true) : (acts n t).tmps[d]? = some (t d) := by
  have h : d < n := lt_blt h
  simp [acts, List.getElem?_range h]

def argt (args : List Value) : Tm := fun i => args.getD i undef
theorem acts_enter (args : List Value) (n : Nat) (h : args.length ≤ n) :
    ({ tmps := args.toArray ++ Array.replicate (n - args.toArray.size) undef, defers := [] } : Act) = acts n (argt args) := by
  simp only [acts]
  congr 1
  apply Array.ext_getElem?
  intro i
  simp only [List.getElem?_toArray, List.getElem?_map, Array.getElem?_append, List.size_toArray, Array.getElem?_replicate]
  by_cases hi : i < n
  · rw [List.getElem?_range hi]
    by_cases ha : i < args.length
    · simp [ha, argt]
    · simp [ha, argt]; omega
  · have e1 : (List.range n)[i]? = none := List.getElem?_eq_none (by simp only [List.length_range]; omega)
    have : ¬ i < args.length := by omega
    simp only [this, if_false, e1, Option.map_none]
    rw [if_neg (by omega)]

abbrev Ps := Tm → World → Prop
def post (n : Nat) (N R : Ps) (X : Nat → Ps) : Exit → Act → World → Prop
  | .normal, a, w => ∃ t, a = acts n t ∧ N t w
  | .ret, a, w => ∃ t, a = acts n t ∧ R t w
  | .exit i, a, w => ∃ t, a = acts n t ∧ X i t w
  | _, _, _ => False
def W (P : Program) (n : Nat) (c : Code) (N R : Ps) (X : Nat → Ps) (t : Tm) (w : World) : Prop := c.wp P (post n N R X) (acts n t) w

section
variable {P : Program} {n : Nat} {N R : Ps} {X : Nat → Ps} {t : Tm} {w : World}
theorem W.mono {c : Code} {N' R' : Ps} {X' : Nat → Ps} (h : W P n c N R X t w) (hN : ∀ t w, N t w → N' t w) (hR : ∀ t w, R t w → R' t w) (hX : ∀ i t w, X i t w → X' i t w) : W P n c N' R' X' t w :=
  wp_mono h fun e a w h => by
    cases e <;> simp only [post] at h ⊢
    · obtain ⟨t, e, h⟩ := h; exact ⟨t, e, hN _ _ h⟩
    · obtain ⟨t, e, h⟩ := h; exact ⟨t, e, hX _ _ _ h⟩
    · obtain ⟨t, e, h⟩ := h; exact ⟨t, e, hR _ _ h⟩

theorem W_seq {x y : Code} (h : W P n x (fun t w => W P n y N R X t w) R X t w) : W P n (.seq x y) N R X t w :=
  wp_seq (wp_mono h fun e a w h => by
    cases e <;> simp only [post] at h <;> simp only [Exit.then, post]
    · obtain ⟨t, rfl, h⟩ := h; exact h
    · exact h
    · exact h)
theorem W_skip (h : N t w) : W P n .skip N R X t w := wp_skip ⟨t, rfl, h⟩
theorem W_ret (h : R t w) : W P n .ret N R X t w := wp_ret ⟨t, rfl, h⟩
theorem W_exit {i : Nat} (h : X i t w) : W P n (.exit i) N R X t w := wp_exit ⟨t, rfl, h⟩
def xin (i : Nat) (N : Ps) (X : Nat → Ps) : Nat → Ps := fun j => bif Nat.beq j i then N else X j
theorem W_block {i : Nat} {c : Code} (h : W P n c N R (xin i N X) t w) : W P n (.block i c) N R X t w :=
  wp_block (wp_mono h fun e a w h => by
    cases e <;> simp only [post] at h <;> simp only [Exit.inBlock, post]
    · exact h
    · rename_i j
      obtain ⟨t, rfl, h⟩ := h
      by_cases e : j = i
      · subst e; simp only [xin, Nat.beq_refl, cond_true] at h; simp only [↓reduceIte]; exact ⟨t, rfl, h⟩
      · have : Nat.beq j i = false := beq_ne e
        simp only [xin, this, cond_false] at h; simp only [if_neg e]; exact ⟨t, rfl, h⟩
    · exact h)
theorem W_cond {c : Operand} {x y : Code} (b : Bool) (hc : evt n t c = .bool b) (ht : b = true → W P n x N R X t w) (hf : b = false → W P n y N R X t w) : W P n (.cond c x y) N R X t w :=
  wp_cond_split (t := b) (by rw [acts_eval]; exact hc) ht hf
theorem W_loop {c : Code} {α : Type} (J : α → Ps) (μ : α → Nat) (s0 : α) (h0 : J s0 t w)
    (hs : ∀ s t w, J s t w → W P n c (fun t w => ∃ s', μ s' < μ s ∧ J s' t w) R X t w) : W P n (.loop c) N R X t w := by
  intro b k cs
  have key : ∀ m s t w, μ s = m → J s t w → ∃ e a' w', post n N R X e a' w' ∧ Arrives P (lone (b.at (acts n t) (.code c :: .inLoop c :: k)) cs w) b k cs e a' w' := by
    intro m
    induction m using Nat.strongRecOn with
    | _ m ih =>
      intro s t w hm hJ
      obtain ⟨e, a₁, w₁, hq, harr⟩ := hs s t w hJ b (.inLoop c :: k) cs
      cases e with
      | normal =>
        obtain ⟨t₁, rfl, s₁, hlt, hJ₁⟩ := hq
        obtain ⟨e₂, a₂, w₂, hq₂, harr₂⟩ := ih (μ s₁) (hm ▸ hlt) s₁ t₁ w₁ rfl hJ₁
        exact ⟨e₂, a₂, w₂, hq₂, .of_steps (Steps.trans harr (.one step_inLoop)) harr₂⟩
      | exit id => exact ⟨.exit id, a₁, w₁, hq, .pass (x := .inLoop c) rfl (fun _ _ => .inl (by simp)) harr⟩
      | goto l => exact hq.elim
      | ret => exact ⟨.ret, a₁, w₁, hq, .pass (x := .inLoop c) rfl (fun _ _ => .inl (by simp)) harr⟩
      | panic ch => exact hq.elim
      | outgrown => exact hq.elim
  obtain ⟨e, a', w', hq, harr⟩ := key _ s0 t w rfl h0
  exact ⟨e, a', w', hq, .of_steps (.one step_loop) harr⟩

def L (P : Program) (n : Nat) (ops : Array Oper) (N R : Ps) (X : Nat → Ps) (l : List Oper) (t : Tm) (w : World) : Prop := wpList P ops (post n N R X) l (acts n t) w
variable {ops : Array Oper} {rest : List Oper} {ty : TypeId} {pos : String} {aft : Array Edge} {d : Nat}
theorem W_reg {i : Nat} {l : List Oper} (h : L P n l.toArray N R X l t w) : W P n (.region i l.toArray false) N R X t w := wp_region_lit h
theorem L_nil (h : N t w) : L P n ops N R X [] t w := wpList_nil ⟨t, rfl, h⟩
theorem L_op {o : Oper} (hg : o.guard = none) (v : Value) (w' : World) (h : (execOp (evt n t) o).run P w = .ok (.value v) w') (k : L P n ops N R X rest (putd o.dst v t) w') : L P n ops N R X (o :: rest) t w :=
  wpList_plain hg fun K hK => by
    unfold Oper.wp
    rw [acts_evalf, h, Oper.upon_value, acts_put]
    exact hK _ _ k
theorem L_ou {o : Oper} (hg : o.guard = none) (w' : World) (h : (execOp (evt n t) o).run P w = .ok .skip w') (k : L P n ops N R X rest (putd o.dst undef t) w') : L P n ops N R X (o :: rest) t w :=
  wpList_plain hg fun K hK => by
    unfold Oper.wp
    rw [acts_evalf, h, Oper.upon_skip, acts_put]
    exact hK _ _ k
theorem L_run {o : Option Nat} {op : Op} {j : Nat} {b : Bool} {dj : Nat} (hj : (ops[j]?).bind (·.dst) = some dj) (hn : Nat.blt dj n = true) (hv : t dj = .bool b)
    (k : L P n ops N R X (⟨o, op, ty, pos, aft, none⟩ :: rest) t w) : L P n ops N R X (⟨o, op, ty, pos, aft, some (j, b)⟩ :: rest) t w := by
  have hw : Region.wanted ⟨o, op, ty, pos, aft, some (j, b)⟩ (yielded ops (acts n t).tmps) = true := by
    simp only [Region.wanted, yielded, hj, Option.bind_some, acts_get n t dj hn, hv, beq_self_eq_true]
  unfold L wpList at k ⊢
  rw [if_pos hw]
  simpa [Region.wanted, Oper.wp, Oper.asks, execOp, Oper.upon] using k
theorem L_pass {o : Option Nat} {op : Op} {j : Nat} {b : Bool} {dj : Nat} (hj : (ops[j]?).bind (·.dst) = some dj) (hn : Nat.blt dj n = true) (hv : t dj = .bool (!b) ∨ t dj = undef)
    (k : L P n ops N R X rest (putd o undef t) w) : L P n ops N R X (⟨o, op, ty, pos, aft, some (j, b)⟩ :: rest) t w := by
  have hw : Region.wanted ⟨o, op, ty, pos, aft, some (j, b)⟩ (yielded ops (acts n t).tmps) = false := by
    simp only [Region.wanted, yielded, hj, Option.bind_some, acts_get n t dj hn]
    rcases hv with hv | hv <;> rw [hv]
    · cases b <;> rfl
    · rfl
  unfold L at k ⊢
  unfold wpList
  rw [if_neg (by rw [hw]; simp), acts_put]
  exact k
def Pu (P : Program) (n : Nat) (t : Tm) (C : World → Prop) (o : Oper) (v : Value) : Prop := ∀ w, C w → (execOp (evt n t) o).run P w = .ok (.value v) w
theorem L_pu {o : Option Nat} {op : Op} {v : Value} (h : Pu P n t (fun x => x = w) ⟨o, op, ty, pos, aft, none⟩ v) (k : L P n ops N R X rest (putd o v t) w) : L P n ops N R X (⟨o, op, ty, pos, aft, none⟩ :: rest) t w :=
  L_op rfl v w (h w rfl) k
def Lq (P : Program) (n : Nat) (ops : Array Oper) (C : World → Prop) (N : Ps) (l : List Oper) (t : Tm) : Prop := wpQuiet P ops C (fun a => ∀ w', C w' → ∃ t, a = acts n t ∧ N t w') l (acts n t)
theorem W_draw {i : Nat} {l : List Oper} (C : World → Prop) (hm : P.follows .mixedOrders = true) (hB : Region.lexB .any l.toArray = true) (hC : C { w with drawn := w.drawn + 1 })
    (h : Lq P n l.toArray C N l t) : W P n (.region i l.toArray true) N R X t w :=
  wp_region_quiet hm hB hC (by
    have : (fun a' : Act => ∀ w', C w' → ∃ t, a' = acts n t ∧ N t w') = fun a' => ∀ w', C w' → post n N R X .normal a' w' := rfl
    rw [← this]
    simpa [Lq] using h)
theorem Q_nil {C : World → Prop} (h : ∀ w', C w' → N t w') : Lq P n ops C N [] t := fun w' hw => ⟨t, rfl, h w' hw⟩
theorem Q_pu {C : World → Prop} {o : Option Nat} {op : Op} {v : Value} (h : Pu P n t C ⟨o, op, ty, pos, aft, none⟩ v) (k : Lq P n ops C N rest (putd o v t)) : Lq P n ops C N (⟨o, op, ty, pos, aft, none⟩ :: rest) t := by
  unfold Lq wpQuiet
  rw [if_pos (by simp [Region.wanted])]
  refine ⟨v, fun w hw => ?_, by rw [acts_put]; exact k⟩
  unfold Oper.quietAt
  rw [acts_evalf, h w hw]
  exact ⟨rfl, rfl⟩
theorem Q_run {C : World → Prop} {o : Option Nat} {op : Op} {j : Nat} {b : Bool} {dj : Nat} (hj : (ops[j]?).bind (·.dst) = some dj) (hn : Nat.blt dj n = true) (hv : t dj = .bool b)
    (k : Lq P n ops C N (⟨o, op, ty, pos, aft, none⟩ :: rest) t) : Lq P n ops C N (⟨o, op, ty, pos, aft, some (j, b)⟩ :: rest) t := by
  have hw : Region.wanted ⟨o, op, ty, pos, aft, some (j, b)⟩ (yielded ops (acts n t).tmps) = true := by
    simp only [Region.wanted, yielded, hj, Option.bind_some, acts_get n t dj hn, hv, beq_self_eq_true]
  unfold Lq wpQuiet at k ⊢
  rw [if_pos hw]
  rw [if_pos (by simp [Region.wanted])] at k
  obtain ⟨v, h1, h2⟩ := k
  exact ⟨v, h1, h2⟩
theorem Q_pass {C : World → Prop} {o : Option Nat} {op : Op} {j : Nat} {b : Bool} {dj : Nat} (hj : (ops[j]?).bind (·.dst) = some dj) (hn : Nat.blt dj n = true) (hv : t dj = .bool (!b) ∨ t dj = undef)
    (k : Lq P n ops C N rest (putd o undef t)) : Lq P n ops C N (⟨o, op, ty, pos, aft, some (j, b)⟩ :: rest) t := by
  have hw : Region.wanted ⟨o, op, ty, pos, aft, some (j, b)⟩ (yielded ops (acts n t).tmps) = false := by
    simp only [Region.wanted, yielded, hj, Option.bind_some, acts_get n t dj hn]
    rcases hv with hv | hv <;> rw [hv]
    · cases b <;> rfl
    · rfl
  unfold Lq wpQuiet
  rw [if_neg (by rw [hw]; simp), acts_put]
  exact k
end
attribute [irreducible] W L Lq
end
section
open Go.RowKit
abbrev Str := List UInt8
abbrev vs (l : Str) : Value := .string ⟨l.toArray⟩
abbrev vi (x : Int) : Value := .int .i64 x
abbrev vb (x : Bool) : Value := .bool x
abbrev v8 (x : UInt8) : Value := .int .u8 (x.toNat : Int)
def I64 (x : Int) : Prop := -9223372036854775808 ≤ x ∧ x ≤ 9223372036854775807
theorem I64.wrap {x : Int} (h : I64 x) : IntKind.i64.wrap x = x := by rw [IntKind.wrap_i64]; unfold I64 at h; omega

section
variable {P : Program} {n : Nat} {N R : Ps} {X : Nat → Ps} {t : Tm} {w : World} {ops : Array Oper} {rest : List Oper} {ty : TypeId} {pos : String} {aft : Array Edge} {d : Nat} {x y z : Operand} {C : World → Prop}

theorem P_move (v : Value) (h : evt n t x = v) : Pu P n t C ⟨some d, .move x, ty, pos, aft, none⟩ v := fun w hw =>
  (by simp only [execOp, h]; rfl)
theorem P_assign (v : Value) (h : evt n t x = v) : Pu P n t C ⟨some d, .assign x, ty, pos, aft, none⟩ v := fun w hw =>
  (by simp only [execOp, h]; rfl)
theorem P_pick (b : Bool) (v : Value) (hc : evt n t x = .bool b) (hv : (bif b then evt n t y else evt n t z) = v) : Pu P n t C ⟨some d, .pick x y z, ty, pos, aft, none⟩ v := fun w hw =>
  (by subst hv; cases b <;> simp [execOp, hc, asBool])
theorem P_len {T : TypeId} {e : TypeId} (hu : P.underlying T = some (.slice e)) (A : Option Addr) (m c : Nat) {l : Nat} (hm : m = l) (h : evt n t x = .slice A m c) : Pu P n t C ⟨some d, .call ⟨.builtin .len, #[x], #[T]⟩, ty, pos, aft, none⟩ (vi (l : Int)) := fun w hw =>
  (by subst hm; simp [execOp, resolve, h, invoke, builtin, Builtin.len_, run_underlying hu, goInt])
theorem size_ofL (s : Str) : (⟨s.toArray⟩ : ByteArray).size = s.length := by
  show s.toArray.size = s.length
  simp
theorem P_lens {T : TypeId} (hu : P.underlying T = some .string) (s : Str) (h : evt n t x = vs s) : Pu P n t C ⟨some d, .call ⟨.builtin .len, #[x], #[T]⟩, ty, pos, aft, none⟩ (vi (s.length : Int)) := fun w hw =>
  (by simp [execOp, resolve, h, invoke, builtin, Builtin.len_, run_underlying hu, goInt, size_ofL])

def icmp : BinOp → Int → Int → Option Bool
  | .eql, a, b => some (a == b)
  | .neq, a, b => some (a != b)
  | .lss, a, b => some (decide (a < b))
  | .leq, a, b => some (decide (a ≤ b))
  | .gtr, a, b => some (decide (a > b))
  | .geq, a, b => some (decide (a ≥ b))
  | _, _, _ => none
theorem P_cmp {op : BinOp} {T T' : TypeId} {kd : IntKind} (a b : Int) (r : Bool) (hx : evt n t x = .int kd a) (hy : evt n t y = .int kd b) (hr : icmp op a b = some r) : Pu P n t C ⟨some d, .binOp op T x y T', ty, pos, aft, none⟩ (vb r) := fun w hw =>
  (by
    cases op <;> simp only [icmp, Option.some.injEq, reduceCtorEq] at hr <;> subst hr <;>
      simp [execOp, hx, hy, eqGuard, binOp, Op.intCmp])
theorem P_add {T T' : TypeId} (a b : Int) (hx : evt n t x = vi a) (hy : evt n t y = vi b) (hr : I64 (a + b)) : Pu P n t C ⟨some d, .binOp .add T x y T', ty, pos, aft, none⟩ (vi (a + b)) := fun w hw =>
  (by simp [execOp, hx, hy, eqGuard, binOp, Op.intArith, hr.wrap])
theorem P_sub {T T' : TypeId} (a b : Int) (hx : evt n t x = vi a) (hy : evt n t y = vi b) (hr : I64 (a - b)) : Pu P n t C ⟨some d, .binOp .sub T x y T', ty, pos, aft, none⟩ (vi (a - b)) := fun w hw =>
  (by simp [execOp, hx, hy, eqGuard, binOp, Op.intArith, hr.wrap])
theorem P_quo {T T' : TypeId} (a b : Int) (hx : evt n t x = vi a) (hy : evt n t y = vi b) (hr : (0 ≤ a ∧ a ≤ 9223372036854775807) ∧ 0 < b) : Pu P n t C ⟨some d, .binOp .quo T x y T', ty, pos, aft, none⟩ (vi (a / b)) := fun w hw =>
  (by
    have h0 : b ≠ 0 := by omega
    have hq : a.tdiv b = a / b := Int.tdiv_eq_ediv_of_nonneg hr.1.1
    have hw : I64 (a / b) := ⟨by have := Int.ediv_nonneg hr.1.1 (Int.le_of_lt hr.2); omega, by have := Int.ediv_le_self b hr.1.1; omega⟩
    simp [execOp, hx, hy, eqGuard, binOp, Op.intDiv, h0, hq, hw.wrap])
theorem P_rem {T T' : TypeId} (a b : Int) (hx : evt n t x = vi a) (hy : evt n t y = vi b) (hr : 0 ≤ a ∧ 0 < b) : Pu P n t C ⟨some d, .binOp .rem T x y T', ty, pos, aft, none⟩ (vi (a % b)) := fun w hw =>
  (by
    have h0 : b ≠ 0 := by omega
    have hq : a.tmod b = a % b := Int.tmod_eq_emod_of_nonneg hr.1
    simp [execOp, hx, hy, eqGuard, binOp, Op.intDiv, h0, hq])
def scmp : BinOp → Str → Str → Option Bool
  | .eql, a, b => some (a == b)
  | .neq, a, b => some (a != b)
  | .lss, a, b => some (Op.bytesLess a b)
  | .leq, a, b => some (Op.bytesLess a b || a == b)
  | .gtr, a, b => some (!(Op.bytesLess a b || a == b))
  | .geq, a, b => some (!(Op.bytesLess a b))
  | _, _, _ => none
theorem P_scmp {op : BinOp} {T T' : TypeId} (a b : Str) (r : Bool) (hx : evt n t x = vs a) (hy : evt n t y = vs b) (hr : scmp op a b = some r) : Pu P n t C ⟨some d, .binOp op T x y T', ty, pos, aft, none⟩ (vb r) := fun w hw =>
  (by
    cases op <;> simp only [scmp, Option.some.injEq, reduceCtorEq] at hr <;> subst hr <;>
      simp [execOp, hx, hy, eqGuard, binOp, Op.stringOp, bne])
theorem P_cat {T T' : TypeId} (a b : Str) (hx : evt n t x = vs a) (hy : evt n t y = vs b) (hr : a.length + b.length ≤ 9223372036854775807) : Pu P n t C ⟨some d, .binOp .add T x y T', ty, pos, aft, none⟩ (vs (a ++ b)) := fun w hw =>
  (by
    have : ByteArray.size ⟨a.toArray⟩ + ByteArray.size ⟨b.toArray⟩ ≤ 9223372036854775807 := by rw [size_ofL, size_ofL]; exact hr
    simp [execOp, hx, hy, eqGuard, binOp, run_string_add_sum w _ _ this, ByteArray.mk_append_mk])
def bcmp : BinOp → Bool → Bool → Option Bool
  | .eql, a, b => some (a == b)
  | .neq, a, b => some (a != b)
  | _, _, _ => none
theorem P_bcmp {op : BinOp} {T T' : TypeId} (hu : P.underlying T = some .bool) (a b : Bool) (r : Bool) (hx : evt n t x = vb a) (hy : evt n t y = vb b) (hr : bcmp op a b = some r) : Pu P n t C ⟨some d, .binOp op T x y T', ty, pos, aft, none⟩ (vb r) := fun w hw =>
  (by
    cases op <;> simp only [bcmp, Option.some.injEq, reduceCtorEq] at hr <;> subst hr <;>
      simp [execOp, hx, hy, eqGuard, binOp, Op.equal, Op.maxDepth, run_equalIn_bool' w _ T a b hu, bne])
theorem P_not {T : TypeId} (a : Bool) (hx : evt n t x = vb a) : Pu P n t C ⟨some d, .unOp .not T x, ty, pos, aft, none⟩ (vb (!a)) := fun w hw =>
  (by simp [execOp, hx, Op.unary])
theorem P_index {T : TypeId} {kd : IntKind} (hu : P.underlying T = some .string) (s : Str) (i : Int) (hx : evt n t x = vs s) (hy : evt n t y = .int kd i) (h0 : 0 ≤ i ∧ i < s.length) : Pu P n t C ⟨some d, .index T x y, ty, pos, aft, none⟩ (v8 (s.getD i.toNat 0)) := fun w hw =>
  (by
    have hl : i.toNat < s.length := by omega
    have : (⟨s.toArray⟩ : ByteArray)[i.toNat]? = some (s.getD i.toNat 0) := by
      rw [ByteArray.getElem?_lt' _ _ (by rw [size_ofL]; exact hl)]
      simp [ByteArray.getElem_eq_getElem_data, hl]
    simp [execOp, hx, hy, Instr.index, asIntOf, run_underlying hu, h0.1, this])
theorem P_ext (vs : List Value) (i : Nat) (v : Value) (hx : evt n t x = .tuple vs.toArray) (hv : vs[i]? = some v) : Pu P n t C ⟨some d, .extract x i, ty, pos, aft, none⟩ v := fun w hw =>
  (by simp [execOp, hx, Instr.extract, hv])
theorem P_func {g : FuncId} {cap : Array Operand} (c : List Value) (h0 : cap.toList.map (evt n t) = c) : Pu P n t C ⟨some d, .makeFunc (.func g) #[] cap, ty, pos, aft, none⟩ (.func (.func g) #[] c.toArray) := fun w hw =>
  (by have h : cap.map (evt n t) = c.toArray := by rw [← h0]; apply Array.ext'; simp
      simp [execOp, Instr.makeFunc, h])
end
section
variable {P : Program} {n : Nat} {N R : Ps} {X : Nat → Ps} {t : Tm} {w : World} {ops : Array Oper} {rest : List Oper} {ty : TypeId} {pos : String} {aft : Array Edge} {d : Nat} {x : Operand} {C : World → Prop} {o : Option Nat} {op : Op} {j dj : Nat} {b c : Bool}
theorem L_mv (v : Value) (h : evt n t x = v) (k : L P n ops N R X rest (upd d v t) w) : L P n ops N R X (⟨some d, .move x, ty, pos, aft, none⟩ :: rest) t w := L_pu (P_move v h) k
theorem L_as (v : Value) (h : evt n t x = v) (k : L P n ops N R X rest (upd d v t) w) : L P n ops N R X (⟨some d, .assign x, ty, pos, aft, none⟩ :: rest) t w := L_pu (P_assign v h) k
theorem Q_mv (v : Value) (h : evt n t x = v) (k : Lq P n ops C N rest (upd d v t)) : Lq P n ops C N (⟨some d, .move x, ty, pos, aft, none⟩ :: rest) t := Q_pu (P_move v h) k
theorem Q_as (v : Value) (h : evt n t x = v) (k : Lq P n ops C N rest (upd d v t)) : Lq P n ops C N (⟨some d, .assign x, ty, pos, aft, none⟩ :: rest) t := Q_pu (P_assign v h) k
theorem L_rb (e : c = b) (h : ((ops[j]?).bind (·.dst), Nat.blt dj n, t dj) = (some dj, true, Value.bool c))
    (k : L P n ops N R X (⟨o, op, ty, pos, aft, none⟩ :: rest) t w) : L P n ops N R X (⟨o, op, ty, pos, aft, some (j, b)⟩ :: rest) t w := by
  simp only [Prod.mk.injEq] at h
  exact L_run h.1 h.2.1 (h.2.2.trans (congrArg _ e)) k
theorem Q_rb (e : c = b) (h : ((ops[j]?).bind (·.dst), Nat.blt dj n, t dj) = (some dj, true, Value.bool c))
    (k : Lq P n ops C N (⟨o, op, ty, pos, aft, none⟩ :: rest) t) : Lq P n ops C N (⟨o, op, ty, pos, aft, some (j, b)⟩ :: rest) t := by
  simp only [Prod.mk.injEq] at h
  exact Q_run h.1 h.2.1 (h.2.2.trans (congrArg _ e)) k
theorem L_pb (e : c = !b) (h : ((ops[j]?).bind (·.dst), Nat.blt dj n, t dj) = (some dj, true, Value.bool c))
    (k : L P n ops N R X rest (putd o undef t) w) : L P n ops N R X (⟨o, op, ty, pos, aft, some (j, b)⟩ :: rest) t w := by
  simp only [Prod.mk.injEq] at h
  exact L_pass h.1 h.2.1 (.inl (h.2.2.trans (congrArg _ e))) k
theorem Q_pb (e : c = !b) (h : ((ops[j]?).bind (·.dst), Nat.blt dj n, t dj) = (some dj, true, Value.bool c))
    (k : Lq P n ops C N rest (putd o undef t)) : Lq P n ops C N (⟨o, op, ty, pos, aft, some (j, b)⟩ :: rest) t := by
  simp only [Prod.mk.injEq] at h
  exact Q_pass h.1 h.2.1 (.inl (h.2.2.trans (congrArg _ e))) k
theorem L_pn (h : ((ops[j]?).bind (·.dst), Nat.blt dj n, t dj) = (some dj, true, undef))
    (k : L P n ops N R X rest (putd o undef t) w) : L P n ops N R X (⟨o, op, ty, pos, aft, some (j, b)⟩ :: rest) t w := by
  simp only [Prod.mk.injEq] at h
  exact L_pass h.1 h.2.1 (.inr h.2.2) k
theorem Q_pn (h : ((ops[j]?).bind (·.dst), Nat.blt dj n, t dj) = (some dj, true, undef))
    (k : Lq P n ops C N rest (putd o undef t)) : Lq P n ops C N (⟨o, op, ty, pos, aft, some (j, b)⟩ :: rest) t := by
  simp only [Prod.mk.injEq] at h
  exact Q_pass h.1 h.2.1 (.inr h.2.2) k
end

end
section
open Go.RowKit

abbrev Sp := Nat → Prop
abbrev Gr (w w' : World) (row : Option Nat) : Prop := w.grownBy w' row
theorem Gr.refl (w : World) (r : Option Nat) : Gr w w r := ⟨rfl, rfl, rfl, Nat.le_refl _, fun _ _ _ => rfl⟩
theorem Gr.trans {a b c : World} {r : Option Nat} (h : Gr a b r) (g : Gr b c r) : Gr a c r :=
  ⟨g.os.trans h.os, g.tape.trans h.tape, g.output.trans h.output, Nat.le_trans h.size g.size, fun k hk hn =>
    (g.block k (Nat.lt_of_lt_of_le hk h.size) hn).trans (h.block k hk hn)⟩
theorem Gr.t0 {a b c : World} (h : Gr a b none) (g : Gr b c none) : Gr a c none := h.trans g
theorem Gr.below {w w' : World} (h : Gr w w' none) : Below w.heap.size w w' := ⟨h.os, h.tape, h.output, h.size, fun k hk => h.block k hk (by simp)⟩
theorem Gr.cell {w w' : World} {r : Option Nat} (h : Gr w w' r) {a : Addr} {v : Value} (hc : w.cell? a = some v) (hn : some a.block ≠ r) : w'.cell? a = some v := World.grownBy.cell h hc hn
theorem Gr.alloc (w : World) (o : Obj) : Gr w (w.alloc o) none := World.grownBy_alloc w o none
theorem Gr.setCell (w : World) (a : Addr) (u : Value) : Gr w (w.setCell a u) (some a.block) :=
  ⟨rfl, rfl, rfl, by simp, fun k _ hk => Below.heap_setCell w a u k (fun e => hk (by rw [e]))⟩
theorem Gr.drew (w : World) : Gr w w.drew none := ⟨rfl, rfl, rfl, Nat.le_refl _, fun _ _ _ => rfl⟩

structure Kd (α : Type) where
  sz : Nat
  R : World → Sp → α → List Value → Prop
  len : ∀ {w S x cs}, R w S x cs → cs.length = sz
  one : ∀ {w S x cs}, R w S x cs → ∀ u ∈ cs, u.oneCell' = true
  keep : ∀ {w w' S x cs}, R w S x cs → (∀ b, S b → b < w.heap.size → w'.heap[b]? = w.heap[b]?) → R w' S x cs
  mono : ∀ {w S S' x cs}, R w S x cs → (∀ b, S b → b < w.heap.size → S' b) → R w S' x cs

theorem Kd.k0 {α : Type} (k : Kd α) {w w' : World} {S : Sp} {x : α} {cs : List Value} (h : k.R w S x cs) (g : Gr w w' none) : k.R w' S x cs :=
  k.keep h fun b _ hb => g.block b hb (by simp)
theorem Kd.k1 {α : Type} (k : Kd α) {w w' : World} {S : Sp} {x : α} {cs : List Value} {r : Option Nat} (h : k.R w S x cs) (g : Gr w w' r) (hr : ∀ b, r = some b → ¬ S b) : k.R w' S x cs :=
  k.keep h fun b hS hb => g.block b hb (fun e => hr b e.symm hS)

def Kd.int (kd : IntKind) : Kd Int where
  sz := 1
  R := fun _ _ x cs => cs = [.int kd x]
  len := fun h => by subst h; rfl
  one := fun h u hu => by subst h; simp at hu; subst hu; rfl
  keep := fun h _ => h
  mono := fun h _ => h
def Kd.byte : Kd UInt8 where
  sz := 1
  R := fun _ _ x cs => cs = [v8 x]
  len := fun h => by subst h; rfl
  one := fun h u hu => by subst h; simp at hu; subst hu; rfl
  keep := fun h _ => h
  mono := fun h _ => h
def Kd.bool : Kd Bool where
  sz := 1
  R := fun _ _ x cs => cs = [vb x]
  len := fun h => by subst h; rfl
  one := fun h u hu => by subst h; simp at hu; subst hu; rfl
  keep := fun h _ => h
  mono := fun h _ => h
def Lim (x : Str) : Prop := x.length ≤ 9223372036854775807
instance (x : Str) : Decidable (Lim x) := inferInstanceAs (Decidable (x.length ≤ 9223372036854775807))
def Kd.str : Kd Str where
  sz := 1
  R := fun _ _ x cs => cs = [vs x] ∧ Lim x
  len := fun h => by rw [h.1]; rfl
  one := fun h u hu => by rw [h.1] at hu; simp at hu; subst hu; rfl
  keep := fun h _ => h
  mono := fun h _ => h
def Kd.pair {α β : Type} (a : Kd α) (b : Kd β) : Kd (α × β) where
  sz := a.sz + b.sz
  R := fun w S x cs => ∃ c1 c2, cs = c1 ++ c2 ∧ a.R w S x.1 c1 ∧ b.R w S x.2 c2
  len := fun ⟨c1, c2, e, h1, h2⟩ => by subst e; simp [a.len h1, b.len h2]
  one := fun ⟨c1, c2, e, h1, h2⟩ u hu => by
    subst e; rcases List.mem_append.1 hu with hu | hu
    · exact a.one h1 u hu
    · exact b.one h2 u hu
  keep := fun ⟨c1, c2, e, h1, h2⟩ g => ⟨c1, c2, e, a.keep h1 g, b.keep h2 g⟩
  mono := fun ⟨c1, c2, e, h1, h2⟩ g => ⟨c1, c2, e, a.mono h1 g, b.mono h2 g⟩
def Kd.iso {α β : Type} (a : Kd α) (f : β → α) : Kd β where
  sz := a.sz
  R := fun w S x cs => a.R w S (f x) cs
  len := a.len
  one := a.one
  keep := a.keep
  mono := a.mono

def Arr {α : Type} (k : Kd α) (w : World) (S : Sp) : List α → List Value → Prop
  | [], cs => cs = []
  | x :: xs, cs => ∃ c1 c2, cs = c1 ++ c2 ∧ k.R w S x c1 ∧ Arr k w S xs c2

section
variable {α : Type} {k : Kd α} {w : World} {S : Sp}
theorem Arr.len : ∀ {xs : List α} {cs : List Value}, Arr k w S xs cs → cs.length = xs.length * k.sz
  | [], cs, h => by simp only [Arr] at h; subst h; simp
  | x :: xs, cs, ⟨c1, c2, e, h1, h2⟩ => by
    subst e; rw [List.length_append, k.len h1, Arr.len h2, List.length_cons, Nat.add_mul, Nat.one_mul, Nat.add_comm]
theorem Arr.keep {w' : World} : ∀ {xs : List α} {cs : List Value}, Arr k w S xs cs → (∀ b, S b → b < w.heap.size → w'.heap[b]? = w.heap[b]?) → Arr k w' S xs cs
  | [], _, h, _ => h
  | _ :: _, _, ⟨c1, c2, e, h1, h2⟩, g => ⟨c1, c2, e, k.keep h1 g, Arr.keep h2 g⟩
theorem Arr.mono {S' : Sp} : ∀ {xs : List α} {cs : List Value}, Arr k w S xs cs → (∀ b, S b → b < w.heap.size → S' b) → Arr k w S' xs cs
  | [], _, h, _ => h
  | _ :: _, _, ⟨c1, c2, e, h1, h2⟩, g => ⟨c1, c2, e, k.mono h1 g, Arr.mono h2 g⟩
theorem Arr.app : ∀ {xs ys : List α} {cs ds : List Value}, Arr k w S xs cs → Arr k w S ys ds → Arr k w S (xs ++ ys) (cs ++ ds)
  | [], _, _, _, h, g => by simp only [Arr] at h; subst h; exact g
  | _ :: _, _, _, ds, ⟨c1, c2, e, h1, h2⟩, g => ⟨c1, c2 ++ ds, by subst e; simp, h1, Arr.app h2 g⟩
theorem Arr.single {x : α} {cs : List Value} (h : k.R w S x cs) : Arr k w S [x] cs := ⟨cs, [], by simp, h, rfl⟩
theorem Arr.drop : ∀ {xs : List α} {cs : List Value} (i : Nat), Arr k w S xs cs → Arr k w S (xs.drop i) (cs.drop (i * k.sz))
  | xs, cs, 0, h => by simpa using h
  | [], cs, i + 1, h => by simp only [Arr] at h; subst h; simp [Arr]
  | x :: xs, cs, i + 1, ⟨c1, c2, e, h1, h2⟩ => by
    subst e
    have := Arr.drop i h2
    rw [List.drop_succ_cons, Nat.add_mul, Nat.one_mul, Nat.add_comm, ← List.drop_drop, show (c1 ++ c2).drop k.sz = c2 by rw [← k.len h1]; simp]
    exact this
theorem Arr.take : ∀ {xs : List α} {cs : List Value} (i : Nat), Arr k w S xs cs → Arr k w S (xs.take i) (cs.take (i * k.sz))
  | xs, cs, 0, h => by simp [Arr]
  | [], cs, i + 1, h => by simp only [Arr] at h; subst h; simp [Arr]
  | x :: xs, cs, i + 1, ⟨c1, c2, e, h1, h2⟩ => by
    subst e
    have := Arr.take i h2
    refine ⟨c1, c2.take (i * k.sz), ?_, h1, this⟩
    rw [Nat.add_mul, Nat.one_mul, Nat.add_comm, ← k.len h1, List.take_append]
    simp [List.take_of_length_le]
theorem Arr.get : ∀ {xs : List α} {cs : List Value} (d : α) (i : Nat), Arr k w S xs cs → i < xs.length → ∃ c, k.R w S (xs.getD i d) c ∧ ∀ j u, c[j]? = some u → cs[i * k.sz + j]? = some u
  | [], _, _, _, _, hi => absurd hi (by simp)
  | x :: xs, cs, d, 0, ⟨c1, c2, e, h1, h2⟩, _ => ⟨c1, h1, fun j u hj => by
      subst e
      rw [Nat.zero_mul, Nat.zero_add, List.getElem?_append_left (by rcases Nat.lt_or_ge j c1.length with h | h; exact h; rw [List.getElem?_eq_none h] at hj; cases hj)]
      exact hj⟩
  | x :: xs, cs, d, i + 1, ⟨c1, c2, e, h1, h2⟩, hi => by
    obtain ⟨c, hc, hj⟩ := Arr.get d i h2 (by simpa using hi)
    refine ⟨c, by simpa using hc, fun j u hu => ?_⟩
    subst e
    rw [List.getElem?_append_right (by rw [k.len h1, Nat.add_mul]; omega)]
    have := hj j u hu
    rw [show (i + 1) * k.sz + j - c1.length = i * k.sz + j by rw [k.len h1, Nat.add_mul]; omega]
    exact this
theorem Arr.set : ∀ {xs : List α} {cs : List Value} (i : Nat) (x : α) (c : List Value), Arr k w S xs cs → i < xs.length → k.R w S x c →
    Arr k w S (xs.set i x) (cs.take (i * k.sz) ++ c ++ cs.drop (i * k.sz + k.sz))
  | [], _, _, _, _, _, hi, _ => absurd hi (by simp)
  | y :: xs, cs, 0, x, c, ⟨c1, c2, e, h1, h2⟩, _, hx => by
    subst e
    refine ⟨c, c2, ?_, hx, h2⟩
    rw [Nat.zero_mul, Nat.zero_add, ← k.len h1]; simp
  | y :: xs, cs, i + 1, x, c, ⟨c1, c2, e, h1, h2⟩, hi, hx => by
    subst e
    refine ⟨c1, _, ?_, h1, Arr.set i x c h2 (by simpa using hi) hx⟩
    have e1 : (i + 1) * k.sz = c1.length + i * k.sz := by rw [k.len h1, Nat.add_mul]; omega
    rw [e1, List.take_append, List.drop_append, Nat.add_assoc]
    rw [List.take_of_length_le (by omega), show c1.length + i * k.sz - c1.length = i * k.sz by omega, show c1.length + (i * k.sz + k.sz) - c1.length = i * k.sz + k.sz by omega]
    rw [List.drop_of_length_le (l := c1) (by omega)]
    simp
theorem Arr.one : ∀ {xs : List α} {cs : List Value}, Arr k w S xs cs → ∀ u ∈ cs, u.oneCell' = true
  | [], cs, h, u, hu => by simp only [Arr] at h; subst h; cases hu
  | x :: xs, cs, ⟨c1, c2, e, h1, h2⟩, u, hu => by
    subst e; rcases List.mem_append.1 hu with hu | hu
    · exact k.one h1 u hu
    · exact Arr.one h2 u hu
end
end
section
open Go.RowKit

abbrev Ob := List (Option Nat)
def Fr (O : Ob) : Sp := fun b => some b ∉ O
structure St (w : World) (O : Ob) (w' : World) (O' : Ob) : Prop where
  os : w'.os = w.os
  tape : w'.tape = w.tape
  output : w'.output = w.output
  size : w.heap.size ≤ w'.heap.size
  block : ∀ k, k < w.heap.size → some k ∉ O → w'.heap[k]? = w.heap[k]?
  sub : ∀ k, k < w.heap.size → some k ∉ O → some k ∉ O'
theorem St.refl (w : World) (O : Ob) : St w O w O := ⟨rfl, rfl, rfl, Nat.le_refl _, fun _ _ _ => rfl, fun _ _ h => h⟩
theorem St.trans {a b c : World} {O O' O'' : Ob} (h : St a O b O') (g : St b O' c O'') : St a O c O'' :=
  ⟨g.os.trans h.os, g.tape.trans h.tape, g.output.trans h.output, Nat.le_trans h.size g.size,
    fun k hk hn => (g.block k (Nat.lt_of_lt_of_le hk h.size) (h.sub k hk hn)).trans (h.block k hk hn),
    fun k hk hn => g.sub k (Nat.lt_of_lt_of_le hk h.size) (h.sub k hk hn)⟩
theorem St.gr {w w' : World} {O' : Ob} (h : St w [] w' O') : Gr w w' none := ⟨h.os, h.tape, h.output, h.size, fun k hk _ => h.block k hk (by simp)⟩
theorem St.new {w w' : World} (O : Ob) (g : Gr w w' none) : St w O w' O := ⟨g.os, g.tape, g.output, g.size, fun k hk _ => g.block k hk (by simp), fun _ _ h => h⟩
theorem St.new' {w w' : World} {O : Ob} {m : Option Nat} (g : Gr w w' m) (hm : ∀ b, m = some b → some b ∈ O) : St w O w' O :=
  ⟨g.os, g.tape, g.output, g.size, fun k hk hn => g.block k hk (fun e => hn (hm k e.symm)), fun _ _ h => h⟩
theorem St.own {w w' : World} (O : Ob) (r : Option Nat) (g : Gr w w' none) (hr : ∀ b, r = some b → w.heap.size ≤ b) : St w O w' (r :: O) :=
  ⟨g.os, g.tape, g.output, g.size, fun k hk _ => g.block k hk (by simp), fun k hk h => by
    intro hm; rcases List.mem_cons.1 hm with e | hm
    · have := hr k e.symm; omega
    · exact h hm⟩
theorem St.mod {w w' : World} {O : Ob} (i : Nat) (r r' : Option Nat) (hi : O[i]? = some r) (g : Gr w w' r) (hr : r' = r ∨ ∀ b, r' = some b → w.heap.size ≤ b) : St w O w' (O.set i r') :=
  ⟨g.os, g.tape, g.output, g.size, fun k hk hn => g.block k hk (fun e => hn (e ▸ List.mem_of_getElem? hi)), fun k hk hn hm => by
    rcases List.mem_or_eq_of_mem_set hm with hm | e
    · exact hn hm
    · rcases hr with e' | hr
      · exact hn (by rw [e, e']; exact List.mem_of_getElem? hi)
      · have := hr k e.symm; omega⟩
theorem St.wr {w w' : World} {O : Ob} {r : Option Nat} (hi : r ∈ O) (g : Gr w w' r) : St w O w' O :=
  ⟨g.os, g.tape, g.output, g.size, fun k hk hn => g.block k hk (fun e => hn (e ▸ hi)), fun k _ hn => hn⟩
theorem St.drop (w : World) (O : Ob) (i : Nat) : St w O w (O.eraseIdx i) :=
  ⟨rfl, rfl, rfl, Nat.le_refl _, fun _ _ _ => rfl, fun k _ hn hm => hn (List.mem_of_mem_eraseIdx hm)⟩
structure Gm (w w' : World) (rs : Ob) : Prop where
  os : w'.os = w.os
  tape : w'.tape = w.tape
  output : w'.output = w.output
  size : w.heap.size ≤ w'.heap.size
  block : ∀ b, b < w.heap.size → some b ∉ rs → w'.heap[b]? = w.heap[b]?
theorem Gm.refl (w : World) (rs : Ob) : Gm w w rs := ⟨rfl, rfl, rfl, Nat.le_refl _, fun _ _ _ => rfl⟩
theorem Gm.tq {w1 w w' : World} {rs : Ob} {v : Option Nat} (h : Gm w1 w rs) (g : Gr w w' v) (hv : ∀ b, v = some b → b < w1.heap.size → some b ∈ rs) : Gm w1 w' rs :=
  ⟨g.os.trans h.os, g.tape.trans h.tape, g.output.trans h.output, Nat.le_trans h.size g.size, fun b hb hn =>
    (g.block b (Nat.lt_of_lt_of_le hb h.size) (fun e => hn (hv b e.symm hb))).trans (h.block b hb hn)⟩
theorem Gm.tm {w1 w w' : World} {rs : Ob} (h : Gm w1 w rs) (g : Gr w w' none) : Gm w1 w' rs := h.tq g fun b e _ => by cases e
theorem Gm.tg {w1 w w' : World} {rs qs : Ob} (h : Gm w1 w rs) (g : Gm w w' qs) (hv : ∀ b, some b ∈ qs → b < w1.heap.size → some b ∈ rs) : Gm w1 w' rs :=
  ⟨g.os.trans h.os, g.tape.trans h.tape, g.output.trans h.output, Nat.le_trans h.size g.size, fun b hb hn =>
    (g.block b (Nat.lt_of_lt_of_le hb h.size) (fun e => hn (hv b e hb))).trans (h.block b hb hn)⟩
theorem Gm.gr {w w' : World} {rs : Ob} (h : Gm w w' rs) (r : Option Nat) (hr : ∀ b, some b ∈ rs → some b = r) : Gr w w' r := ⟨h.os, h.tape, h.output, h.size, fun b hb hn => h.block b hb fun hm => hn (hr b hm)⟩
theorem Gm.g0 {w w' : World} (h : Gm w w' []) : Gr w w' none := h.gr none fun b e => by cases e
theorem Gm.g1 {w w' : World} {r : Option Nat} (h : Gm w w' [r]) : Gr w w' r := h.gr r fun b e => by simpa using e
theorem row1 {r : Option Nat} : ∀ b, r = some b → some b ∈ [r] := fun b e => by rw [e]; exact List.mem_cons_self
def Dj : Ob → Prop
  | [] => True
  | a :: O => (∀ b, a = some b → some b ∉ O) ∧ Dj O
structure Ct (m : Ob) (w0 w : World) (L O : Ob) : Prop where
  gr : Gm w0 w m
  dj : Dj (L ++ O)
  lt : ∀ b, some b ∈ L ++ O → b < w.heap.size
  ge : ∀ b, some b ∈ L → w0.heap.size ≤ b
  mo : ∀ b, some b ∈ m → some b ∈ O ∧ b < w0.heap.size
def Ok (w : World) (O : Ob) : Prop := Dj O ∧ ∀ b, some b ∈ O → b < w.heap.size
theorem Ok.nil (w : World) : Ok w [] := ⟨trivial, fun _ h => by simp at h⟩
theorem Ct.init {w : World} {O : Ob} (h : Ok w O) : Ct [] w w [] O := ⟨Gm.refl w [], h.1, h.2, fun _ h => by simp at h, fun b h => by cases h⟩
theorem Ct.initm {w : World} {O : Ob} (h : Ok w O) {m : Ob} (hm : ∀ b, some b ∈ m → some b ∈ O) : Ct m w w [] O := ⟨Gm.refl w m, h.1, h.2, fun _ h => by simp at h, fun b e => ⟨hm b e, h.2 b (hm b e)⟩⟩
theorem Ct.initm1 {w : World} {O : Ob} (h : Ok w O) {r : Option Nat} (hm : ∀ b, r = some b → some b ∈ O) : Ct [r] w w [] O := .initm h fun b e => hm b (List.mem_singleton.1 e).symm
theorem Ct.ok {m : Ob} {w0 w : World} {L O : Ob} (c : Ct m w0 w L O) : Ok w (L ++ O) := ⟨c.dj, c.lt⟩
theorem Gr.tm {a b c : World} {m : Option Nat} (h : Gr a b m) (g : Gr b c none) : Gr a c m :=
  ⟨g.os.trans h.os, g.tape.trans h.tape, g.output.trans h.output, Nat.le_trans h.size g.size, fun k hk hn => (g.block k (Nat.lt_of_lt_of_le hk h.size) (by simp)).trans (h.block k hk hn)⟩
theorem Ct.k0 {m : Ob} {w0 w w' : World} {L O : Ob} (c : Ct m w0 w L O) (g : Gr w w' none) : Ct m w0 w' L O := ⟨c.gr.tm g, c.dj, fun b hb => Nat.lt_of_lt_of_le (c.lt b hb) g.size, c.ge, c.mo⟩
theorem Ct.wmm {m : Ob} {w0 w w' : World} {L O : Ob} {r : Option Nat} (c : Ct m w0 w L O) (hr : ∀ b, r = some b → some b ∈ m) (g : Gr w w' r) : Ct m w0 w' L O := ⟨c.gr.tq g fun b e _ => hr b e, c.dj, fun b hb => Nat.lt_of_lt_of_le (c.lt b hb) g.size, c.ge, c.mo⟩
theorem Ct.wm {m : Option Nat} {w0 w w' : World} {L O : Ob} (c : Ct [m] w0 w L O) (g : Gr w w' m) : Ct [m] w0 w' L O := c.wmm row1 g
theorem Ct.own {m : Ob} {w0 w w' : World} {L O : Ob} (c : Ct m w0 w L O) (g : Gr w w' none) (r : Option Nat) (hr : ∀ b, r = some b → w.heap.size ≤ b ∧ b < w'.heap.size) : Ct m w0 w' (r :: L) O :=
  ⟨c.gr.tm g, ⟨fun b e hm => by have := hr b e; have := c.lt b hm; omega, c.dj⟩, fun b hm => by
    rcases List.mem_cons.1 hm with e | hm
    · exact (hr b e.symm).2
    · exact Nat.lt_of_lt_of_le (c.lt b hm) g.size, fun b hm => by
    rcases List.mem_cons.1 hm with e | hm
    · have := hr b e.symm; have := c.gr.size; omega
    · exact c.ge b hm, c.mo⟩
theorem Dj.ne : ∀ {O : Ob} {i j : Nat} {r s : Option Nat}, Dj O → O[i]? = some r → O[j]? = some s → i ≠ j → ∀ b, r = some b → s ≠ some b
  | [], i, j, r, s, _, h, _, _ => by simp at h
  | a :: O, 0, 0, r, s, _, _, _, h => absurd rfl h
  | a :: O, 0, j + 1, r, s, d, hi, hj, _ => fun b e e' => by
    simp at hi hj; subst hi; subst e; subst e'; exact d.1 b rfl (List.mem_of_getElem? hj)
  | a :: O, i + 1, 0, r, s, d, hi, hj, _ => fun b e e' => by
    simp at hi hj; subst hj; subst e; subst e'; exact d.1 b rfl (List.mem_of_getElem? hi)
  | a :: O, i + 1, j + 1, r, s, d, hi, hj, h => Dj.ne d.2 (by simpa using hi) (by simpa using hj) (fun e => h (by rw [e]))
theorem Dj.set : ∀ {O : Ob} {i : Nat} {r r' : Option Nat}, Dj O → O[i]? = some r → (r' = r ∨ ∀ b, r' = some b → some b ∉ O) → Dj (O.set i r')
  | [], i, r, r', _, h, _ => by simp at h
  | a :: O, 0, r, r', d, hi, hr => by
    simp at hi; subst hi
    refine ⟨fun b e hm => ?_, d.2⟩
    rcases hr with e' | hr
    · exact d.1 b (e' ▸ e) hm
    · exact hr b e (List.mem_cons_of_mem _ hm)
  | a :: O, i + 1, r, r', d, hi, hr => by
    refine ⟨fun b e hm => ?_, Dj.set d.2 (by simpa using hi) (hr.imp id fun h b e hm => h b e (List.mem_cons_of_mem _ hm))⟩
    rcases List.mem_or_eq_of_mem_set hm with hm | e'
    · exact d.1 b e hm
    · rcases hr with e'' | hr
      · exact d.1 b e (by rw [e', e'']; exact List.mem_of_getElem? (by simpa using hi))
      · exact hr b e'.symm (by rw [e]; exact List.mem_cons_self)
theorem set_app {L O : Ob} {i : Nat} {r r' : Option Nat} (hi : L[i]? = some r) : (L ++ O).set i r' = L.set i r' ++ O := by
  rw [List.set_append_left _ _ (List.getElem?_eq_some_iff.1 hi).1]
theorem get_app {L O : Ob} {i : Nat} {r : Option Nat} (hi : L[i]? = some r) : (L ++ O)[i]? = some r := by
  rw [List.getElem?_append_left (List.getElem?_eq_some_iff.1 hi).1]; exact hi
theorem Ct.mod {m : Ob} {w0 w w' : World} {L O : Ob} (c : Ct m w0 w L O) (i : Nat) (r r' : Option Nat) (hi : L[i]? = some r) (g : Gr w w' r) (hr : r' = r ∨ ∀ b, r' = some b → w.heap.size ≤ b ∧ b < w'.heap.size) : Ct m w0 w' (L.set i r') O := by
  have hi' := get_app (O := O) hi
  have hsz := g.size
  refine ⟨c.gr.tq g fun k e hk => absurd (c.ge k (by rw [← e]; exact List.mem_of_getElem? hi)) (by omega), ?_, fun b hm => ?_, fun b hm => ?_, c.mo⟩
  · rw [← set_app hi]
    exact c.dj.set hi' (hr.imp id fun h b e hm => by have := h b e; have := c.lt b hm; omega)
  · rw [← set_app hi] at hm
    rcases List.mem_or_eq_of_mem_set hm with hm | e
    · exact Nat.lt_of_lt_of_le (c.lt b hm) hsz
    · rcases hr with e' | hr
      · exact Nat.lt_of_lt_of_le (c.lt b (by rw [e, e']; exact List.mem_of_getElem? hi')) hsz
      · exact (hr b e.symm).2
  · rcases List.mem_or_eq_of_mem_set hm with hm | e
    · exact c.ge b hm
    · rcases hr with e' | hr
      · exact c.ge b (by rw [e, e']; exact List.mem_of_getElem? hi)
      · have := hr b e.symm; have := c.gr.size; omega
theorem Ct.wr {m : Ob} {w0 w w' : World} {L O : Ob} (c : Ct m w0 w L O) (i : Nat) {r : Option Nat} (hi : L[i]? = some r) (g : Gr w w' r) : Ct m w0 w' L O := by
  have := c.mod i r r hi g (.inl rfl)
  have e : L.set i r = L := by
    apply List.ext_getElem?
    intro j
    rw [List.getElem?_set]
    split
    · rename_i e; subst e
      have := (List.getElem?_eq_some_iff.1 hi).1
      rw [if_pos this, hi]
    · rfl
  rwa [e] at this
theorem Dj.erase : ∀ {O : Ob} (i : Nat), Dj O → Dj (O.eraseIdx i)
  | [], _, _ => trivial
  | _ :: _, 0, d => d.2
  | a :: O, i + 1, d => ⟨fun b e hm => d.1 b e (List.mem_of_mem_eraseIdx hm), Dj.erase i d.2⟩
theorem erase_app {L O : Ob} {i : Nat} (hi : i < L.length) : (L ++ O).eraseIdx i = L.eraseIdx i ++ O := List.eraseIdx_append_of_lt_length hi O
theorem Ct.drop {m : Ob} {w0 w : World} {L O : Ob} (c : Ct m w0 w L O) (i : Nat) (hi0 : Nat.blt i L.length = true) : Ct m w0 w (L.eraseIdx i) O :=
  have hi := lt_blt hi0
  ⟨c.gr, by rw [← erase_app hi]; exact c.dj.erase i, fun b hm => by rw [← erase_app hi] at hm; exact c.lt b (List.mem_of_mem_eraseIdx hm), fun b hm => c.ge b (List.mem_of_mem_eraseIdx hm), c.mo⟩

theorem Kd.st {α : Type} (k : Kd α) {w w' : World} {O O' : Ob} {x : α} {cs : List Value} (h : k.R w (Fr O) x cs) (s : St w O w' O') : k.R w' (Fr O') x cs :=
  k.mono (k.keep (k.mono (S' := fun b => some b ∉ O ∧ b < w.heap.size) h fun b hS hb => ⟨hS, hb⟩) fun b hS hb => s.block b hb hS.1) fun b hS hb => s.sub b hS.2 hS.1

def Sl {α : Type} (k : Kd α) (w : World) (S : Sp) (v : Value) (xs : List α) : Prop :=
  ∃ A c cells, v = .slice A xs.length c ∧ (xs.length ≤ c ∧ c ≤ 9223372036854775807) ∧ Arr k w S xs cells ∧ ∀ j u, cells[j]? = some u → ∃ ad, A = some ad ∧ S ad.block ∧ w.cell? (ad.add j) = some u
theorem add_block (a : Addr) (j : Nat) : (a.add j).block = a.block := by unfold Addr.add; split <;> rfl
theorem add_add (a : Addr) (i j : Nat) : (a.add i).add j = a.add (i + j) := by
  unfold Addr.add
  by_cases hi : i = 0 <;> by_cases hj : j = 0 <;> simp [hi, hj, Nat.add_assoc]
def Kd.sl {α : Type} (k : Kd α) : Kd (List α) where
  sz := 1
  R := fun w S xs cs => ∃ v, cs = [v] ∧ Sl k w S v xs
  len := fun ⟨v, e, _⟩ => by subst e; rfl
  one := fun ⟨v, e, A, c, _, e', _⟩ u hu => by subst e; simp at hu; subst hu; subst e'; rfl
  keep := fun ⟨v, e, A, c, cells, e', h1, h2, h3⟩ g => ⟨v, e, A, c, cells, e', h1, h2.keep g, fun j u hu => by
    obtain ⟨ad, ea, hS, hc⟩ := h3 j u hu
    exact ⟨ad, ea, hS, (World.cell?_of_block (by rw [add_block]; exact g _ hS (add_block ad j ▸ World.block_lt_of_cell? _ _ hc))).trans hc⟩⟩
  mono := fun ⟨v, e, A, c, cells, e', h1, h2, h3⟩ g => ⟨v, e, A, c, cells, e', h1, h2.mono g, fun j u hu => by
    obtain ⟨ad, ea, hS, hc⟩ := h3 j u hu
    exact ⟨ad, ea, g _ hS (add_block ad j ▸ World.block_lt_of_cell? _ _ hc), hc⟩⟩
section
variable {α : Type} {k : Kd α} {w w' : World} {S S' : Sp} {v : Value} {xs : List α} {O O' : Ob}
theorem Sl.keep (h : Sl k w S v xs) (g : ∀ b, S b → b < w.heap.size → w'.heap[b]? = w.heap[b]?) : Sl k w' S v xs := by
  obtain ⟨_, e, h⟩ := (Kd.sl k).keep ⟨v, rfl, h⟩ g
  cases e; exact h
theorem Sl.mono (h : Sl k w S v xs) (g : ∀ b, S b → b < w.heap.size → S' b) : Sl k w S' v xs := by
  obtain ⟨_, e, h⟩ := (Kd.sl k).mono ⟨v, rfl, h⟩ g
  cases e; exact h
theorem Sl.st (h : Sl k w (Fr O) v xs) (s : St w O w' O') : Sl k w' (Fr O') v xs := by
  obtain ⟨_, e, h⟩ := (Kd.sl k).st ⟨v, rfl, h⟩ s
  cases e; exact h
theorem Sl.shape (h : Sl k w S v xs) : ∃ A c, v = .slice A xs.length c := let ⟨A, c, _, e, _⟩ := h; ⟨A, c, e⟩
theorem Sl.len {A : Option Addr} {m c : Nat} (h : Sl k w S (.slice A m c) xs) : m = xs.length := by obtain ⟨_, _, _, e, _⟩ := h; cases e; rfl
theorem Sl.nil (k : Kd α) (w : World) (S : Sp) (A : Option Addr) (c : Nat) (hc : c ≤ 9223372036854775807) : Sl k w S (.slice A 0 c) [] := ⟨A, c, [], rfl, ⟨Nat.zero_le _, hc⟩, rfl, fun j u h => by simp at h⟩
theorem Sl.le (h : Sl k w S v xs) : xs.length ≤ 9223372036854775807 := let ⟨_, _, _, _, h, _⟩ := h; Nat.le_trans h.1 h.2
theorem Sl.get {A : Option Addr} {m c : Nat} (d : α) (h : Sl k w S (.slice A m c) xs) (hk : 0 < k.sz) (i : Int) (hi : 0 ≤ i ∧ i < (xs.length : Int)) :
    ∃ ad cs, A = some ad ∧ S ad.block ∧ k.R w S (xs.getD i.toNat d) cs ∧ ∀ j u, cs[j]? = some u → w.cell? ((ad.add (i.toNat * k.sz)).add j) = some u := by
  obtain ⟨A', c', cells, e, h1, h2, h3⟩ := h
  cases e
  obtain ⟨cs, hR, hj⟩ := h2.get d i.toNat (by omega)
  have hl := k.len hR
  obtain ⟨u0, hu0⟩ : ∃ u, cs[0]? = some u := ⟨cs[0]'(by omega), by simp⟩
  obtain ⟨ad, rfl, hS, _⟩ := h3 _ _ (hj 0 u0 hu0)
  refine ⟨ad, cs, rfl, hS, hR, fun j u hu => ?_⟩
  obtain ⟨ad', e, _, hc⟩ := h3 _ _ (hj j u hu)
  cases e
  rw [add_add]; exact hc
end

def blk : Value → Option Nat
  | .slice A _ _ => A.map (·.block)
  | _ => none
theorem mcm {α : Type} {a b : α} {l : List α} (h : a ∈ l) : a ∈ b :: l := List.mem_cons_of_mem _ h
theorem pc {α : Type} [BEq α] [LawfulBEq α] {l m : List α} (h : ∀ a, l.count a = m.count a) : l.Perm m := List.perm_iff_count.2 h
theorem pca {α : Type} [BEq α] {a : α} {l m : List α} : (l ++ m).count a = l.count a + m.count a := List.count_append
theorem pcc {α : Type} [BEq α] {a b : α} {l : List α} : (b :: l).count a = l.count a + if b == a then 1 else 0 := List.count_cons
theorem pcn {α : Type} [BEq α] {a : α} : ([] : List α).count a = 0 := List.count_nil
abbrev bk (A : Option Addr) : Option Nat := A.map (·.block)
theorem own_blk (v : Value) : v.ownBlock = blk v := by
  cases v with
  | slice A n c => cases A <;> rfl
  | _ => rfl
def Ow {α : Type} (k : Kd α) (e : TypeId) (w : World) (O : Ob) (v : Value) (xs : List α) : Prop :=
  ∃ cells, w.ownsRow 0 e k.sz v xs.length cells ∧ Arr k w (Fr O) xs cells ∧ ∀ b, blk v = some b → some b ∈ O
def Bx (w : World) (b : Nat) (cs : List Value) : Prop := ∃ e, w.heap[b]? = some (.cells cs.toArray e (0, 0))
section
variable {α : Type} {k : Kd α} {e : TypeId} {w w' : World} {v : Value} {xs : List α} {O O' : Ob} {r : Option Nat} {b : Nat} {cs : List Value}
theorem ownsRow.shape {base size n : Nat} {cells : List Value} (h : w.ownsRow base e size v n cells) : ∃ A c, v = .slice A n c := by
  rcases h.2 with ⟨e, e'⟩ | ⟨g, cap, cur, e, _⟩
  · subst e'; exact ⟨_, _, e⟩
  · exact ⟨_, _, e⟩
theorem Ow.shape (h : Ow k e w O v xs) : ∃ A c, v = .slice A xs.length c := let ⟨_, h, _⟩ := h; ownsRow.shape h
theorem Ow.nil (k : Kd α) (e : TypeId) (w : World) (O : Ob) : Ow k e w O (.slice none 0 0) [] := ⟨[], World.ownsRow_nil w 0 e k.sz, rfl, fun b h => by simp [blk] at h⟩
theorem Ow.st (h : Ow k e w O v xs) (s : St w O w' O') (hb : ∀ b, blk v = some b → w'.heap[b]? = w.heap[b]? ∧ some b ∈ O') : Ow k e w' O' v xs := by
  obtain ⟨cells, h1, h2, h3⟩ := h
  refine ⟨cells, ⟨h1.1, ?_⟩, ?_, fun b hv => (hb b hv).2⟩
  · rcases h1.2 with hn | ⟨g, cap, cur, hv, h0, hg, rest⟩
    · exact .inl hn
    · exact .inr ⟨g, cap, cur, hv, h0, by rw [(hb g (by rw [hv]; rfl)).1]; exact hg, rest⟩
  · have : Arr k w (fun b => some b ∉ O ∧ b < w.heap.size) xs cells := h2.mono fun b hS hb => ⟨hS, hb⟩
    exact (this.keep fun b hS hb => s.block b hb hS.1).mono fun b hS hb => s.sub b hS.2 hS.1
theorem Ow.ltb (h : Ow k e w O v xs) : ∀ b, blk v = some b → b < w.heap.size := fun b hb => (World.ownsRow.lt h.choose_spec.1 b ((own_blk v).trans hb)).2
theorem Ow.st0 (h : Ow k e w O v xs) (s : St w O w' O') (g : Gr w w' none) (hb : ∀ b, blk v = some b → some b ∈ O') : Ow k e w' O' v xs :=
  h.st s fun b hv => ⟨g.block b (h.ltb b hv) (by simp), hb b hv⟩
theorem Ow.st1 (h : Ow k e w O v xs) (s : St w O w' O') (g : Gr w w' r) (hr : ∀ b, blk v = some b → r ≠ some b) (hb : ∀ b, blk v = some b → some b ∈ O') : Ow k e w' O' v xs :=
  h.st s fun b hv => ⟨g.block b (h.ltb b hv) (fun e => hr b hv e.symm), hb b hv⟩
theorem Ow.sl (h : Ow k e w O v xs) (S : Sp) (hS : ∀ b, b < w.heap.size → some b ∉ O ∨ blk v = some b → S b) : Sl k w S v xs := by
  obtain ⟨cells, h1, h2, h3⟩ := h
  obtain ⟨A, c, rfl⟩ := ownsRow.shape h1
  have hc : xs.length ≤ c ∧ c ≤ 9223372036854775807 := by
    rcases h1.2 with ⟨e, e'⟩ | ⟨g, cap, cur, e, _, _, h, hm, _⟩
    · simp only [Value.slice.injEq] at e; omega
    · cases e; exact ⟨h, hm⟩
  refine ⟨A, c, cells, rfl, hc, h2.mono fun b hb hl => hS b hl (.inl hb), fun j u hu => ?_⟩
  rcases h1.2 with ⟨e, e'⟩ | ⟨g, cap, cur, e, _, hg, h, _⟩
  · have := h1.1
    have hl : cells = [] := List.length_eq_zero_iff.1 (by rw [this, e']; simp)
    subst hl; simp at hu
  · cases e
    have hcell := World.ownsRow.cells h1 (g := g) rfl j u hu
    exact ⟨_, rfl, hS _ (by have := World.block_lt_of_cell? _ _ hcell; rwa [add_block] at this) (.inr rfl), hcell⟩
theorem Ow.give (h : Ow k e w O v xs) (i : Nat) (hi : O[i]? = some (blk v)) (d : Dj O) : Sl k w (Fr (O.eraseIdx i)) v xs :=
  h.sl _ fun b hl hb => by
    rcases hb with hb | hb
    · exact fun hm => hb (List.mem_of_mem_eraseIdx hm)
    · intro hm
      rw [List.mem_eraseIdx_iff_getElem?] at hm
      obtain ⟨j, hne, hj⟩ := hm
      exact d.ne hi hj (fun e => hne e.symm) b hb rfl
theorem Ow.get {A : Option Addr} {m c : Nat} (d : α) (h : Ow k e w O (.slice A m c) xs) (hk : 0 < k.sz) (i : Int) (hi : 0 ≤ i ∧ i < (xs.length : Int)) :
    ∃ ad cs, A = some ad ∧ k.R w (Fr O) (xs.getD i.toNat d) cs ∧ ∀ j u, cs[j]? = some u → w.cell? ((ad.add (i.toNat * k.sz)).add j) = some u := by
  obtain ⟨cells, h1, h2, h3⟩ := h
  obtain ⟨cs, hR, hj⟩ := h2.get d i.toNat (by omega)
  rcases h1.2 with ⟨_, e'⟩ | ⟨g, cap, cur, e, _, hg, hle, _⟩
  · omega
  · cases e
    refine ⟨_, cs, rfl, hR, fun j u hu => ?_⟩
    rw [add_add]; exact World.ownsRow.cells h1 (g := g) rfl _ _ (hj j u hu)
theorem Ow.len {A : Option Addr} {m c : Nat} (h : Ow k e w O (.slice A m c) xs) : m = xs.length := by obtain ⟨_, _, e⟩ := h.shape; cases e; rfl
theorem Ow.le (h : Ow k e w O v xs) : xs.length ≤ 9223372036854775807 := (h.sl (fun _ => True) (fun _ _ _ => trivial)).le
theorem Bx.cell (h : Bx w b cs) {j : Nat} {u : Value} (hu : cs[j]? = some u) : w.cell? ⟨b, j, none⟩ = some u := by
  obtain ⟨e, h⟩ := h
  rw [cell_of_row w b j _ e _ h]; simpa using hu
theorem Bx.cells (h : Bx w b cs) {off : Nat} {ds : List Value} (hd : (cs.drop off).take ds.length = ds) : ∀ j u, ds[j]? = some u → w.cell? ((⟨b, off, none⟩ : Addr).add j) = some u := fun j u hu => by
  have e : (⟨b, off, none⟩ : Addr).add j = ⟨b, off + j, none⟩ := by unfold Addr.add; split <;> simp_all
  rw [e]
  refine h.cell ?_
  rw [← hd, List.getElem?_take] at hu
  split at hu
  · rwa [List.getElem?_drop] at hu
  · cases hu
theorem Bx.keep (h : Bx w b cs) (g : Gr w w' r) (hr : r ≠ some b) : Bx w' b cs := by
  obtain ⟨e, h⟩ := h
  exact ⟨e, (g.block b (Array.getElem?_eq_some_iff.1 h).1 (fun e => hr e.symm)).trans h⟩
theorem Bx.k0 (h : Bx w b cs) (g : Gr w w' none) : Bx w' b cs := h.keep g (by simp)
theorem Bx.st (h : Bx w b cs) (s : St w O w' O') (hb : some b ∉ O) : Bx w' b cs := by
  obtain ⟨e, h⟩ := h
  exact ⟨e, (s.block b (Array.getElem?_eq_some_iff.1 h).1 hb).trans h⟩
theorem Bx.lt (h : Bx w b cs) : b < w.heap.size := let ⟨_, h⟩ := h; (Array.getElem?_eq_some_iff.1 h).1
end

section
variable {α : Type} {k : Kd α} {e : TypeId} {w0 w w' : World} {v : Value} {xs : List α} {O L : Ob} {r r' : Option Nat} {b : Nat} {cs : List Value} {i j : Nat} {m : Ob}
theorem Ct.st (c : Ct m w0 w L O) : St w0 O w (L ++ O) :=
  ⟨c.gr.os, c.gr.tape, c.gr.output, c.gr.size, fun k hk hn => c.gr.block k hk (fun e => hn (c.mo k e).1), fun k hk h hm => by
    rcases List.mem_append.1 hm with hm | hm
    · have := c.ge k hm; omega
    · exact h hm⟩
def Fb (w : World) (O : Ob) (b : Nat) (cs : List Value) : Prop := Bx w b cs ∧ some b ∉ O
theorem Fb.mk (c : Ok w O) (hl : w.heap.size ≤ b) (h : Bx w' b cs) : Fb w' O b cs := ⟨h, fun hm => by have := c.2 b hm; omega⟩
theorem Fb.st {O' : Ob} (h : Fb w O b cs) (s : St w O w' O') : Fb w' O' b cs := ⟨h.1.st s h.2, s.sub b h.1.lt h.2⟩
theorem Fb.cell (h : Fb w O b cs) {j : Nat} {u : Value} (hu : cs[j]? = some u) : w.cell? ⟨b, j, none⟩ = some u := h.1.cell hu
theorem Fb.cells (h : Fb w O b cs) {off : Nat} {ds : List Value} (hd : (cs.drop off).take ds.length = ds) : ∀ j u, ds[j]? = some u → w.cell? ((⟨b, off, none⟩ : Addr).add j) = some u := h.1.cells hd
theorem Ow.sn (h : Ow k e w O v xs) (g : Gr w w' none) : Ow k e w' O v xs := h.st0 (.new O g) g h.choose_spec.2.2
theorem Ow.so (h : Ow k e w O v xs) (r : Option Nat) (g : Gr w w' none) (hr : ∀ b, r = some b → w.heap.size ≤ b) : Ow k e w' (r :: O) v xs :=
  h.st0 (.own O r g hr) g fun b hb => List.mem_cons_of_mem _ (h.choose_spec.2.2 b hb)
theorem Ow.sm (h : Ow k e w (L ++ O) v xs) (c : Ct m w0 w L O) (hi : L[i]? = some (blk v)) (hj : L[j]? = some r) (hij : i ≠ j) (g : Gr w w' r) (s : St w (L ++ O) w' (L.set j r' ++ O)) : Ow k e w' (L.set j r' ++ O) v xs :=
  h.st1 s g (fun b hb => c.dj.ne (get_app hi) (get_app hj) hij b hb) fun b hb => List.mem_append_left _ (by
    rw [← hb]; refine List.mem_of_getElem? (i := i) ?_; rw [List.getElem?_set_ne (Ne.symm hij)]; exact hi)
theorem Ow.sw (h : Ow k e w (L ++ O) v xs) (c : Ct m w0 w L O) (hi : L[i]? = some (blk v)) (hj : L[j]? = some r) (hij : i ≠ j) (g : Gr w w' r) : Ow k e w' (L ++ O) v xs :=
  h.st1 (.wr (List.mem_of_getElem? (get_app hj)) g) g (fun b hb => c.dj.ne (get_app hi) (get_app hj) hij b hb) h.choose_spec.2.2
theorem Ow.sd (h : Ow k e w (L ++ O) v xs) (hi : L[i]? = some (blk v)) (hj0 : Nat.blt j L.length = true) (hij : i ≠ j) : Ow k e w (L.eraseIdx j ++ O) v xs := by
  have hj := lt_blt hj0
  have s := St.drop w (L ++ O) j
  rw [erase_app hj] at s
  refine h.st0 s (Gr.refl w none) fun b hb => List.mem_append_left _ ?_
  rw [List.mem_eraseIdx_iff_getElem?]
  exact ⟨i, hij, by rw [← hb]; exact hi⟩
theorem Ow.gv (h : Ow k e w (L ++ O) v xs) (c : Ct m w0 w L O) (hi : L[i]? = some (blk v)) : Sl k w (Fr (L.eraseIdx i ++ O)) v xs := by
  have := h.give i (get_app hi) c.dj
  rwa [erase_app (List.getElem?_eq_some_iff.1 hi).1] at this
theorem Bx.sm (h : Bx w b cs) (c : Ct m w0 w L O) (hi : L[i]? = some (some b)) (hj : L[j]? = some r) (hij : i ≠ j) (g : Gr w w' r) : Bx w' b cs :=
  h.keep g fun e => c.dj.ne (get_app hi) (get_app hj) hij b rfl e
theorem Bx.gv (h : Bx w b cs) (c : Ct m w0 w L O) (hi : L[i]? = some (some b)) : Fb w (L.eraseIdx i ++ O) b cs := ⟨h, fun hm => by
  rw [← erase_app (List.getElem?_eq_some_iff.1 hi).1, List.mem_eraseIdx_iff_getElem?] at hm
  obtain ⟨j, hne, hj⟩ := hm
  exact c.dj.ne (get_app hi) hj (fun e => hne e.symm) b rfl rfl⟩
theorem St.dr (w : World) (hj0 : Nat.blt j L.length = true) : St w (L ++ O) w (L.eraseIdx j ++ O) := by
  have hj := lt_blt hj0
  rw [← erase_app hj]; exact St.drop w (L ++ O) j
theorem St.wl (hj : L[j]? = some r) (g : Gr w w' r) : St w (L ++ O) w' (L ++ O) := .wr (List.mem_of_getElem? (get_app hj)) g
theorem St.wmm (c : Ct m w0 w L O) (hr : ∀ b, r = some b → some b ∈ m) (g : Gr w w' r) : St w (L ++ O) w' (L ++ O) := .new' g fun b e => List.mem_append_right _ (c.mo b (hr b e)).1
theorem St.wm (c : Ct [r] w0 w L O) (g : Gr w w' r) : St w (L ++ O) w' (L ++ O) := .wmm c row1 g
end
end
section
open Go.RowKit

def FA (P : Program) (T : TypeId) (f off : Nat) : Prop := ∀ w a, (Instr.fieldAt T (.pointer (some a)) f).run P w = .ok (.pointer (some (a.add off))) w
def IsAgg (P : Program) (T : TypeId) (b : Bool) : Prop := ∀ w, (isAgg T).run P w = .ok b w
def SizeOf (P : Program) (T : TypeId) (m : Nat) : Prop := ∀ w, (sizeOf T).run P w = .ok m w
def ZeroOf (P : Program) (T : TypeId) (cs : List Value) : Prop := ∀ w, ∃ v, (zeroValue T).run P w = .ok v w ∧ v.cells.toList = cs
theorem FA_mk {P : Program} {T : TypeId} {fs : Array Field} {f : Nat} {fld : Field} (s off : Nat) (hu : P.underlying T = some (.struct fs)) (hf : fs[f]? = some fld) (hi : (P.info? fld.type).map (·.size) = some s) (hz : s ≠ 0) (ho : fld.offset = off) : FA P T f off :=
  fun w a => by
    cases h : P.info? fld.type with
    | none => simp [h] at hi
    | some i =>
      have : i.size ≠ 0 := by simp [h] at hi; omega
      subst ho
      simp [Instr.fieldAt, run_underlying hu, hf, Instr.sureAddr, fieldPlace, sizeOf, typeInfo, h, this]
def aggD : TypeDesc → Bool
  | .struct _ | .array _ _ => true
  | _ => false
theorem IsAgg_mk {P : Program} {T : TypeId} {d : TypeDesc} (hu : P.underlying T = some d) : IsAgg P T (aggD d) :=
  fun w => by unfold isAgg; rw [Sem.run_bind, run_underlying hu w]; cases d <;> rfl
theorem SizeOf_mk {P : Program} {T : TypeId} {m : Nat} (hi : (P.info? T).map (·.size) = some m) : SizeOf P T m :=
  fun w => by
    cases h : P.info? T with
    | none => simp [h] at hi
    | some i => simp [h] at hi; simp [sizeOf, typeInfo, h, hi]
theorem ZeroOf_mk {P : Program} {T : TypeId} {z : Value} {cs : List Value} (h : (P.info? T).map (·.zero) = some (some z)) (hz : z.cells.toList = cs) : ZeroOf P T cs := fun w => by
  cases hi : P.info? T with
  | none => simp [hi] at h
  | some i => simp [hi] at h; exact ⟨z, by simp [zeroValue, typeInfo, hi, h], hz⟩

theorem loadCells_run {P : Program} (w : World) (a : Addr) (cs : List Value) (hc : ∀ j u, cs[j]? = some u → w.cell? (a.add j) = some u) : (loadCells a cs.length).run P w = .ok cs.toArray w :=
  run_loadCells_list (P := P) w a cs hc

section
variable {P : Program} {n : Nat} {N R : Ps} {X : Nat → Ps} {t : Tm} {w : World} {ops : Array Oper} {rest : List Oper} {ty : TypeId} {pos : String} {aft : Array Edge} {d : Nat} {x y z : Operand} {C : World → Prop}

theorem P_fa {T : TypeId} {f off : Nat} (hT : FA P T f off) (a b : Addr) (hx : evt n t x = .pointer (some a)) (hb : a.add off = b) : Pu P n t C ⟨some d, .fieldAddr T x f, ty, pos, aft, none⟩ (.pointer (some b)) := fun w hw =>
  (by subst hb; simp [execOp, hx, hT w a])
theorem P_ia {T e : TypeId} {s : Nat} {kd : IntKind} (hu : P.underlying T = some (.slice e)) (hs : SizeOf P e s) (A : Option Addr) (ad : Addr) (m c : Nat) {l : Nat} (hm : m = l) (i : Int) (hx : evt n t x = .slice A m c) (hA : A = some ad) (hy : evt n t y = .int kd i)
    (hi : 0 ≤ i ∧ i < (l : Int)) : Pu P n t C ⟨some d, .indexAddr T x y, ty, pos, aft, none⟩ (.pointer (some (ad.add (i.toNat * s)))) := fun w hw =>
  (by subst hA; subst hm; simp [execOp, hx, hy, Instr.indexAt, asIntOf, run_underlying hu, hi, hs w])
theorem map_toL {α β : Type} (a : Array α) (f : α → β) : a.map f = (a.toList.map f).toArray := by apply Array.ext'; simp
theorem cL {w : World} : ∀ x, (fun x => x = w) x → Gr w x none := fun x e => by cases e; exact Gr.refl _ _
theorem cQ {w : World} : ∀ x, (fun x => Gr w x none) x → Gr w x none := fun x e => e
theorem P_ld {T : TypeId} (hT : IsAgg P T false) {w1 : World} (hC : ∀ x, C x → Gr w1 x none) (a : Addr) (v : Value) (hx : evt n t x = .pointer (some a)) (hc0 : w1.cell? a = some v) : Pu P n t C ⟨some d, .load T x, ty, pos, aft, none⟩ v := fun w hw =>
  (by have hc := Gr.cell (hC w hw) hc0 (by simp); simp [execOp, hx, Instr.loadAt, Instr.sureAddr, loadVar, hT w, hc])
theorem P_lda {T : TypeId} {s : Nat} (hT : IsAgg P T true) (hs : SizeOf P T s) {w1 : World} (hC : ∀ x, C x → Gr w1 x none) (a : Addr) (cs : List Value) (hx : evt n t x = .pointer (some a)) (hl : cs.length = s) (hc0 : ∀ j u, cs[j]? = some u → w1.cell? (a.add j) = some u) : Pu P n t C ⟨some d, .load T x, ty, pos, aft, none⟩ (.agg cs.toArray) := fun w hw =>
  (by have hc := fun j u hu => Gr.cell (hC w hw) (hc0 j u hu) (by simp); subst hl; simp [execOp, hx, Instr.loadAt, Instr.sureAddr, loadVar, hT w, hs w, loadCells_run w a cs hc])
theorem L_box {T : TypeId} (cs : List Value) (hx : (evt n t x).cells = cs.toArray) (k : ∀ w' b, w.heap.size ≤ b → b < w'.heap.size → Gr w w' none → Bx w' b cs → L P n ops N R X rest (upd d (.pointer (some ⟨b, 0, none⟩)) t) w') :
    L P n ops N R X (⟨some d, .box T x, ty, pos, aft, none⟩ :: rest) t w :=
  L_op rfl _ (w.alloc (.cells cs.toArray T)) (by simp [execOp, hx, Instr.box, newVar, newRow]) (k _ _ (Nat.le_refl _) (by simp) (Gr.alloc _ _) ⟨T, heap_alloc_new w _⟩)
theorem L_alloc {T : TypeId} (cs : List Value) (hz : ZeroOf P T cs) (k : ∀ w' b, w.heap.size ≤ b → b < w'.heap.size → Gr w w' none → Bx w' b cs → L P n ops N R X rest (upd d (.pointer (some ⟨b, 0, none⟩)) t) w') :
    L P n ops N R X (⟨some d, .alloc T, ty, pos, aft, none⟩ :: rest) t w := by
  obtain ⟨v, hv, rfl⟩ := hz w
  exact L_op rfl _ (w.alloc (.cells v.cells T)) (by simp [execOp, Instr.alloc, hv, newVar, newRow]) (k _ _ (Nat.le_refl _) (by simp) (Gr.alloc _ _) ⟨T, by simpa using heap_alloc_new w _⟩)
theorem P_build {T : TypeId} {parts : Array (Nat × Operand)} (v : Value) (h : ∀ w, (Instr.build T (parts.toList.map fun p => (p.1, evt n t p.2)).toArray).run P w = .ok v w) : Pu P n t C ⟨some d, .build T parts, ty, pos, aft, none⟩ v := fun w hw =>
  (by have h := h w; rw [← map_toL] at h; simp only [execOp]; rw [Sem.run_bind]; exact (congrArg (fun r => Result.andThen r _) h))
theorem Gr.setRow (w : World) (g : Nat) (cs : Array Value) : Gr w (w.setRow g cs) (some g) := ⟨rfl, rfl, rfl, by simp, fun k _ hk => setRow_other w g k _ (fun e => hk (by rw [e]))⟩
theorem L_stb {T : TypeId} (b off : Nat) (cs us cs' : List Value) (hx : evt n t x = .pointer (some ⟨b, off, none⟩)) (hB : Bx w b cs) (hy : (evt n t y).cells = us.toArray) (hs : SizeOf P T us.length) (h1' : us.all Value.oneCell' = true)
    (hl' : Nat.ble (off + us.length) cs.length = true) (hcs : cs.take off ++ us ++ cs.drop (off + us.length) = cs') (k : ∀ w', Gr w w' (some b) → Bx w' b cs' → L P n ops N R X rest t w') :
    L P n ops N R X (⟨none, .store T x y, ty, pos, aft, none⟩ :: rest) t w := by
  have h1 : ∀ u ∈ us, u.oneCell' = true := fun u hu => List.all_eq_true.1 h1' u hu
  have hl : off + us.length ≤ cs.length := Nat.le_of_ble_eq_true hl'
  obtain ⟨e, hB⟩ := hB
  have hr := run_storeCells_at P b off e us 0 cs.toArray w hB (by simpa using hl) h1
  simp only [Nat.add_zero] at hr
  subst hcs
  have hr : (storeCells ⟨b, off, none⟩ us).run P w = .ok () (w.setRow b (cs.take off ++ us ++ cs.drop (off + us.length)).toArray) := hr
  refine L_ou rfl (w.setRow b (cs.take off ++ us ++ cs.drop (off + us.length)).toArray) ?_ (k _ (Gr.setRow _ _ _) ⟨e, setRow_heap w b _ _ e _ hB⟩)
  simp only [execOp, hx, Instr.storeAt, Instr.sureAddr, Sem.run_bind, Sem.run_pure, Result.andThen_ok, storeVar, hs w, hy, List.size_toArray, ne_eq, not_true, if_false, hr]
theorem splice (A B C us : List Value) (off : Nat) (h : off + us.length ≤ B.length) :
    (A ++ (B ++ C)).take (A.length + off) ++ us ++ (A ++ (B ++ C)).drop (A.length + off + us.length) = A ++ (B.take off ++ us ++ B.drop (off + us.length)) ++ C := by
  rw [Nat.add_assoc, List.take_length_add_append, List.drop_length_add_append, List.take_append_of_le_length (by omega), List.drop_append_of_le_length (by omega)]
  simp
theorem splice_take (cur us : List Value) (a M : Nat) (h : a + us.length ≤ M) (hM : M ≤ cur.length) :
    (cur.take a ++ us ++ cur.drop (a + us.length)).take M = (cur.take M).take a ++ us ++ (cur.take M).drop (a + us.length) := by
  have h1 : (cur.take a).length = a := by rw [List.length_take]; omega
  rw [List.take_take, Nat.min_eq_left (by omega), List.drop_take, List.take_append, List.take_append, h1, List.take_of_length_le (l := cur.take a) (by omega), List.take_of_length_le (l := us) (by omega), List.length_append, h1]
theorem L_ste {α : Type} {kd : Kd α} {e T : TypeId} {O : Ob} (A : Option Addr) (m c : Nat) (xs : List α) (ho : Ow kd e w O (.slice A m c) xs) (i : Int) (hi : 0 ≤ i ∧ i < (xs.length : Int)) (ad : Addr) (hA : A = some ad) (off : Nat)
    (hx : evt n t x = .pointer (some ((ad.add (i.toNat * kd.sz)).add off))) (us : List Value) (hy : (evt n t y).cells = us.toArray) (hs : SizeOf P T us.length) (hl' : Nat.ble (off + us.length) kd.sz = true)
    (x' : α) (cs cs' : List Value) (hcell : ∀ j u, cs[j]? = some u → w.cell? ((ad.add (i.toNat * kd.sz)).add j) = some u) (hlen : cs.length = kd.sz) (hcs : cs.take off ++ us ++ cs.drop (off + us.length) = cs') (hR : kd.R w (Fr O) x' cs')
    (k : ∀ w', Gr w w' (blk (.slice A m c)) → Ow kd e w' O (.slice A m c) (xs.set i.toNat x') → L P n ops N R X rest t w') :
    L P n ops N R X (⟨none, .store T x y, ty, pos, aft, none⟩ :: rest) t w := by
  have hl : off + us.length ≤ kd.sz := Nat.le_of_ble_eq_true hl'
  obtain ⟨cells, h1, h2, h3⟩ := ho
  have hin : i.toNat < xs.length := by omega
  rcases h1.2 with ⟨_, e'⟩ | ⟨g, cap, cur, ev, _, hg, hle, hmx, hcur, htake⟩
  · omega
  · cases ev
    cases hA
    have hlc := h2.len
    have hmul : i.toNat * kd.sz + kd.sz ≤ xs.length * kd.sz := by rw [← Nat.succ_mul]; exact Nat.mul_le_mul_right _ hin
    have hcap : xs.length * kd.sz ≤ cur.size := by rw [hcur]; exact Nat.mul_le_mul_right _ hle
    have hcells : cells.length = xs.length * kd.sz := h2.len
    have hone : ∀ u ∈ us, u.oneCell' = true := fun u hu => kd.one hR u (by subst hcs; simp [hu])
    have hr := run_storeCells_at P g (i.toNat * kd.sz + off) e us 0 cur w hg (by omega) hone
    simp only [Nat.add_zero] at hr
    have had : ((⟨g, 0, none⟩ : Addr).add (i.toNat * kd.sz)).add off = ⟨g, i.toNat * kd.sz + off, none⟩ := by
      rw [add_add]; unfold Addr.add; split <;> simp_all
    have hcs0 : cs = (cells.drop (i.toNat * kd.sz)).take kd.sz := by
      apply List.ext_getElem?
      intro j
      by_cases hj : j < kd.sz
      · obtain ⟨u, hu⟩ : ∃ u, cs[j]? = some u := ⟨cs[j]'(by omega), by simp [hlen, hj]⟩
        have hc := hcell j u hu
        rw [add_add, show (⟨g, 0, none⟩ : Addr).add (i.toNat * kd.sz + j) = ⟨g, i.toNat * kd.sz + j, none⟩ by unfold Addr.add; split <;> simp_all] at hc
        rw [cell_of_row w g _ cur e (0, 0) hg] at hc
        rw [hu, List.getElem?_take, if_pos hj, List.getElem?_drop, ← htake, List.getElem?_take, if_pos (by omega)]
        simpa using hc.symm
      · rw [List.getElem?_eq_none (by omega), List.getElem?_eq_none (by rw [List.length_take]; omega)]
    rw [had] at hx
    refine L_ou rfl _ (show _ = Result.ok _ (w.setRow g (cur.toList.take (i.toNat * kd.sz + off) ++ us ++ cur.toList.drop (i.toNat * kd.sz + off + us.length)).toArray) from ?_) (k _ (Gr.setRow _ _ _) ?_)
    · simp only [execOp, hx, Instr.storeAt, Instr.sureAddr, Sem.run_bind, Sem.run_pure, Result.andThen_ok, storeVar, hs w, hy, List.size_toArray, ne_eq, not_true, if_false, hr]
    have hset := h2.set i.toNat x' cs' hin hR
    have e0 : cells = cells.take (i.toNat * kd.sz) ++ (cs ++ cells.drop (i.toNat * kd.sz + kd.sz)) := by
      rw [hcs0, ← List.drop_drop, List.take_append_drop, List.take_append_drop]
    have hla : (cells.take (i.toNat * kd.sz)).length = i.toNat * kd.sz := by rw [List.length_take]; omega
    have e2 : cells.take (i.toNat * kd.sz) ++ cs' ++ cells.drop (i.toNat * kd.sz + kd.sz) = cells.take (i.toNat * kd.sz + off) ++ us ++ cells.drop (i.toNat * kd.sz + off + us.length) := by
      have := splice (cells.take (i.toNat * kd.sz)) cs (cells.drop (i.toNat * kd.sz + kd.sz)) us off (by omega)
      rw [← e0, hla, hcs] at this
      exact this.symm
    rw [e2] at hset
    refine ⟨_, ⟨by rw [hset.len, List.length_set], .inr ⟨g, c, _, by rw [List.length_set], Nat.zero_le _, setRow_heap w g cur _ e _ hg, by rw [List.length_set]; exact hle, hmx, ?_, ?_⟩⟩,
      hset.keep fun b hS hb => (Gr.setRow w g _).block b hb (fun e => hS (e ▸ h3 g rfl)), h3⟩
    · simp only [List.size_toArray, List.length_append, List.length_take, List.length_drop, Array.length_toList]
      omega
    · rw [List.length_set, List.toList_toArray, ← htake]
      exact splice_take cur.toList us (i.toNat * kd.sz + off) (xs.length * kd.sz) (by omega) (by rw [Array.length_toList]; exact hcap)

structure EI (P : Program) (T e : TypeId) (sz bytes : Nat) (zc : List Value) : Prop where
  un : P.underlying T = some (.slice e)
  inf : ∃ i z, P.info? e = some i ∧ i.zero = some z ∧ i.size = sz ∧ i.bytes = bytes ∧ z.cells.toList = zc
  len : zc.length = sz
  pos : 0 < sz
  byt : bytes ≤ 524288
theorem L_ste1 {α : Type} {kd : Kd α} {e T : TypeId} {O : Ob} (A : Option Addr) (m c : Nat) (xs : List α) (ho : Ow kd e w O (.slice A m c) xs) (i : Int) (hi : 0 ≤ i ∧ i < (xs.length : Int)) (ad : Addr) (hA : A = some ad) (off : Nat)
    (hx : evt n t x = .pointer (some ((ad.add (i.toNat * kd.sz)).add off))) (us : List Value) (hy : (evt n t y).cells = us.toArray) (hs : SizeOf P T us.length) (hl' : Nat.ble (off + us.length) kd.sz = true)
    (x' : α) (cs cs' : List Value) (hcell : ∀ j u, cs[j]? = some u → w.cell? ((ad.add (i.toNat * kd.sz)).add j) = some u) (hlen : cs.length = kd.sz) (hcs : cs.take off ++ us ++ cs.drop (off + us.length) = cs') (hR : kd.R w (Fr O) x' cs')
    (k : ∀ w', Gr w w' (blk (.slice A m c)) → Ow kd e w' O (.slice A m c) (xs.set i.toNat x') → L P n ops N R X rest t w') :
    L P n ops N R X (⟨none, .store T x y, ty, pos, aft, none⟩ :: rest) t w :=
  L_ste A m c xs ho i hi ad hA off hx us hy hs hl' x' cs cs' hcell hlen hcs hR k
theorem L_ste0 {α : Type} {kd : Kd α} {e T : TypeId} {O : Ob} (A : Option Addr) (m c : Nat) (xs : List α) (ho : Ow kd e w O (.slice A m c) xs) (i : Int) (hi : 0 ≤ i ∧ i < (xs.length : Int)) (ad : Addr) (hA : A = some ad) (off : Nat)
    (hx : evt n t x = .pointer (some (ad.add (i.toNat * kd.sz)))) (us : List Value) (hy : (evt n t y).cells = us.toArray) (hs : SizeOf P T us.length) (hl' : Nat.ble (0 + us.length) kd.sz = true)
    (x' : α) (cs cs' : List Value) (hcell : ∀ j u, cs[j]? = some u → w.cell? ((ad.add (i.toNat * kd.sz)).add j) = some u) (hlen : cs.length = kd.sz) (hcs : cs.take 0 ++ us ++ cs.drop (0 + us.length) = cs') (hR : kd.R w (Fr O) x' cs')
    (k : ∀ w', Gr w w' (blk (.slice A m c)) → Ow kd e w' O (.slice A m c) (xs.set i.toNat x') → L P n ops N R X rest t w') :
    L P n ops N R X (⟨none, .store T x y, ty, pos, aft, none⟩ :: rest) t w :=
  L_ste1 A m c xs ho i hi ad hA 0 hx us hy hs hl' x' cs cs' hcell hlen hcs hR k
theorem L_ste2 {α : Type} {kd : Kd α} {e T : TypeId} {O : Ob} (A : Option Addr) (m c : Nat) (xs : List α) (ho : Ow kd e w O (.slice A m c) xs) (i : Int) (hi : 0 ≤ i ∧ i < (xs.length : Int)) (ad : Addr) (hA : A = some ad) (off : Nat) {o1 o2 : Nat} (ho12 : o1 + o2 = off)
    (hx : evt n t x = .pointer (some (((ad.add (i.toNat * kd.sz)).add o1).add o2))) (us : List Value) (hy : (evt n t y).cells = us.toArray) (hs : SizeOf P T us.length) (hl' : Nat.ble (off + us.length) kd.sz = true)
    (x' : α) (cs cs' : List Value) (hcell : ∀ j u, cs[j]? = some u → w.cell? ((ad.add (i.toNat * kd.sz)).add j) = some u) (hlen : cs.length = kd.sz) (hcs : cs.take off ++ us ++ cs.drop (off + us.length) = cs') (hR : kd.R w (Fr O) x' cs')
    (k : ∀ w', Gr w w' (blk (.slice A m c)) → Ow kd e w' O (.slice A m c) (xs.set i.toNat x') → L P n ops N R X rest t w') :
    L P n ops N R X (⟨none, .store T x y, ty, pos, aft, none⟩ :: rest) t w :=
  L_ste1 A m c xs ho i hi ad hA off (by rw [hx, add_add, ho12]) us hy hs hl' x' cs cs' hcell hlen hcs hR k
theorem EI_mk {P : Program} {T e : TypeId} {sz bytes : Nat} {z : Value} {zc : List Value} (hu : P.underlying T = some (.slice e)) (h : (P.info? e).map (fun i => (i.zero, i.size, i.bytes)) = some (some z, sz, bytes)) (hz : z.cells.toList = zc) (hl : zc.length = sz) (hp : 0 < sz) (hb : bytes ≤ 524288) : EI P T e sz bytes zc := by
  cases hi : P.info? e with
  | none => simp [hi] at h
  | some i =>
    simp [hi] at h
    exact ⟨hu, ⟨i, z, hi, h.1, h.2.1, h.2.2, hz⟩, hl, hp, hb⟩
theorem EI.size {P : Program} {T e : TypeId} {sz bytes : Nat} {zc : List Value} (E : EI P T e sz bytes zc) : SizeOf P e sz := by
  obtain ⟨i, z, hi, _, hs, _⟩ := E.inf
  exact SizeOf_mk (by simp [hi, hs])
def Sx {α : Type} (k : Kd α) (w : World) (S : Sp) (v : Value) (xs : List α) : Prop :=
  ∃ A c cells, v = .slice A xs.length c ∧ (xs.length ≤ c ∧ c ≤ 9223372036854775807) ∧ Arr k w S xs cells ∧ ∀ j u, cells[j]? = some u → ∃ ad, A = some ad ∧ w.cell? (ad.add j) = some u
theorem Sl.sx {α : Type} {k : Kd α} {w : World} {S : Sp} {v : Value} {xs : List α} (h : Sl k w S v xs) : Sx k w S v xs := by
  obtain ⟨A, c, cells, e, h1, h2, h3⟩ := h
  exact ⟨A, c, cells, e, h1, h2, fun j u hu => let ⟨ad, ea, _, hc⟩ := h3 j u hu; ⟨ad, ea, hc⟩⟩
theorem Ow.sx {α : Type} {k : Kd α} {e : TypeId} {w : World} {O : Ob} {v : Value} {xs : List α} (h : Ow k e w O v xs) : Sx k w (Fr O) v xs := by
  obtain ⟨cells, h1, h2, h3⟩ := h
  obtain ⟨A, c, rfl⟩ := ownsRow.shape h1
  have hc : xs.length ≤ c ∧ c ≤ 9223372036854775807 := by
    rcases h1.2 with ⟨e, e'⟩ | ⟨g, cap, cur, e, _, _, h, hm, _⟩
    · simp only [Value.slice.injEq] at e; omega
    · cases e; exact ⟨h, hm⟩
  refine ⟨A, c, cells, rfl, hc, h2, fun j u hu => ?_⟩
  rcases h1.2 with ⟨e, e'⟩ | ⟨g, cap, cur, e, _, hg, h, _⟩
  · have := h1.1
    have hl : cells = [] := List.length_eq_zero_iff.1 (by rw [this, e']; simp)
    subst hl; simp at hu
  · cases e
    exact ⟨_, rfl, World.ownsRow.cells h1 (g := g) rfl j u hu⟩
theorem append_none {T e : TypeId} {sz bytes : Nat} {zc : List Value} (E : EI P T e sz bytes zc) (ty' : TypeId) (O : Ob) (v : Value) (m : Nat) (cells : List Value) (h : w.ownsRow 0 e sz v m cells) (A : Option Addr) (c : Nat) :
    (Builtin.append_ #[T, T] ty' #[v, .slice A 0 c]).run P w = .ok v w := by
  obtain ⟨i, z, hi, hz, hs, hb, hzc⟩ := E.inf
  rcases h.2 with ⟨rfl, rfl⟩ | ⟨g, cap, cur, rfl, _, _, hle, _⟩
  · cases A <;> simp [Builtin.append_, run_underlying E.un, sizeOf, typeInfo, hi, Builtin.lenOf, Builtin.firstCells, loadCells, loadCellsFrom]
  · cases A <;> simp [Builtin.append_, run_underlying E.un, sizeOf, typeInfo, hi, Builtin.lenOf, Builtin.firstCells, loadCells, loadCellsFrom, hle, storeCells]
theorem append_run {T e : TypeId} {bytes : Nat} {zc : List Value} {α : Type} {k : Kd α} (E : EI P T e k.sz bytes zc) (ty' : TypeId) {O : Ob} (v : Value) (xs ys : List α) (ho : Ow k e w O v xs) (u : Value) (hs : Sx k w (Fr O) u ys)
    (i : Nat) (hi : O[i]? = some (blk v)) (hn : xs.length + ys.length ≤ 268435456) :
    ∃ v' w', (Builtin.append_ #[T, T] ty' #[v, u]).run P w = .ok v' w' ∧ Gr w w' (blk v) ∧ (blk v' = blk v ∨ ∀ b, blk v' = some b → w.heap.size ≤ b) ∧ Ow k e w' (O.set i (blk v')) v' (xs ++ ys) := by
  obtain ⟨cells, h1, h2, h3⟩ := ho
  obtain ⟨A, c, news, rfl, hc, g2, g3⟩ := hs
  obtain ⟨ti, z, hti, hz, hsz, hb, hzc⟩ := E.inf
  by_cases hy : ys = []
  · subst hy
    refine ⟨v, w, append_none E ty' O v _ cells h1 A c, Gr.refl _ _, .inl rfl, cells, by simpa using h1, ?_, fun b hb => ?_⟩
    · rw [List.append_nil]
      exact h2.mono fun b hS _ hm => by
        rcases List.mem_or_eq_of_mem_set hm with hm | e'
        · exact hS hm
        · exact hS (h3 b e'.symm)
    · rw [← hb]; exact List.mem_set (by exact (List.getElem?_eq_some_iff.1 hi).1) _
  · obtain ⟨ad, rfl⟩ : ∃ ad, A = some ad := by
      have hl := g2.len
      have : 0 < news.length := by rw [hl]; exact Nat.mul_pos (List.length_pos_iff.2 hy) E.pos
      obtain ⟨ad, ea, _⟩ := g3 0 news[0] (by simp)
      exact ⟨ad, ea⟩
    have hnews : ∀ j u, news[j]? = some u → w.cell? (ad.add j) = some u := fun j u hu => by
      obtain ⟨ad', ea, hc⟩ := g3 j u hu
      cases ea; exact hc
    have hbytes : (xs.length + ys.length) * bytes ≤ 140737488355328 := Nat.le_trans (Nat.mul_le_mul hn E.byt) (by omega)
    have hml : xs.length + ys.length ≤ maxLen := by unfold maxLen; omega
    have hzs : z.cells.size = k.sz := by rw [← Array.length_toList, hzc, E.len]
    obtain ⟨v', w', hr, o', gr, _⟩ := run_append_own (P := P) w 0 T ty' e ti z k.sz bytes E.un hti hz hsz hb hzs E.pos v xs.length cells h1 ad ys.length c news g2.len hnews g2.one hml hbytes (Nat.zero_le _)
    rw [own_blk] at gr
    have hblk : blk v' = blk v ∨ blk v' = some w.heap.size := by
      have hlen63 : ((xs.length + ys.length : Nat) : Int) ≤ 9223372036854775807 := by omega
      rcases h1.2 with ⟨rfl, e'⟩ | ⟨g, cap, cur, rfl, _, hg, hle, _⟩
      · have h0 : xs = [] := List.length_eq_zero_iff.1 e'
        subst h0
        have hpos : 0 < ys.length := List.length_pos_iff.2 hy
        have := run_append_nil (P := P) w T ty' e ti z E.un hti hz ad ys.length c news (by rw [g2.len, hsz]) hnews hpos (by simpa using hlen63) (by rw [hb]; simp at hbytes; omega)
        rw [this] at hr
        cases hr; exact .inr rfl
      · by_cases hroom : xs.length + ys.length ≤ cap
        · obtain ⟨w'', hr', _⟩ := run_append_fits (P := P) w 0 T ty' e ti k.sz E.un hti hsz g xs.length cap cells h1 ad ys.length c news g2.len hnews g2.one hroom
          rw [hr'] at hr
          cases hr; exact .inl rfl
        · have := run_append_grow (P := P) w T ty' e ti z E.un hti hz ⟨g, 0, none⟩ xs.length cap cells (by rw [h2.len, hsz]) (World.ownsRow.cells h1 (g := g) rfl) ad ys.length c news (by rw [g2.len, hsz]) hnews (by omega) hlen63 (growslice_fits (by omega) (by rw [hb]; exact hbytes))
          rw [this] at hr
          cases hr; exact .inr rfl
    have hil : i < O.length := (List.getElem?_eq_some_iff.1 hi).1
    refine ⟨v', w', hr, gr, hblk.imp id fun h b e => by rw [h] at e; cases e; exact Nat.le_refl _, cells ++ news, by rw [List.length_append]; exact o', ?_, fun b hb => by rw [← hb]; exact List.mem_set hil _⟩
    have key : Arr k w (fun b => some b ∉ O ∧ b < w.heap.size) (xs ++ ys) (cells ++ news) := (h2.mono fun b hS hb => ⟨hS, hb⟩).app (g2.mono fun b hS hb => ⟨hS, hb⟩)
    refine (key.keep fun b hS hb => gr.block b hb fun e => hS.1 ?_).mono fun b hS hb hm => ?_
    · rw [e]; exact List.mem_of_getElem? hi
    · rcases List.mem_or_eq_of_mem_set hm with hm | e'
      · exact hS.1 hm
      · rcases hblk with h | h
        · exact hS.1 (by rw [e', h]; exact List.mem_of_getElem? hi)
        · rw [h] at e'; cases e'; exact absurd hS.2 (Nat.lt_irrefl _)
theorem L_app {T e : TypeId} {bytes : Nat} {zc : List Value} {α : Type} {kd : Kd α} (E : EI P T e kd.sz bytes zc) {O M : Ob} {w0 : World} {mr : Ob} (hC : Ct mr w0 w M O) (v : Value) (xs ys : List α) (hx : evt n t x = v) (ho : Ow kd e w (M ++ O) v xs)
    (u : Value) (hy : evt n t y = u) (hs : Sx kd w (Fr (M ++ O)) u ys) (i : Nat) (hi : M[i]? = some (blk v)) (hn : xs.length + ys.length ≤ 268435456)
    (k : ∀ w' A l c, Gr w w' (blk v) → St w (M ++ O) w' (M.set i (bk A) ++ O) → Ct mr w0 w' (M.set i (bk A)) O →
      Ow kd e w' (M.set i (bk A) ++ O) (.slice A l c) (xs ++ ys) → L P n ops N R X rest (upd d (.slice A l c) t) w') :
    L P n ops N R X (⟨some d, .call ⟨.builtin .append, #[x, y], #[T, T]⟩, ty, pos, aft, none⟩ :: rest) t w := by
  have hi' := get_app (O := O) hi
  obtain ⟨v', w', hr, gr, hb, ho'⟩ := append_run E ty v xs ys ho u hs i hi' hn
  rw [set_app hi] at ho'
  obtain ⟨A, c, rfl⟩ := ho'.shape
  refine L_op rfl _ w' (by simp [execOp, resolve, hx, hy, invoke, builtin, hr]) (k w' A _ c gr (by rw [← set_app hi]; exact .mod i _ _ hi' gr hb) (hC.mod i _ _ hi gr (hb.imp id fun h b e => ⟨h b e, ho'.ltb b e⟩)) ho')
theorem Arr.rep {α : Type} {k : Kd α} {S : Sp} (z : α) (zc : List Value) (h : k.R w S z zc) : ∀ m, Arr k w S (List.replicate m z) (List.replicate m zc).flatten
  | 0 => rfl
  | m + 1 => ⟨zc, _, rfl, h, Arr.rep z zc h m⟩
theorem made_list (zc : List Value) (hpos : 0 < zc.length) : ∀ m, (madeCells zc.toArray (m * zc.length)).toList = (List.replicate m zc).flatten := by
  intro m
  apply List.ext_getElem?
  intro j
  have hm : ∀ m j, (List.replicate m zc).flatten[j]? = if j < m * zc.length then zc[j % zc.length]? else none := by
    intro m
    induction m with
    | zero => intro j; simp
    | succ m ih =>
      intro j
      rw [List.replicate_succ, List.flatten_cons]
      by_cases hj : j < zc.length
      · rw [List.getElem?_append_left hj, Nat.mod_eq_of_lt hj, if_pos (by rw [Nat.add_mul]; omega)]
      · rw [List.getElem?_append_right (by omega), ih (j - zc.length), Nat.add_mul, Nat.one_mul]
        have hmod : (j - zc.length) % zc.length = j % zc.length := by
          conv => rhs; rw [← Nat.sub_add_cancel (Nat.le_of_not_lt hj), Nat.add_mod_right]
        rw [hmod]
        by_cases h2 : j - zc.length < m * zc.length
        · rw [if_pos h2, if_pos (by omega)]
        · rw [if_neg h2, if_neg (by omega)]
  rw [hm m j, madeCells, Array.toList_map, Array.toList_range, List.getElem?_map]
  by_cases hj : j < m * zc.length
  · rw [List.getElem?_range hj, if_pos hj]
    have : j % zc.length < zc.length := Nat.mod_lt _ hpos
    simp [this]
  · rw [List.getElem?_eq_none (by simp; omega), if_neg hj]; rfl
theorem L_make {T e : TypeId} {bytes : Nat} {zc : List Value} {α : Type} {kd : Kd α} (E : EI P T e kd.sz bytes zc) {O M : Ob} {w0 : World} {mr : Ob} (hC : Ct mr w0 w M O) (z : α) (hz : kd.R w (Fr (M ++ O)) z zc) (m : Int) (hx : evt n t x = vi m) (hy : evt n t y = vi m) (hm : 0 ≤ m ∧ m ≤ 268435456)
    (k : ∀ w' A l c, Gr w w' none → (∀ b, bk A = some b → w.heap.size ≤ b) → Ct mr w0 w' (bk A :: M) O →
      Ow kd e w' (bk A :: M ++ O) (.slice A l c) (List.replicate m.toNat z) → L P n ops N R X rest (upd d (.slice A l c) t) w') :
    L P n ops N R X (⟨some d, .makeSlice T x y, ty, pos, aft, none⟩ :: rest) t w := by
  obtain ⟨ti, zv, hti, hzv, hsz, hb, hzc⟩ := E.inf
  have hbb := E.byt
  have hmul : (ti.bytes : Int) * m ≤ 281474976710656 := by
    have h1 : (ti.bytes : Int) ≤ 524288 := by rw [hb]; exact Int.ofNat_le.2 hbb
    have h2 : (ti.bytes : Int) * m ≤ 524288 * 268435456 := Int.mul_le_mul h1 hm.2 hm.1 (by omega)
    omega
  have hr := run_make (P := P) w T e ti zv E.un hti hzv .i64 .i64 m m hm.1 (Int.le_refl _) hmul (by omega)
  have hzl : zv.cells = zc.toArray := by rw [← hzc]
  have hcl : madeCells zv.cells (m.toNat * ti.size) = ((List.replicate m.toNat zc).flatten).toArray := by
    apply Array.ext'
    rw [hzl, hsz, ← E.len, made_list zc (by rw [E.len]; exact E.pos)]
  rw [hcl] at hr
  have harr := Arr.rep (w := w) z zc hz m.toNat
  have hal := harr.len
  rw [List.length_replicate] at hal
  refine L_op rfl (.slice (some ⟨w.heap.size, 0, none⟩) (List.replicate m.toNat z).length m.toNat) _ (by rw [List.length_replicate]; simp only [execOp, hx, hy, Sem.run_bind, hr, Result.andThen_ok, Sem.run_pure]; rfl) (k _ (some ⟨w.heap.size, 0, none⟩) _ _ (Gr.alloc _ _) (fun b e => by cases e; exact Nat.le_refl _)
    (hC.own (Gr.alloc _ _) _ fun b e => by cases e; simp) ⟨(List.replicate m.toNat zc).flatten, ?_, ?_, fun b e => by rw [← e]; exact List.mem_cons_self⟩)
  · rw [List.length_replicate]
    have := World.ownsRow_lit (e := e) (base := 0) (size := kd.sz) w ((List.replicate m.toNat zc).flatten).toArray m.toNat (Nat.zero_le _) (by unfold maxLen; omega) (by simpa using hal)
    simpa using this
  · exact (harr.mono fun b hS hb => (⟨hS, hb⟩ : some b ∉ M ++ O ∧ b < w.heap.size)).keep (fun b hS hb => (Gr.alloc w _).block b hb (by simp)) |>.mono fun b hS _ hm => by
      rcases List.mem_cons.1 hm with e' | hm
      · cases e'; exact absurd hS.2 (Nat.lt_irrefl _)
      · exact hS.1 hm
theorem L_lit {T e : TypeId} {bytes : Nat} {zc : List Value} {α : Type} {kd : Kd α} (E : EI P T e kd.sz bytes zc) {O M : Ob} {w0 : World} {mr : Ob} (hC : Ct mr w0 w M O) (xs : List α) {cells : List Value} (ha : Arr kd w (Fr (M ++ O)) xs cells) {m : Nat} {parts : Array (Nat × Operand)}
    (hr : ∀ w : World, (Instr.buildSlice T m (parts.toList.map fun p => (p.1, evt n t p.2)).toArray).run P w = .ok (.slice (some ⟨w.heap.size, 0, none⟩) xs.length xs.length) (w.alloc (.cells cells.toArray e)))
    (k : ∀ w' A l c, Gr w w' none → (∀ b, bk A = some b → w.heap.size ≤ b) → Ct mr w0 w' (bk A :: M) O →
      Ow kd e w' (bk A :: M ++ O) (.slice A l c) xs → L P n ops N R X rest (upd d (.slice A l c) t) w') (hx : Nat.ble xs.length 268435456 = true := by rfl) :
    L P n ops N R X (⟨some d, .buildSlice T m parts, ty, pos, aft, none⟩ :: rest) t w := by
  have hlen := ha.len
  have hxl : xs.length ≤ 268435456 := Nat.le_of_ble_eq_true hx
  refine L_op rfl (.slice (some ⟨w.heap.size, 0, none⟩) xs.length xs.length) _ (by have hr := hr w; rw [← map_toL] at hr; simp only [execOp]; rw [Sem.run_bind]; exact (congrArg (fun r => Result.andThen r _) hr)) (k _ (some ⟨w.heap.size, 0, none⟩) _ _ (Gr.alloc _ _) (fun b e => by cases e; exact Nat.le_refl _)
    (hC.own (Gr.alloc _ _) _ fun b e => by cases e; simp) ⟨cells, ?_, ?_, fun b e => by rw [← e]; exact List.mem_cons_self⟩)
  · have := World.ownsRow_lit (e := e) (base := 0) (size := kd.sz) w cells.toArray xs.length (Nat.zero_le _) (by unfold maxLen; omega) (by simpa using hlen)
    simpa using this
  · exact (ha.mono fun b hS hb => (⟨hS, hb⟩ : some b ∉ M ++ O ∧ b < w.heap.size)).keep (fun b hS hb => (Gr.alloc w _).block b hb (by simp)) |>.mono fun b hS _ hm => by
      rcases List.mem_cons.1 hm with e' | hm
      · cases e'; exact absurd hS.2 (Nat.lt_irrefl _)
      · exact hS.1 hm
def Ret (P : Program) (f : FuncId) (args : List Value) (w : World) (Q : Value → World → Prop) : Prop := Calls P f args.toArray w fun e w' => ∃ v, e = .returned v ∧ Q v w'
def Goes (P : Program) (f : FuncId) : Prop := ∃ fn, P.funcs[f]? = some fn ∧ (fn.name == "runtime.NumGoroutine") = false ∧ fn.body.isNone = false
theorem Goes.run {f : FuncId} (h : Goes P f) (args : Array Value) (w : World) : (callFunc f args).run P w = .ok (.enter f args) w := by
  obtain ⟨fn, h1, h2, h3⟩ := h
  simp only [callFunc, Sem.run_bind, run_program, Result.andThen_ok, h1, h2, h3, Bool.false_eq_true, if_false]
  rfl
theorem Ret.mono {f : FuncId} {args : List Value} {Q Q' : Value → World → Prop} (h : Ret P f args w Q) (hq : ∀ v w', Q v w' → Q' v w') : Ret P f args w Q' :=
  Calls.mono h fun e w' ⟨v, he, hv⟩ => ⟨v, he, hq v w' hv⟩
theorem L_call {f : FuncId} (hg : Goes P f) {ax : Array Operand} {ts : Array TypeId} (args : List Value) (ha0 : ax.toList.map (evt n t) = args) (h : Ret P f args w fun v w' => L P n ops N R X rest (upd d v t) w') :
    L P n ops N R X (⟨some d, .call ⟨.value (.func f), ax, ts⟩, ty, pos, aft, none⟩ :: rest) t w := by
  unfold L at h ⊢
  exact wpList_plain rfl fun K hK => by
    unfold Oper.wp
    have ha : ax.map (evt n t) = args.toArray := by rw [← ha0]; exact map_toL _ _
    have : (execOp (acts n t).eval ⟨some d, .call ⟨.value (.func f), ax, ts⟩, ty, pos, aft, none⟩).run P w = .ok (.enter f args.toArray) w := by
      rw [acts_evalf]
      simp [execOp, resolve, evt, Deferred.ofValue, invoke, ha, hg.run]
    rw [this, Oper.upon_enter]
    refine Calls.mono h fun e w' ⟨v, he, hv⟩ => ?_
    subst he
    have := hK _ _ hv
    rwa [show acts n (upd d v t) = (acts n t).put (some d) v from (acts_put n t (some d) v).symm] at this
theorem Q_call {f : FuncId} (hg : Goes P f) {ax : Array Operand} {ts : Array TypeId} (args : List Value) (ha0 : ax.toList.map (evt n t) = args) (v : Value) (h : ∀ w', C w' → Ret P f args w' fun u w'' => u = v ∧ C w'') (k : Lq P n ops C N rest (upd d v t)) :
    Lq P n ops C N (⟨some d, .call ⟨.value (.func f), ax, ts⟩, ty, pos, aft, none⟩ :: rest) t := by
  have ha : ax.map (evt n t) = args.toArray := by rw [← ha0]; exact map_toL _ _
  unfold Lq at k ⊢
  unfold wpQuiet
  rw [if_pos (by simp [Region.wanted])]
  refine ⟨v, fun w hw => ?_, by rw [acts_put]; exact k⟩
  unfold Oper.quietAt
  have : (execOp (acts n t).eval ⟨some d, .call ⟨.value (.func f), ax, ts⟩, ty, pos, aft, none⟩).run P w = .ok (.enter f args.toArray) w := by
    rw [acts_evalf]
    simp [execOp, resolve, evt, Deferred.ofValue, invoke, ha, hg.run]
  rw [this]
  refine ⟨rfl, Calls.mono (h w hw) fun e w' ⟨u, he, hu, hc⟩ => ⟨by rw [he, hu], hc⟩⟩
theorem L_callv {fv : Operand} {f : FuncId} (hg : Goes P f) (cap : List Value) (hf : evt n t fv = .func (.func f) #[] cap.toArray) {ax : Array Operand} {ts : Array TypeId} (args : List Value) (ha0 : ax.toList.map (evt n t) = args)
    (h : Ret P f (args ++ cap) w fun v w' => L P n ops N R X rest (upd d v t) w') :
    L P n ops N R X (⟨some d, .call ⟨.value fv, ax, ts⟩, ty, pos, aft, none⟩ :: rest) t w := by
  unfold L at h ⊢
  exact wpList_plain rfl fun K hK => by
    unfold Oper.wp
    have ha : ax.map (evt n t) = args.toArray := by rw [← ha0]; exact map_toL _ _
    have : (execOp (acts n t).eval ⟨some d, .call ⟨.value fv, ax, ts⟩, ty, pos, aft, none⟩).run P w = .ok (.enter f (args ++ cap).toArray) w := by
      rw [acts_evalf]
      simp [execOp, resolve, hf, Deferred.ofValue, invoke, ha, hg.run]
    rw [this, Oper.upon_enter]
    refine Calls.mono h fun e w' ⟨v, he, hv⟩ => ?_
    subst he
    have := hK _ _ hv
    rwa [show acts n (upd d v t) = (acts n t).put (some d) v from (acts_put n t (some d) v).symm] at this

def Res (P : Program) (n : Nat) (t : Tm) (w : World) : List ResultVar → List Value → Prop
  | [], vs => vs = []
  | .tmp i :: rs, vs => ∃ us, vs = evt n t (.tmp i) :: us ∧ Res P n t w rs us
  | .cell i T :: rs, vs => ∃ v us, vs = v :: us ∧ (loadVar T =<< asAddr (evt n t (.tmp i))).run P w = .ok v w ∧ Res P n t w rs us
def packv : List Value → Value
  | [v] => v
  | vs => .tuple vs.toArray
theorem evt_getD (n : Nat) (t : Tm) (i : Nat) : (acts n t).tmps.getD i undef = evt n t (.tmp i) := acts_eval n t (.tmp i)
def rv (tm : Array Value) : ResultVar → Sem Value
  | .tmp i => pure (tm.getD i undef)
  | .cell a T => do loadVar T (← asAddr (tm.getD a undef))
theorem results_eq (fn : Func) (tm : Array Value) : results fn tm = (do let vs ← fn.results.mapM (rv tm); pure (if h : vs.size = 1 then vs[0] else .tuple vs)) := by
  unfold results
  congr 2
theorem rv_run : ∀ (rs : List ResultVar) (vs : List Value), Res P n t w rs vs → (rs.mapM (rv (acts n t).tmps)).run P w = .ok vs w
  | [], vs, h => by simp only [Res] at h; subst h; rfl
  | .tmp i :: rs, vs, ⟨us, e, h⟩ => by
    subst e
    simp only [List.mapM_cons, rv, Sem.run_bind, Sem.run_pure, Result.andThen_ok, evt_getD, rv_run rs us h]
  | .cell i T :: rs, vs, ⟨v, us, e, hv, h⟩ => by
    subst e
    have hv' : (do let x ← asAddr (evt n t (.tmp i)); loadVar T x : Sem Value).run P w = .ok v w := hv
    have h2 := rv_run rs us h
    rw [List.mapM_cons, Sem.run_bind]
    simp only [rv, evt_getD]
    rw [hv']
    simp only [Result.andThen_ok, Sem.run_bind, h2, Sem.run_pure]
theorem results_run (fn : Func) (rs : List ResultVar) (hrs : fn.results = rs.toArray) (vs : List Value) (h : Res P n t w rs vs) : (results fn (acts n t).tmps).run P w = .ok (packv vs) w := by
  rw [results_eq, hrs, List.mapM_toArray, Sem.run_bind, Sem.run_map, rv_run rs vs h]
  simp only [Result.andThen_ok, Sem.run_pure, packv]
  congr 1
  match vs with
  | [] => rfl
  | [v] => rfl
  | a :: b :: r => rfl
theorem Bx.res {b : Nat} {cs : List Value} (hB : Bx w b cs) {i T s : Nat} (hi : evt n t (.tmp i) = .pointer (some ⟨b, 0, none⟩)) (hT : IsAgg P T true) (hs : SizeOf P T s) (hl : cs.length = s := by rfl) :
    (loadVar T =<< asAddr (evt n t (.tmp i))).run P w = .ok (.agg cs.toArray) w := by
  subst hl
  rw [hi]
  have := loadCells_run (P := P) w ⟨b, 0, none⟩ cs (hB.cells (off := 0) (by simp))
  show ((asAddr (.pointer (some ⟨b, 0, none⟩))) >>= loadVar T).run P w = _
  simp [asAddr, loadVar, hT w, hs w, this]
theorem Ret_enter {f : FuncId} {fn : Func} {c : Code} {args : List Value} {Q : Value → World → Prop} (hf : P.funcs[f]? = some fn) (hb : fn.body = some c) (m : Nat) (hm : fn.ntmps = m) (rs : List ResultVar) (hrs : fn.results = rs.toArray) (hl : Nat.ble args.length m = true)
    (h : W P m c (fun t w' => ∃ vs, Res P m t w' rs vs ∧ Q (packv vs) w') (fun t w' => ∃ vs, Res P m t w' rs vs ∧ Q (packv vs) w') (fun _ _ _ => False) (argt args) w) : Ret P f args w Q := by
  refine calls_of_wp hf hb ?_
  rw [hm, acts_enter args m (Nat.le_of_ble_eq_true hl)]
  unfold W at h
  refine wp_mono h fun e a w' hq => ?_
  cases e <;> simp only [post] at hq
  · obtain ⟨t, rfl, vs, hr, hQ⟩ := hq
    exact ⟨rfl, packv vs, results_run fn rs hrs vs hr, _, rfl, hQ⟩
  · exact hq.choose_spec.2.elim
  · obtain ⟨t, rfl, vs, hr, hQ⟩ := hq
    exact ⟨rfl, packv vs, results_run fn rs hrs vs hr, _, rfl, hQ⟩
end
end
section
open Go.RowKit
abbrev nth {α : Type} [Inhabited α] (xs : List α) (i : Int) : α := xs.getD i.toNat default
theorem ite_t {b : Bool} {p q : Prop} (h : if b then p else q) (hb : b = true) : p := by rw [if_pos hb] at h; exact h
theorem ite_f {b : Bool} {p q : Prop} (h : if b then p else q) (hb : b = false) : q := by rw [if_neg (by rw [hb]; exact Bool.false_ne_true)] at h; exact h
theorem bool_or (b : Bool) : b = true ∨ b = false := by cases b <;> simp
theorem len_le {m : Nat} (h : m ≤ 9223372036854775807) : (m : Int) ≤ 9223372036854775807 := by omega
theorem i64_succ {b : Int} {m : Nat} (h : b < (m : Int)) (hm : m ≤ 9223372036854775807) (hl : -9223372036854775808 ≤ b) : I64 (b + 1) := by unfold I64; omega
theorem lim_cat {a b : Str} (h : a.length + b.length ≤ 9223372036854775807) : Lim (a ++ b) := by unfold Lim; rw [List.length_append]; exact h
theorem xin_hit {i : Nat} {N : Ps} {X : Nat → Ps} {t : Tm} {w : World} (h : N t w) : xin i N X i t w := by unfold xin; rw [Nat.beq_refl]; exact h
section
variable {P : Program} {n : Nat} {N R : Ps} {X : Nat → Ps} {t : Tm} {w : World}
theorem W_ct {c : Operand} {x y : Code} {b : Bool} (hc : evt n t c = .bool b) (hb : b = true) (h : W P n x N R X t w) : W P n (.cond c x y) N R X t w := W_cond b hc (fun _ => h) (fun e => by rw [hb] at e; cases e)
theorem W_cf {c : Operand} {x y : Code} {b : Bool} (hc : evt n t c = .bool b) (hb : b = false) (h : W P n y N R X t w) : W P n (.cond c x y) N R X t w := W_cond b hc (fun e => by rw [hb] at e; cases e) (fun _ => h)
end
theorem W_join {P : Program} {n : Nat} {N R : Ps} {X : Nat → Ps} {t : Tm} {w : World} {c : Code} {J : Ps} (h : W P n c J R X t w) (k : ∀ t w, J t w → N t w) : W P n c N R X t w :=
  W.mono h k (fun _ _ h => h) (fun _ _ _ h => h)
def Has (t : Tm) : List (Nat × Value) → Prop
  | [] => True
  | (d, v) :: l => t d = v ∧ Has t l
theorem hasI {t : Tm} : ∀ {l : List (Nat × Value)}, (l.map fun p => t p.1) = l.map (·.2) → Has t l
  | [], _ => trivial
  | (d, v) :: l, h => by simp only [List.map_cons, List.cons.injEq] at h; exact ⟨h.1, hasI h.2⟩
def insl : List (Nat × Value) → Tm → Tm
  | [], u => u
  | (d, v) :: l, u => upd d v (insl l u)
theorem Has.ins {t : Tm} : ∀ {l : List (Nat × Value)}, Has t l → ∃ u, t = insl l u
  | l, h => ⟨t, by
    induction l with
    | nil => rfl
    | cons p l ih =>
      obtain ⟨h1, h2⟩ := h
      funext i
      simp only [insl, upd, ← ih h2]
      by_cases e : i = p.1
      · subst e; rw [Nat.beq_refl]; exact h1
      · rw [beq_ne e]; rfl⟩
theorem Kd.int.op {kd : IntKind} {w : World} {S : Sp} {x : Int} {cs : List Value} (h : (Kd.int kd).R w S x cs) : cs = [.int kd x] := h
theorem Kd.byte.op {w : World} {S : Sp} {x : UInt8} {cs : List Value} (h : Kd.byte.R w S x cs) : cs = [v8 x] := h
theorem Kd.bool.op {w : World} {S : Sp} {x : Bool} {cs : List Value} (h : Kd.bool.R w S x cs) : cs = [vb x] := h
theorem Kd.str.op {w : World} {S : Sp} {x : Str} {cs : List Value} (h : Kd.str.R w S x cs) : cs = [vs x] ∧ Lim x := h
theorem Kd.sl.op {α : Type} {k : Kd α} {w : World} {S : Sp} {x : List α} {cs : List Value} (h : (Kd.sl k).R w S x cs) : ∃ A l c, cs = [.slice A l c] ∧ Sl k w S (.slice A l c) x := by
  obtain ⟨v, rfl, h⟩ := h
  obtain ⟨A, c, rfl⟩ := h.shape
  exact ⟨A, _, c, rfl, h⟩
theorem sub_cells {w : World} {a : Addr} {cs ds : List Value} {off : Nat} (h : ∀ j u, cs[j]? = some u → w.cell? (a.add j) = some u) (hd : (cs.drop off).take ds.length = ds) : ∀ j u, ds[j]? = some u → w.cell? ((a.add off).add j) = some u := fun j u hu => by
  rw [add_add]
  refine h _ _ ?_
  rw [← hd, List.getElem?_take] at hu
  split at hu
  · rwa [List.getElem?_drop] at hu
  · cases hu
section
variable {α : Type} {k : Kd α} {e : TypeId} {w0 w w' : World} {v : Value} {xs : List α} {O L rs m : Ob} {r r' : Option Nat} {b : Nat} {cs : List Value} {i j : Nat}
theorem oge {b : Nat} (h : w.heap.size ≤ b) : ∀ k, some b = some k → w.heap.size ≤ k := fun k e => by cases e; exact h
theorem oglt {b : Nat} (h : w.heap.size ≤ b) (h' : b < w'.heap.size) : ∀ k, some b = some k → w.heap.size ≤ k ∧ k < w'.heap.size := fun k e => by cases e; exact ⟨h, h'⟩
theorem St.owns (O : Ob) (g : Gr w w' none) (hr : ∀ b, some b ∈ rs → w.heap.size ≤ b) : St w O w' (rs ++ O) :=
  ⟨g.os, g.tape, g.output, g.size, fun k hk _ => g.block k hk (by simp), fun k hk h hm => by
    rcases List.mem_append.1 hm with hm | hm
    · have := hr k hm; omega
    · exact h hm⟩
theorem St.ownr (O : Ob) (g : Gr w w' r) (hr' : ∀ b, r = some b → some b ∈ O) (hr : ∀ b, some b ∈ rs → w.heap.size ≤ b) : St w O w' (rs ++ O) :=
  ⟨g.os, g.tape, g.output, g.size, fun k hk hn => g.block k hk (fun e => hn (hr' k e.symm)), fun k hk h hm => by
    rcases List.mem_append.1 hm with hm | hm
    · have := hr k hm; omega
    · exact h hm⟩
theorem Ct.ownr (c : Ct m w0 w L O) (g : Gr w w' r) (gr : Gm w0 w' m) (hok : Ok w' (rs ++ (L ++ O))) (hge : ∀ b, some b ∈ rs → w.heap.size ≤ b) : Ct m w0 w' (rs ++ L) O :=
  ⟨gr, by rw [List.append_assoc]; exact hok.1, fun b hb => hok.2 b (by rwa [List.append_assoc] at hb), fun b hb => by
    rcases List.mem_append.1 hb with hb | hb
    · have := hge b hb; have := c.gr.size; omega
    · exact c.ge b hb, c.mo⟩
theorem Ct.owns (c : Ct m w0 w L O) (g : Gr w w' none) (hok : Ok w' (rs ++ (L ++ O))) (hge : ∀ b, some b ∈ rs → w.heap.size ≤ b) : Ct m w0 w' (rs ++ L) O := c.ownr g (c.gr.tm g) hok hge
theorem Ow.sos (h : Ow k e w O v xs) (g : Gr w w' none) (hge : ∀ b, some b ∈ rs → w.heap.size ≤ b) : Ow k e w' (rs ++ O) v xs :=
  h.st0 (.owns O g hge) g fun b hb => List.mem_append_right _ (h.choose_spec.2.2 b hb)
theorem Bx.mo (h : Bx w b cs) (c : Ct [some b] w0 w L O) (hj : L[j]? = some r) (g : Gr w w' r) : Bx w' b cs :=
  h.keep g fun e => by have := c.ge b (by rw [← e]; exact List.mem_of_getElem? hj); have := (c.mo b List.mem_cons_self).2; omega
theorem Ow.mem (h : Ow k e w O v xs) : ∀ b, blk v = some b → some b ∈ O := h.choose_spec.2.2
end
section
variable {P : Program} {n : Nat} {t : Tm} {w : World} {ty : TypeId} {pos : String} {aft : Array Edge} {d : Nat} {x y z : Operand} {C : World → Prop}
def EqT (P : Program) (T : TypeId) (a b : List Value) (e : Bool) : Prop := (∀ w, (Op.equalIn 10000 T (.agg a.toArray) (.agg b.toArray)).run P w = .ok e w) ∧ P.eqGuardType P.depth T = false
theorem P_eq {T U : TypeId} (a b : List Value) (e : Bool) (h : EqT P T a b e) (hx : evt n t x = .agg a.toArray) (hy : evt n t y = .agg b.toArray) : Pu P n t C ⟨some d, .binOp .eql T x y U, ty, pos, aft, none⟩ (vb e) := fun w _ => by
  simp only [execOp, hx, hy, Sem.run_bind]
  rw [run_eqGuard_agg w .eql T x y _ _ h.2]
  simp only [Result.andThen_ok, run_eql_struct, h.1 w, Sem.run_pure]
theorem P_ne {T U : TypeId} (a b : List Value) (e : Bool) (h : EqT P T a b e) (hx : evt n t x = .agg a.toArray) (hy : evt n t y = .agg b.toArray) : Pu P n t C ⟨some d, .binOp .neq T x y U, ty, pos, aft, none⟩ (vb (!e)) := fun w _ => by
  simp only [execOp, hx, hy, Sem.run_bind]
  rw [run_eqGuard_agg w .neq T x y _ _ h.2]
  simp only [Result.andThen_ok, run_neq_struct, h.1 w, Sem.run_pure]
theorem part1 {T : TypeId} (h : ∀ w, (isAgg T).run P w = .ok false w) (off : Nat) {cs : Array Value} {v : Value} (hv : cs[off]? = some v) : (part T cs off).run P w = .ok v w := by
  simp [part, h w, hv]
def Cmp1 (P : Program) (T : TypeId) (a b : Value) (e : Bool) : Prop := (∀ w, (isAgg T).run P w = .ok false w) ∧ ∀ w d, (Op.equalIn (d + 1) T a b).run P w = .ok e w
theorem cmp1_int {T : TypeId} {kd : IntKind} (hu : P.underlying T = some (.int kd)) (a b : Int) : Cmp1 P T (.int kd a) (.int kd b) (a == b) := ⟨IsAgg_mk hu, fun w d => run_equalIn_int w d T kd kd a b hu⟩
theorem cmp1_str {T : TypeId} (hu : P.underlying T = some .string) (a b : Str) : Cmp1 P T (vs a) (vs b) (a == b) := ⟨IsAgg_mk hu, fun w d => by rw [run_equalIn_string w d T _ _ hu]; simp⟩
theorem EqT_mk2 {T : TypeId} {f g : Field} (hu : P.underlying T = some (.struct #[f, g])) (hp : P.stoodInHeld T = false) (hg : P.eqGuardType P.depth T = false) (hf : f.offset = 0 ∧ g.offset = 1 ∧ (f.name == "_") = false ∧ (g.name == "_") = false)
    {a0 a1 b0 b1 : Value} {e0 e1 : Bool} (h0 : Cmp1 P f.type a0 b0 e0) (h1 : Cmp1 P g.type a1 b1 e1) : EqT P T [a0, a1] [b0, b1] (e0 && e1) := by
  refine ⟨fun w => ?_, hg⟩
  have hfs : P.fieldsOf T = #[f, g] := by simp [Program.fieldsOf, hu]
  obtain ⟨o0, o1, n0, n1⟩ := hf
  have n0' : f.name ≠ "_" := by simpa using n0
  have n1' : g.name ≠ "_" := by simpa using n1
  rw [run_equalIn_struct w 9999 T _ _ (by rw [hfs]; exact hu) hp, hfs]
  have p0 : ∀ (cs : Array Value) v, cs[0]? = some v → (part f.type cs 0).run P w = .ok v w := fun cs v h => part1 h0.1 0 h
  have p1 : ∀ (cs : Array Value) v, cs[1]? = some v → (part g.type cs 1).run P w = .ok v w := fun cs v h => part1 h1.1 1 h
  simp only [Op.eqFields, n0', n1', ne_eq, not_false_eq_true, if_true, o0, o1, Sem.run_bind, p0 [a0, a1].toArray a0 rfl, p0 [b0, b1].toArray b0 rfl, Result.andThen_ok, h0.2 w 9998]
  cases e0
  · simp
  · simp only [Bool.not_true, Bool.false_eq_true, if_false, Sem.run_bind, p1 [a0, a1].toArray a1 rfl, p1 [b0, b1].toArray b1 rfl, h1.2 w 9998, Result.andThen_ok, Bool.true_and]
    cases e1 <;> simp
end
section
variable {α : Type} {k : Kd α} {e : TypeId} {w0 w w' : World} {v : Value} {xs : List α} {O L L' m : Ob}
theorem Dj.perm : ∀ {A B : Ob}, A.Perm B → Dj A → Dj B := fun h => by
  induction h with
  | nil => exact fun d => d
  | cons x h ih => exact fun d => ⟨fun b e hm => d.1 b e (h.mem_iff.2 hm), ih d.2⟩
  | swap x y l =>
    intro d
    refine ⟨fun b e hm => ?_, fun b e hm => d.1 b e (List.mem_cons_of_mem _ hm), d.2.2⟩
    rcases List.mem_cons.1 hm with hm | hm
    · exact d.1 b hm.symm (by rw [e]; exact List.mem_cons_self)
    · exact d.2.1 b e hm
  | trans _ _ ih1 ih2 => exact fun d => ih2 (ih1 d)
theorem St.perm (h : L.Perm L') : St w (L ++ O) w (L' ++ O) := ⟨rfl, rfl, rfl, Nat.le_refl _, fun _ _ _ => rfl, fun _ _ hn hm => hn ((h.append_right O).mem_iff.2 hm)⟩
theorem Ct.perm (c : Ct m w0 w L O) (h : L.Perm L') : Ct m w0 w L' O :=
  ⟨c.gr, c.dj.perm (h.append_right O), fun b hb => c.lt b ((h.append_right O).mem_iff.2 hb), fun b hb => c.ge b (h.mem_iff.2 hb), c.mo⟩
theorem Ow.sp (h : Ow k e w (L ++ O) v xs) (p : L.Perm L') : Ow k e w (L' ++ O) v xs := h.st0 (.perm p) (Gr.refl _ _) fun b hb => (p.append_right O).mem_iff.1 (h.choose_spec.2.2 b hb)
end
def Kd.Flat {α : Type} (k : Kd α) : Prop := ∀ w S w' S' x cs, k.R w S x cs → k.R w' S' x cs
theorem Arr.fl {α : Type} {k : Kd α} (hf : k.Flat) {w w' : World} {S S' : Sp} : ∀ {xs : List α} {cs : List Value}, Arr k w S xs cs → Arr k w' S' xs cs
  | [], _, h => h
  | _ :: _, _, ⟨c1, c2, e, h1, h2⟩ => ⟨c1, c2, e, hf _ _ _ _ _ _ h1, Arr.fl hf h2⟩
section
variable {α : Type} {k : Kd α} {e : TypeId} {w0 w w' : World} {v : Value} {xs : List α} {O L rs m : Ob} {r : Option Nat} {i : Nat}
theorem mem_un {x : Option Nat} (h : x ∈ rs ++ (L.eraseIdx i ++ O)) : x ∈ rs ++ (L ++ O) := by
  rcases List.mem_append.1 h with h | h
  · exact List.mem_append_left _ h
  · rcases List.mem_append.1 h with h | h
    · exact List.mem_append_right _ (List.mem_append_left _ (List.mem_of_mem_eraseIdx h))
    · exact List.mem_append_right _ (List.mem_append_right _ h)
theorem Ow.un (hf : k.Flat) (h : Ow k e w (rs ++ (L.eraseIdx i ++ O)) v xs) : Ow k e w (rs ++ (L ++ O)) v xs := by
  obtain ⟨cells, h1, h2, h3⟩ := h
  exact ⟨cells, h1, h2.fl hf, fun b hb => mem_un (h3 b hb)⟩
theorem Dj.app : ∀ {A B : Ob}, Dj A → Dj B → (∀ b, some b ∈ A → some b ∉ B) → Dj (A ++ B)
  | [], _, _, d, _ => d
  | _ :: _, _, d, d', h => ⟨fun b e hm => by
      rcases List.mem_append.1 hm with hm | hm
      · exact d.1 b e hm
      · exact h b (by rw [e]; exact List.mem_cons_self) hm, Dj.app d.2 d' fun b hb => h b (List.mem_cons_of_mem _ hb)⟩
theorem Dj.left : ∀ {A B : Ob}, Dj (A ++ B) → Dj A
  | [], _, _ => trivial
  | _ :: _, _, d => ⟨fun b e hm => d.1 b e (List.mem_append_left _ hm), Dj.left d.2⟩
theorem Ow.unl {L' : Ob} (hf : k.Flat) (hs : L'.Sublist L) (h : Ow k e w (rs ++ (L' ++ O)) v xs) : Ow k e w (rs ++ (L ++ O)) v xs := by
  obtain ⟨cells, h1, h2, h3⟩ := h
  refine ⟨cells, h1, h2.fl hf, fun b hb => ?_⟩
  rcases List.mem_append.1 (h3 b hb) with h | h
  · exact List.mem_append_left _ h
  · rcases List.mem_append.1 h with h | h
    · exact List.mem_append_right _ (List.mem_append_left _ (hs.subset h))
    · exact List.mem_append_right _ (List.mem_append_right _ h)
theorem Ok.unl {L' : Ob} (c : Ct m w0 w L O) (g : Gr w w' r) (hk : Ok w' (rs ++ (L' ++ O))) (hge : ∀ b, some b ∈ rs → w.heap.size ≤ b) : Ok w' (rs ++ (L ++ O)) :=
  ⟨Dj.app hk.1.left c.dj fun b hb hm => by have := hge b hb; have := c.lt b hm; omega, fun b hb => by
    rcases List.mem_append.1 hb with hb | hb
    · exact hk.2 b (List.mem_append_left _ hb)
    · exact Nat.lt_of_lt_of_le (c.lt b hb) g.size⟩
theorem Ok.un (c : Ct m w0 w L O) (g : Gr w w' r) (hk : Ok w' (rs ++ (L.eraseIdx i ++ O))) (hge : ∀ b, some b ∈ rs → w.heap.size ≤ b) : Ok w' (rs ++ (L ++ O)) :=
  ⟨Dj.app hk.1.left c.dj fun b hb hm => by have := hge b hb; have := c.lt b hm; omega, fun b hb => by
    rcases List.mem_append.1 hb with hb | hb
    · exact hk.2 b (List.mem_append_left _ hb)
    · exact Nat.lt_of_lt_of_le (c.lt b hb) g.size⟩
end
end
section
def Tr {α : Type} (P : Program) (t : TypeId) (k : Kd α) (V : α → Prop) : Prop := ∀ (H : Type) (enc : TypeId × Value → H) (w : World) (fuel : Nat) (cs : List Value) (x : DataW H × List MemPlace),
  DataW.trod enc P w 0 (fun _ => true) true fuel t cs = some x → ∃ a, V a ∧ k.R w (Fr []) a cs
section
variable {P : Program} {t e : TypeId}
theorem Tr.int (ht : P.underlying t = some (.int .i64)) : Tr P t (Kd.int .i64) (fun x => I64 x) := fun H enc w fuel cs x h => by
  obtain ⟨n, rfl, _, hw⟩ := DataW.trod_int ht h
  refine ⟨n, ?_, rfl⟩
  simp only [Lit.wf, Bool.and_eq_true, decide_eq_true_eq] at hw
  have h1 : IntKind.i64.min = -9223372036854775808 := by decide
  have h2 : IntKind.i64.max = 9223372036854775807 := by decide
  rw [h1, h2] at hw
  exact hw
theorem Tr.byte (ht : P.underlying t = some (.int .u8)) : Tr P t Kd.byte (fun _ => True) := fun H enc w fuel cs x h => by
  obtain ⟨n, rfl, _, hw⟩ := DataW.trod_int ht h
  simp only [Lit.wf, Bool.and_eq_true, decide_eq_true_eq] at hw
  have h1 : IntKind.u8.min = 0 := by decide
  have h2 : IntKind.u8.max = 255 := by decide
  rw [h1, h2] at hw
  refine ⟨UInt8.ofNat n.toNat, trivial, ?_⟩
  show [Value.int .u8 n] = [v8 _]
  simp only [v8]
  congr 2
  simp only [UInt8.toNat_ofNat']
  omega
theorem Tr.bool (ht : P.underlying t = some .bool) : Tr P t Kd.bool (fun _ => True) := fun H enc w fuel cs x h => by
  obtain ⟨b, rfl, _⟩ := DataW.trod_bool ht h
  exact ⟨b, trivial, rfl⟩
theorem Tr.str (ht : P.underlying t = some .string) : Tr P t Kd.str (fun x => Lim x) := fun H enc w fuel cs x h => by
  obtain ⟨s, rfl, _, hs⟩ := DataW.trod_string ht h
  have hl : Lim s.data.toList := by
    show s.data.toList.length ≤ 9223372036854775807
    have : s.size ≤ 9223372036854775807 := hs
    simpa using this
  exact ⟨s.data.toList, hl, rfl, hl⟩
theorem Tr.iso {α β : Type} {k : Kd α} {V : α → Prop} (h : Tr P t k V) (f : β → α) (g : α → β) (hg : ∀ a, f (g a) = a) : Tr P t (Kd.iso k f) (fun x => V (f x)) := fun H enc w fuel cs x hx => by
  obtain ⟨a, hv, hr⟩ := h H enc w fuel cs x hx
  exact ⟨g a, by show V (f (g a)); rw [hg]; exact hv, by show k.R _ _ (f (g a)) _; rw [hg]; exact hr⟩
def TrF {α : Type} (P : Program) (fs : List Field) (o tot : Nat) (k : Kd α) (V : α → Prop) : Prop := ∀ (H : Type) (enc : TypeId × Value → H) (w : World) (fuel : Nat) (cs : List Value), cs.length = tot →
  (∀ f ∈ fs, ∃ x, DataW.trod enc P w 0 (fun _ => true) true fuel f.type ((cs.drop f.offset).take (P.cellsOf f.type)) = some x) → ∃ a, V a ∧ k.R w (Fr []) a (cs.drop o)
theorem TrF.one {α : Type} {k : Kd α} {V : α → Prop} {f : Field} {o n tot : Nat} (h : Tr P f.type k V) (h1 : f.offset = o) (h2 : P.cellsOf f.type = n) (h3 : o + n = tot) : TrF P [f] o tot k V := fun H enc w fuel cs hl hf => by
  obtain ⟨x, hx⟩ := hf f (by simp)
  rw [h1, h2, List.take_of_length_le (by simp; omega)] at hx
  exact h H enc w fuel _ x hx
theorem TrF.cons {α β : Type} {k : Kd α} {k' : Kd β} {V : α → Prop} {V' : β → Prop} {f : Field} {fs : List Field} {o n tot : Nat} (h : Tr P f.type k V) (h1 : f.offset = o) (h2 : P.cellsOf f.type = n)
    (h3 : TrF P fs (o + n) tot k' V') : TrF P (f :: fs) o tot (Kd.pair k k') (fun x => V x.1 ∧ V' x.2) := fun H enc w fuel cs hl hf => by
  obtain ⟨x, hx⟩ := hf f (by simp)
  rw [h1, h2] at hx
  obtain ⟨a, ha, hr⟩ := h H enc w fuel _ x hx
  obtain ⟨b, hb, hs⟩ := h3 H enc w fuel cs hl (fun f' hf' => hf f' (by simp [hf']))
  refine ⟨(a, b), ⟨ha, hb⟩, _, _, ?_, hr, hs⟩
  rw [← List.drop_drop]
  exact (List.take_append_drop n _).symm
theorem Tr.struct {α : Type} {k : Kd α} {V : α → Prop} {fs : Array Field} {tot : Nat} (ht : P.underlying t = some (.struct fs)) (hn : P.cellsOf t = tot) (h : TrF P fs.toList 0 tot k V) : Tr P t k V := fun H enc w fuel cs x hx => by
  obtain ⟨xs, n, rfl, _, hl, hs, hf⟩ := DataW.trod_struct ht hx
  obtain ⟨a, ha, hr⟩ := h H enc w n cs (hl.trans hn) (fun f hm => by
    obtain ⟨i, hi⟩ := List.getElem?_of_mem hm
    have hi' : fs[i]? = some f := by simpa using hi
    have hlt : i < xs.length := by rw [hs]; exact (Array.getElem?_eq_some_iff.1 hi').1
    exact ⟨xs[i], by rw [hf i f hi']; simp [hlt]⟩)
  exact ⟨a, ha, by simpa using hr⟩
theorem Tr.sl {α : Type} {k : Kd α} {V : α → Prop} (ht : P.underlying t = some (.slice e)) (hc : P.cellsOf e = k.sz) (h : Tr P e k V) : Tr P t (Kd.sl k) (fun xs => ∀ x ∈ xs, V x) := fun H enc w fuel cs x hx => by
  rcases DataW.trod_slice ht hx with ⟨rfl, _⟩ | ⟨a, len, cap, elems, rest, n, _, rfl, _, _, hl, hm, hlen, hel, _⟩
  · exact ⟨[], by simp, _, rfl, Sl.nil k w _ none 0 (by omega)⟩
  · have key : ∀ m, m ≤ len → ∃ xs cells, xs.length = m ∧ Arr k w (Fr []) xs cells ∧ (∀ j u, cells[j]? = some u → w.cell? (a.add j) = some u) ∧ ∀ x ∈ xs, V x := by
      intro m
      induction m with
      | zero => intro _; exact ⟨[], [], rfl, rfl, fun j u hj => by simp at hj, by simp⟩
      | succ m ih =>
        intro hm'
        obtain ⟨xs, cells, h1, h2, h3, h4⟩ := ih (by omega)
        have he := hel m (by omega)
        rw [List.getElem?_eq_getElem (by omega), Option.bind_eq_some_iff] at he
        obtain ⟨ci, hci, hti⟩ := he
        obtain ⟨_, hcl, hcc⟩ := World.cells?_some hci
        obtain ⟨y, hv, hr⟩ := h H enc w n ci _ hti
        refine ⟨xs ++ [y], cells ++ ci, by simp [h1], h2.app (Arr.single hr), fun j u hj => ?_, fun z hz => ?_⟩
        · by_cases hj' : j < cells.length
          · rw [List.getElem?_append_left hj'] at hj; exact h3 j u hj
          · rw [List.getElem?_append_right (by omega)] at hj
            have hb : j - cells.length < ci.length := by
              rcases Nat.lt_or_ge (j - cells.length) ci.length with hq | hq
              · exact hq
              · rw [List.getElem?_eq_none hq] at hj; cases hj
            have h5 := hcc (j - cells.length) (by omega)
            rw [add_add, hj, hc, ← h1, ← h2.len] at h5
            rw [← h5]; congr 2; omega
        · rcases List.mem_append.1 hz with hz | hz
          · exact h4 z hz
          · simp at hz; subst hz; exact hv
    obtain ⟨xs, cells, h1, h2, h3, h4⟩ := key len (Nat.le_refl _)
    refine ⟨xs, h4, _, rfl, some a, cap, cells, by rw [h1], ⟨by omega, hm⟩, h2, fun j u hj => ⟨a, rfl, by simp [Fr], h3 j u hj⟩⟩
end
end
section
open Go.RowKit
section
variable {P : Program} {ops : Array Oper} {C : World → Prop} {Q : Exit → Act → World → Prop}
def YC (P : Program) (ops : Array Oper) (C : World → Prop) (o : Oper) (v : Value) (a : Act) : Prop :=
  (Region.wanted o (yielded ops a.tmps) = true ∧ ∀ w, C w → (execOp a.eval o).run P w = .ok (.value v) w) ∨ (Region.wanted o (yielded ops a.tmps) = false ∧ v = undef)
theorem YC.wpOp {i : Nat} {o : Oper} {v : Value} {a : Act} (hi : ops[i]? = some o) (hy : YC P ops C o v a) {K : Act → World → Prop} {w : World} (hC : C w) (h : K (a.put o.dst v) w) : wpOp P ops Q i K a w := by
  unfold Go.wpOp
  simp only [hi]
  rcases hy with ⟨hw, hv⟩ | ⟨hw, rfl⟩
  · simp only [hw, if_true, Oper.wp, hv w hC, Oper.upon]; exact .inl h
  · simp only [hw, Bool.false_eq_true, if_false]; exact h
theorem YC.of_same {o : Oper} {v : Value} {a a' : Act} (hy : YC P ops C o v a) (he : execOp a'.eval o = execOp a.eval o) (hw : Region.wanted o (yielded ops a'.tmps) = Region.wanted o (yielded ops a.tmps)) : YC P ops C o v a' := by
  unfold YC at *
  rw [he, hw]
  exact hy
def anyC (P : Program) (ops : Array Oper) (C : World → Prop) (Q : Exit → Act → World → Prop) : Nat → Array Bool → Act → World → Prop
  | 0, listed, a, w => Region.ready .any ops listed = [] ∧ Q .normal a w
  | fuel + 1, listed, a, w => (Region.ready .any ops listed = [] → Q .normal a w) ∧ ∀ i ∈ Region.ready .any ops listed, wpOp P ops Q i (fun a' w' => C w' ∧ anyC P ops C Q fuel (listed.setIfInBounds i true) a' w') a w
theorem any_of_anyC : ∀ (fuel : Nat) (listed : Array Bool) (a : Act) (w : World), anyC P ops C Q fuel listed a w → wpAny P .any ops Q fuel listed a w
  | 0, _, _, _, h => h
  | fuel + 1, _, _, _, h => ⟨h.1, fun i hi => wpOp_mono (fun a' w' h' => any_of_anyC fuel _ a' w' h'.2) (h.2 i hi)⟩
theorem putC {j : Nat} {oi oj : Oper} {v : Value} (hj : ops[j]? = some oj) (hap : oi.apart ops oj = true) (hsi : ∀ cs b, oi.op ≠ .select cs b) (hsj : ∀ cs b, oj.op ≠ .select cs b)
    (hQ : ∀ c a w, Q (.panic c) (a.put oi.dst v) w → Q (.panic c) a w) {K : Act → World → Prop} {a : Act} {w : World} (hy : YC P ops C oi v a) (h : wpOp P ops Q j K (a.put oi.dst v) w) :
    wpOp P ops Q j (fun a' w' => YC P ops C oi v a' ∧ K (a'.put oi.dst v) w') a w := by
  obtain ⟨h1, h2, h3⟩ := Oper.apart_spec hap
  have keep : ∀ (a : Act), YC P ops C oi v a → ∀ u, YC P ops C oi v (a.put oj.dst u) := fun a hy u =>
    hy.of_same (execOp_put oi hsi a oj.dst u h3) (wanted_put oi a oj.dst u h3)
  have keepD : ∀ d, YC P ops C oi v { a with defers := d :: a.defers } := fun d => hy.of_same rfl rfl
  unfold wpOp at *
  simp only [hj] at *
  rw [wanted_put oj a oi.dst v h1] at h
  split
  · rename_i hw
    simp only [hw, if_true] at h
    rcases h with h | ⟨hasks, hlets⟩
    case inr => exact .inr ⟨by unfold Oper.asks at *; rw [execOp_put oj hsj a oi.dst v h1] at hasks; exact hasks, hlets⟩
    refine .inl ?_
    unfold Oper.wp at *
    rw [execOp_put oj hsj a oi.dst v h1] at h
    generalize (execOp a.eval oj).run P w = r at *
    cases r with
    | ok n w' =>
      cases n <;> simp only [Oper.upon] at h ⊢
      case value u => exact ⟨keep a hy u, by rw [← Act.put_comm a v u h2]; exact h⟩
      case skip => exact ⟨keep a hy _, by rw [← Act.put_comm a v undef h2]; exact h⟩
      case defer d =>
        refine ⟨keep _ (keepD d) _, ?_⟩
        rw [← Act.put_comm _ v undef h2, ← Act.put_defers]
        exact h
      case enter f args =>
        refine Calls.mono h fun e w'' he => ?_
        cases e with
        | returned u => exact ⟨keep a hy u, by rw [← Act.put_comm a v u h2]; exact he⟩
        | panicked c => exact hQ _ _ _ he
        | outgrown => exact he
      case row row args => exact Rows.mono h fun u w'' he => ⟨keep a hy u, by rw [← Act.put_comm a v u h2]; exact he⟩
    | halt x w' =>
      cases x <;> simp only [Oper.upon] at h ⊢
      case panic u => exact hQ _ _ _ h
  · rename_i hw
    simp only [hw] at h
    exact ⟨keep a hy _, by rw [← Act.put_comm a v undef h2]; exact h⟩
theorem firstC {i : Nat} {oi : Oper} {v : Value} (hi : ops[i]? = some oi) (hsel : ∀ (j : Nat) (o : Oper) cs b, ops[j]? = some o → o.op ≠ .select cs b)
    (hQ : ∀ c a w, Q (.panic c) (a.put oi.dst v) w → Q (.panic c) a w) :
    ∀ (fuel : Nat) (listed : Array Bool) (a : Act) (w : World),
      (∀ j oj, ops[j]? = some oj → j ≠ i → listed.getD j true = false → (∀ e ∈ oj.after, Region.binds .any e = true → e.on ≠ i) → oi.apart ops oj = true) →
      i ∈ Region.ready .any ops listed → YC P ops C oi v a → C w → anyC P ops C Q fuel (listed.setIfInBounds i true) (a.put oi.dst v) w → anyC P ops C Q (fuel + 1) listed a w := by
  intro fuel
  induction fuel with
  | zero =>
    intro listed a w _ hr hy hC H
    refine ⟨fun h => (by rw [h] at hr; cases hr), fun j hj => ?_⟩
    by_cases hji : j = i
    · subst hji; exact hy.wpOp hi hC ⟨hC, H⟩
    · have := ready_mono hj hji
      rw [H.1] at this
      cases this
  | succ fuel ih =>
    intro listed a w hfree hr hy hC H
    refine ⟨fun h => (by rw [h] at hr; cases hr), fun j hj => ?_⟩
    by_cases hji : j = i
    · subst hji; exact hy.wpOp hi hC ⟨hC, H⟩
    · have h1 := H.2 j (ready_mono hj hji)
      obtain ⟨hjun, oj, hoj, hall⟩ := mem_ready.1 hj
      have hnot : ∀ e ∈ oj.after, Region.binds .any e = true → e.on ≠ i := fun e he hb heq => by
        have h1 := hall e he hb
        have h0 := (mem_ready.1 hr).1
        rw [heq] at h1
        rcases Nat.lt_or_ge i listed.size with h' | h'
        · simp [h'] at h0 h1; rw [h0] at h1; cases h1
        · simp [Array.getElem?_eq_none h'] at h1
      have h2 := putC hoj (hfree j oj hoj hji hjun hnot) (fun cs b => hsel i oi cs b hi) (fun cs b => hsel j oj cs b hoj) hQ hy h1
      have hfree' : ∀ k ok, ops[k]? = some ok → k ≠ i → (listed.setIfInBounds j true).getD k true = false →
          (∀ e ∈ ok.after, Region.binds .any e = true → e.on ≠ i) → oi.apart ops ok = true := fun k ok hk hki hun hno => by
        refine hfree k ok hk hki ?_ hno
        by_cases hjk : j = k
        · subst hjk; exact hjun
        · rw [getD_set_ne true hjk] at hun; exact hun
      refine wpOp_mono (fun a' w' h3 => ⟨h3.2.1, ih (listed.setIfInBounds j true) a' w' hfree' (ready_mono hr (Ne.symm hji)) h3.1 h3.2.1 ?_⟩) h2
      rw [Array.setIfInBounds_comm _ _ hji]
      exact h3.2.2
end
section
variable {P : Program} {n : Nat} {N R : Ps} {X : Nat → Ps} {t : Tm} {w : World} {ops : Array Oper} {C : World → Prop} {listed : Array Bool} {m : Nat} {ty : TypeId} {pos : String} {aft : Array Edge}
def M (P : Program) (n : Nat) (ops : Array Oper) (C : World → Prop) (N R : Ps) (X : Nat → Ps) (m : Nat) (listed : Array Bool) (t : Tm) (w : World) : Prop := anyC P ops C (post n N R X) m listed (acts n t) w
theorem W_mix {i : Nat} {l : List Oper} (m : Nat) (C : World → Prop) (hm : P.follows .mixedOrders = true) (hl : l.toArray.size = m) (h : M P n l.toArray C N R X m (Array.replicate m false) t { w with drawn := w.drawn + 1 }) :
    W P n (.region i l.toArray true) N R X t w := by
  unfold W
  refine wp_region_any hm (any_of_anyC (C := C) _ _ _ _ ?_)
  rw [hl]; exact h
theorem M_nil (hr : Region.ready .any ops listed = []) (h : N t w) : M P n ops C N R X 0 listed t w := ⟨hr, t, rfl, h⟩
def pickB (ops : Array Oper) (listed : Array Bool) (i : Nat) : Bool := Region.noSelect ops && (Region.ready .any ops listed).contains i && Region.free .any ops listed i
theorem M_yc (i : Nat) {o : Oper} {v : Value} (hi : ops[i]? = some o) (hb : pickB ops listed i = true) (hC : C w) (hy : YC P ops C o v (acts n t))
    (k : M P n ops C N R X m (listed.setIfInBounds i true) (putd o.dst v t) w) : M P n ops C N R X (m + 1) listed t w := by
  simp only [pickB, Bool.and_eq_true] at hb
  refine firstC hi (Region.noSelect_spec hb.1.1) (fun c a w h => h.elim) m listed (acts n t) w (Region.free_spec hi hb.2) (by simpa using hb.1.2) hy hC ?_
  rw [acts_put]; exact k
theorem M_pu (i : Nat) {o : Option Nat} {op : Op} {v : Value} (hi : ops[i]? = some ⟨o, op, ty, pos, aft, none⟩) (hb : pickB ops listed i = true) (hC : C w) (h : Pu P n t C ⟨o, op, ty, pos, aft, none⟩ v)
    (k : M P n ops C N R X m (listed.setIfInBounds i true) (putd o v t) w) : M P n ops C N R X (m + 1) listed t w :=
  M_yc i hi hb hC (.inl ⟨by simp [Region.wanted], fun w hw => by rw [acts_evalf]; exact h w hw⟩) k
theorem M_op {i : Nat} {o : Oper} {K : Ps} (hi : ops[i]? = some o) (h : L P n ops K R X [o] t w) : wpOp P ops (post n N R X) i (fun a' w' => ∃ t', a' = acts n t' ∧ K t' w') (acts n t) w := by
  unfold wpOp
  simp only [hi]
  unfold L wpList at h
  by_cases hw : Region.wanted o (yielded ops (acts n t).tmps) = true
  · rw [if_pos hw] at h ⊢
    rcases h with h | ⟨ha, hb⟩
    · refine .inl ?_
      unfold Oper.wp at *
      generalize (execOp (acts n t).eval o).run P w = r at *
      cases r with
      | ok x w' =>
        cases x <;> simp only [Oper.upon] at h ⊢
        case value u => exact h
        case skip => exact h
        case defer d => exact h
        case enter f args =>
          refine Calls.mono h fun e w'' he => ?_
          cases e with
          | returned u => exact he
          | panicked c => exact he
          | outgrown => exact he
        case row row args => exact Rows.mono h fun u w'' he => he
      | halt x w' =>
        cases x <;> simp only [Oper.upon] at h ⊢
        case panic u => exact h
    · exact .inr ⟨ha, hb⟩
  · rw [if_neg hw] at h ⊢
    exact h
theorem M_any1 (i : Nat) {o : Oper} (hr : Region.ready .any ops listed = [i]) (hi : ops[i]? = some o)
    (k : L P n ops (fun t' w' => C w' ∧ M P n ops C N R X m (listed.setIfInBounds i true) t' w') R X [o] t w) : M P n ops C N R X (m + 1) listed t w := by
  refine ⟨fun h => (by rw [hr] at h; cases h), fun j hj => ?_⟩
  rw [hr] at hj
  obtain rfl : j = i := by simpa using hj
  exact wpOp_mono (fun a' w' ⟨t', e, h⟩ => by rw [e]; exact h) (M_op hi k)
theorem M_any2 (i j : Nat) {o o' : Oper} (hr : Region.ready .any ops listed = [i, j]) (hi : ops[i]? = some o) (hj : ops[j]? = some o')
    (k : L P n ops (fun t' w' => C w' ∧ M P n ops C N R X m (listed.setIfInBounds i true) t' w') R X [o] t w)
    (k' : L P n ops (fun t' w' => C w' ∧ M P n ops C N R X m (listed.setIfInBounds j true) t' w') R X [o'] t w) : M P n ops C N R X (m + 1) listed t w := by
  refine ⟨fun h => (by rw [hr] at h; cases h), fun l hl => ?_⟩
  rw [hr] at hl
  rcases (by simpa using hl : l = i ∨ l = j) with rfl | rfl
  · exact wpOp_mono (fun a' w' ⟨t', e, h⟩ => by rw [e]; exact h) (M_op hi k)
  · exact wpOp_mono (fun a' w' ⟨t', e, h⟩ => by rw [e]; exact h) (M_op hj k')
end
section
variable {P : Program} {n : Nat} {N R : Ps} {X : Nat → Ps} {t : Tm} {w w' w1 : World} {ops : Array Oper} {listed : Array Bool} {k : Nat} {r : Option Nat} {ty : TypeId} {pos : String} {aft : Array Edge} {d : Nat} {x : Operand} {L O m : Ob} {w0 : World} {C : World → Prop}
theorem Gm.cell {rs : Ob} (h : Gm w w' rs) {a : Addr} {v : Value} (hc : w.cell? a = some v) (hn : some a.block ∉ rs) : w'.cell? a = some v := by
  have hb : a.block < w.heap.size := by
    rcases Nat.lt_or_ge a.block w.heap.size with h | h
    · exact h
    · unfold World.cell? at hc; rw [Array.getElem?_eq_none h] at hc; cases hc
  have := h.block a.block hb hn
  unfold World.cell? at hc ⊢
  rw [this]; exact hc
theorem W_mixr {i : Nat} {l : List Oper} (k : Nat) (rs : Ob) (hm : P.follows .mixedOrders = true) (hl : l.toArray.size = k)
    (h : ∀ w1, Gr w w1 none → Gm w1 w1 rs → M P n l.toArray (fun x => Gm w1 x rs) N R X k (Array.replicate k false) t w1) : W P n (.region i l.toArray true) N R X t w :=
  W_mix k (fun x => Gm { w with drawn := w.drawn + 1 } x rs) hm hl (h _ (Gr.drew w) (Gm.refl _ _))
theorem hv_mem {rs : Ob} {v : Option Nat} (i : Nat) (h : rs[i]? = some v) : ∀ b, v = some b → b < w1.heap.size → some b ∈ rs := fun b e _ => by rw [← e]; exact List.mem_of_getElem? h
theorem hv_new {rs : Ob} {v : Option Nat} (h : Gm w1 w rs) (hr : ∀ b, v = some b → w.heap.size ≤ b) : ∀ b, v = some b → b < w1.heap.size → some b ∈ rs := fun b e hb => by have := hr b e; have := h.size; omega
theorem nm_nil {x : Option Nat} : x ∉ ([] : Ob) := fun h => by cases h
theorem nm_cons {x r : Option Nat} {rs : Ob} (h : x ≠ r) (k : x ∉ rs) : x ∉ r :: rs := fun hm => (List.mem_cons.1 hm).elim h k
theorem hv_app {rs : Ob} {i : Nat} {v v' : Option Nat} (h : Gm w1 w rs) (hL : L[i]? = some v) (hv : ∀ b, v = some b → b < w1.heap.size → some b ∈ rs) (s : St w (L ++ O) w' (L.set i v' ++ O)) (c : Ct m w0 w' (L.set i v') O) :
    ∀ b, v' = some b → b < w1.heap.size → some b ∈ rs := fun b e hb => by
  have hil : i < L.length := (List.getElem?_eq_some_iff.1 hL).1
  have hb' : b < w.heap.size := Nat.lt_of_lt_of_le hb h.size
  by_cases hm : some b ∈ L ++ O
  · obtain ⟨j, hj⟩ := List.getElem?_of_mem hm
    by_cases hij : i = j
    · subst hij
      rw [get_app hL] at hj
      exact hv b (Option.some.inj hj) hb
    · have h1 : (L.set i v' ++ O)[i]? = some v' := by rw [List.getElem?_append_left (by simpa using hil)]; simp [hil]
      have h2 : (L.set i v' ++ O)[j]? = some (some b) := by
        by_cases hjl : j < L.length
        · rw [List.getElem?_append_left hjl] at hj; rw [List.getElem?_append_left (by simpa using hjl), List.getElem?_set_ne hij]; exact hj
        · rw [List.getElem?_append_right (by omega)] at hj; rw [List.getElem?_append_right (by simpa using hjl)]; simpa using hj
      exact absurd rfl (Dj.ne c.dj h1 h2 hij b e)
  · exact absurd (List.mem_append_left _ (List.mem_of_getElem? (l := L.set i v') (i := i) (by simp [hil, e]))) (s.sub b hb' hm)
theorem fr_ne {b i : Nat} (h : Fr (L ++ O) b) (hr : L[i]? = some r) : some b ≠ r := fun e => h (by rw [e]; exact List.mem_append_left _ (List.mem_of_getElem? hr))
theorem P_ldr {T : TypeId} (hT : IsAgg P T false) {w1 : World} {rs : Ob} (hC : ∀ x, C x → Gm w1 x rs) (a : Addr) (v : Value) (hx : evt n t x = .pointer (some a)) (hc0 : w1.cell? a = some v) (hne : some a.block ∉ rs) : Pu P n t C ⟨some d, .load T x, ty, pos, aft, none⟩ v := fun w hw =>
  (by have hc := Gm.cell (hC w hw) hc0 hne; simp [execOp, hx, Instr.loadAt, Instr.sureAddr, loadVar, hT w, hc])
theorem P_ldar {T : TypeId} {s : Nat} (hT : IsAgg P T true) (hs : SizeOf P T s) {w1 : World} {rs : Ob} (hC : ∀ x, C x → Gm w1 x rs) (a : Addr) (cs : List Value) (hx : evt n t x = .pointer (some a)) (hl : cs.length = s) (hc0 : ∀ j u, cs[j]? = some u → w1.cell? (a.add j) = some u) (hne : some a.block ∉ rs) : Pu P n t C ⟨some d, .load T x, ty, pos, aft, none⟩ (.agg cs.toArray) := fun w hw =>
  (by have hc := fun j u hu => Gm.cell (hC w hw) (hc0 j u hu) (by rw [add_block]; exact hne); subst hl; simp [execOp, hx, Instr.loadAt, Instr.sureAddr, loadVar, hT w, hs w, loadCells_run w a cs hc])
theorem cR {rs : Ob} : ∀ x, (fun x => Gm w x rs) x → Gm w x rs := fun x e => e
end
section
variable {P : Program} {n : Nat} {N R : Ps} {X : Nat → Ps} {t : Tm} {w : World} {ops : Array Oper} {rest tail : List Oper} {listed : Array Bool} {q : Nat} {ty : TypeId} {pos : String} {aft : Array Edge} {d : Nat} {x : Operand} {O : Ob} {C : World → Prop}
theorem Ow.cap {α : Type} {kd : Kd α} {e : TypeId} {A : Option Addr} {m c : Nat} {xs : List α} (h : Ow kd e w O (.slice A m c) xs) : xs.length ≤ c := by
  obtain ⟨_, c', _, e', h, _⟩ := h.sl (fun _ => True) (fun _ _ _ => trivial)
  cases e'; exact h.1
def Sh (P : Program) (n : Nat) (ops : Array Oper) (N R : Ps) (X : Nat → Ps) (w : World) (tail l : List Oper) (t : Tm) : Prop := wpStill P ops w (fun a => wpList P ops (post n N R X) tail a w) l (acts n t)
end
attribute [irreducible] M Sh
end
section
open Go.RowKit
def Kd.raw : Kd Value where
  sz := 1
  R := fun _ _ x cs => cs = [x] ∧ x.oneCell' = true
  len := fun h => by rw [h.1]; rfl
  one := fun h u hu => by rw [h.1] at hu; simp at hu; subst hu; exact h.2
  keep := fun h _ => h
  mono := fun h _ => h
def Tb {α : Type} (k : Kd α) (e1 e2 : TypeId) (w : World) (B : Ob) (v : Value) (vs : List Value) (xss : List (List α)) : Prop :=
  Ow Kd.raw e1 w B v vs ∧ vs.length = xss.length ∧ ∀ j u, vs[j]? = some u → Ow k e2 w B u (xss.getD j [])
section
variable {α : Type} {k : Kd α} {e1 e2 : TypeId} {w0 w w' : World} {B L O : Ob} {v u : Value} {vs : List Value} {xss : List (List α)} {m : Ob}
theorem Tb.k0 (h : Tb k e1 e2 w B v vs xss) (g : Gr w w' none) : Tb k e1 e2 w' B v vs xss := ⟨h.1.sn g, h.2.1, fun j u hu => (h.2.2 j u hu).sn g⟩
theorem Tb.own (h : Tb k e1 e2 w B v vs xss) (r : Option Nat) (g : Gr w w' none) (hr : ∀ b, r = some b → w.heap.size ≤ b) : Tb k e1 e2 w' (r :: B) v vs xss := ⟨h.1.so r g hr, h.2.1, fun j u hu => (h.2.2 j u hu).so r g hr⟩
theorem Tb.len {A : Option Addr} {n c : Nat} (h : Tb k e1 e2 w B (.slice A n c) vs xss) : n = xss.length := h.1.len.trans h.2.1
theorem Tb.le (h : Tb k e1 e2 w B v vs xss) : xss.length ≤ 9223372036854775807 := by rw [← h.2.1]; exact h.1.le
theorem Tb.get {A : Option Addr} {n c : Nat} (h : Tb k e1 e2 w B (.slice A n c) vs xss) (i : Int) (hi : 0 ≤ i ∧ i < (xss.length : Int)) :
    ∃ ad A' n' c', A = some ad ∧ vs[i.toNat]? = some (.slice A' n' c') ∧ (∀ j u, [Value.slice A' n' c'][j]? = some u → w.cell? ((ad.add (i.toNat * 1)).add j) = some u) ∧ Ow k e2 w B (.slice A' n' c') (nth xss i) := by
  have hv : i.toNat < vs.length := by rw [h.2.1]; omega
  obtain ⟨ad, cs, hA, hR, hcell⟩ := h.1.get (default : Value) (by decide) i (by rw [h.2.1]; exact hi)
  have hu : vs[i.toNat]? = some vs[i.toNat] := List.getElem?_eq_getElem hv
  have ho := h.2.2 _ _ hu
  obtain ⟨A', c', e⟩ := ho.shape
  rw [e] at hu ho
  have hcs := hR.1
  rw [List.getD_eq_getElem?_getD, hu, Option.getD_some] at hcs
  subst hcs
  refine ⟨ad, A', _, c', hA, hu, hcell, ?_⟩
  have e2 : xss.getD i.toNat [] = nth xss i := rfl
  rw [← e2]; exact ho
theorem Tb.sl (h : Tb k e1 e2 w (blk v :: vs.map blk ++ O) v vs xss) (c : Ct m w0 w (blk v :: vs.map blk) O) : Sl (Kd.sl k) w (Fr ([] ++ O)) v xss := by
  have key : ∀ u ∈ vs, ∀ b, blk u = some b → some b ∉ O := fun u hu b hb hm => by
    have h1 : some b ∈ blk v :: vs.map blk := List.mem_cons_of_mem _ (List.mem_map.2 ⟨u, hu, hb⟩)
    have : Dj ((blk v :: vs.map blk) ++ O) := c.dj
    obtain ⟨i, hi⟩ := List.getElem?_of_mem h1
    obtain ⟨j, hj⟩ := List.getElem?_of_mem hm
    exact Dj.ne this (get_app hi) (by rw [List.getElem?_append_right (i := (blk v :: vs.map blk).length + j) (by omega)]; simpa using hj) (by have := (List.getElem?_eq_some_iff.1 hi).1; omega) b rfl rfl
  have keyv : ∀ b, blk v = some b → some b ∉ O := fun b hb hm => by
    have : Dj (blk v :: (vs.map blk ++ O)) := c.dj
    exact this.1 b hb (List.mem_append_right _ hm)
  obtain ⟨A, n, rfl⟩ := h.1.shape
  obtain ⟨⟨cells, h1, h2, h3⟩, hlen, hin⟩ := h
  have hc : vs.length ≤ n ∧ n ≤ 9223372036854775807 := by
    rcases h1.2 with ⟨e, e'⟩ | ⟨g, cap, cur, e, _, _, h, hm, _⟩
    · simp only [Value.slice.injEq] at e; omega
    · cases e; exact ⟨h, hm⟩
  have harr : ∀ (vs : List Value) (xss : List (List α)) (cells : List Value), vs.length = xss.length → Arr Kd.raw w (Fr (blk (.slice A vs.length n) :: vs.map blk ++ O)) vs cells → (∀ u ∈ vs, ∀ b, blk u = some b → some b ∉ O) →
      (∀ j u, vs[j]? = some u → ∃ B, Ow k e2 w B u (xss.getD j []) ∧ ∀ b, b < w.heap.size → some b ∉ B → some b ∉ O) → Arr (Kd.sl k) w (Fr ([] ++ O)) xss cells := by
    intro vs
    have gen : ∀ (vs : List Value) (S : Sp) (xss : List (List α)) (cells : List Value), vs.length = xss.length → Arr Kd.raw w S vs cells → (∀ u ∈ vs, ∀ b, blk u = some b → some b ∉ O) →
      (∀ j u, vs[j]? = some u → ∃ B, Ow k e2 w B u (xss.getD j []) ∧ ∀ b, b < w.heap.size → some b ∉ B → some b ∉ O) → Arr (Kd.sl k) w (Fr ([] ++ O)) xss cells := by
      intro vs S
      induction vs with
      | nil =>
        intro xss cells hl ha _ _
        cases xss with
        | nil => exact ha
        | cons => cases hl
      | cons u vs ih =>
        intro xss cells hl ha hb hi
        cases xss with
        | nil => cases hl
        | cons x xss =>
          obtain ⟨c1, c2, e, h1, h2⟩ := ha
          obtain ⟨B, ho, hB⟩ := hi 0 u rfl
          have hx : Sl k w (Fr ([] ++ O)) u x := ho.sl _ fun b hlt hh hm => by
            rcases hh with hh | hh
            · exact hB b hlt hh hm
            · exact hb u (by simp) b hh hm
          exact ⟨c1, c2, e, ⟨u, h1.1, hx⟩, ih xss c2 (by simpa using hl) h2 (fun u hu => hb u (by simp [hu])) (fun j u hu => hi (j + 1) u hu)⟩
    exact gen vs _
  have := harr vs xss cells hlen h2 key (fun j u hu => ⟨_, hin j u hu, fun b _ hn hm => hn (List.mem_append_right _ hm)⟩)
  refine ⟨A, n, cells, by rw [hlen], by rw [← hlen]; exact hc, this, fun j u hu => ?_⟩
  rcases h1.2 with ⟨e, e'⟩ | ⟨g, cap, cur, e, _, hg, h, _⟩
  · have := h1.1
    have hl : cells = [] := List.length_eq_zero_iff.1 (by rw [this, e']; simp)
    subst hl; simp at hu
  · cases e
    exact ⟨_, rfl, keyv _ rfl, World.ownsRow.cells h1 (g := g) rfl j u hu⟩
theorem Ct.clear (c : Ct m w0 w L O) : Ct m w0 w [] O :=
  ⟨c.gr, by
    have := c.dj
    clear c
    induction L with
    | nil => exact this
    | cons a L ih => exact ih this.2, fun b hb => c.lt b (List.mem_append_right _ hb), fun b hb => by simp at hb, c.mo⟩
theorem St.clear : St w (L ++ O) w ([] ++ O) := ⟨rfl, rfl, rfl, Nat.le_refl _, fun _ _ _ => rfl, fun _ _ hn hm => hn (List.mem_append_right _ hm)⟩
end
end
section
open Go.RowKit
def Kd.cells (n : Nat) : Kd (List Value) where
  sz := n
  R := fun _ _ x cs => cs = x ∧ x.length = n ∧ ∀ u ∈ x, u.oneCell' = true
  len := fun h => by rw [h.1]; exact h.2.1
  one := fun h u hu => h.2.2 u (by rw [← h.1]; exact hu)
  keep := fun h _ => h
  mono := fun h _ => h
theorem Kd.cells.op {n : Nat} {w : World} {S : Sp} {x cs : List Value} (h : (Kd.cells n).R w S x cs) : cs = x := h.1
theorem cells_flat (n : Nat) : (Kd.cells n).Flat := fun _ _ _ _ _ _ h => h
theorem Dj.right : ∀ {A B : Ob}, Dj (A ++ B) → Dj B
  | [], _, d => d
  | _ :: _, _, d => Dj.right d.2
theorem Dj.disj : ∀ {A B : Ob}, Dj (A ++ B) → ∀ b, some b ∈ A → some b ∉ B
  | [], _, _, b, h => by cases h
  | a :: A, B, d, b, h => fun hB => by
    rcases List.mem_cons.1 h with e | h
    · exact d.1 b e.symm (List.mem_append_right _ hB)
    · exact Dj.disj d.2 b h hB
theorem Ow.flto {α : Type} {k : Kd α} (hf : k.Flat) {e : TypeId} {w w' : World} {O O' : Ob} {v : Value} {xs : List α} (h : Ow k e w O v xs) (hb : ∀ b, blk v = some b → w'.heap[b]? = w.heap[b]? ∧ some b ∈ O') : Ow k e w' O' v xs := by
  obtain ⟨cells, h1, h2, h3⟩ := h
  refine ⟨cells, ⟨h1.1, ?_⟩, h2.fl hf, fun b hv => (hb b hv).2⟩
  rcases h1.2 with hn | ⟨g, cap, cur, hv, h0, hg, rest⟩
  · exact .inl hn
  · exact .inr ⟨g, cap, cur, hv, h0, by rw [(hb g (by rw [hv]; rfl)).1]; exact hg, rest⟩
structure Dd {α : Type} (k : Kd α) where
  D : World → Ob → α → List Value → Prop
  keep : ∀ {w w' : World} {rs : Ob} {x : α} {cs : List Value}, D w rs x cs → (∀ b, some b ∈ rs → w'.heap[b]? = w.heap[b]?) → D w' rs x cs
  lt : ∀ {w : World} {rs : Ob} {x : α} {cs : List Value}, D w rs x cs → ∀ b, some b ∈ rs → b < w.heap.size
  toR : ∀ {w : World} {rs : Ob} {x : α} {cs : List Value} {S : Sp}, D w rs x cs → (∀ b, some b ∈ rs → S b) → k.R w S x cs
def Dd.flat {α : Type} {k : Kd α} (hf : k.Flat) : Dd k where
  D := fun w rs x cs => rs = [] ∧ k.R w (fun _ => True) x cs
  keep := fun h _ => ⟨h.1, hf _ _ _ _ _ _ h.2⟩
  lt := fun h b hb => by rw [h.1] at hb; cases hb
  toR := fun h _ => hf _ _ _ _ _ _ h.2
def Dd.pair {α β : Type} {a : Kd α} {b : Kd β} (p : Dd a) (q : Dd b) : Dd (Kd.pair a b) where
  D := fun w rs x cs => ∃ r1 r2 c1 c2, rs = r1 ++ r2 ∧ cs = c1 ++ c2 ∧ p.D w r1 x.1 c1 ∧ q.D w r2 x.2 c2
  keep := fun ⟨r1, r2, c1, c2, e, e', h1, h2⟩ g => ⟨r1, r2, c1, c2, e, e', p.keep h1 fun b hb => g b (by rw [e]; exact List.mem_append_left _ hb), q.keep h2 fun b hb => g b (by rw [e]; exact List.mem_append_right _ hb)⟩
  lt := fun ⟨r1, r2, c1, c2, e, e', h1, h2⟩ b hb => by
    rw [e] at hb; rcases List.mem_append.1 hb with hb | hb
    · exact p.lt h1 b hb
    · exact q.lt h2 b hb
  toR := fun ⟨r1, r2, c1, c2, e, e', h1, h2⟩ g => ⟨c1, c2, e', p.toR h1 fun b hb => g b (by rw [e]; exact List.mem_append_left _ hb), q.toR h2 fun b hb => g b (by rw [e]; exact List.mem_append_right _ hb)⟩
def Dd.iso {α β : Type} {a : Kd α} (p : Dd a) (f : β → α) : Dd (Kd.iso a f) where
  D := fun w rs x cs => p.D w rs (f x) cs
  keep := p.keep
  lt := p.lt
  toR := p.toR
theorem Dd.raw {α : Type} {k : Kd α} (d : Dd k) {w : World} {rs : Ob} {x : α} {cs : List Value} {S : Sp} (h : d.D w rs x cs) : (Kd.cells k.sz).R w S cs cs :=
  have hR := d.toR (S := fun _ => True) h fun _ _ => trivial
  ⟨rfl, k.len hR, fun u hu => k.one hR u hu⟩
def DArr {α : Type} {k : Kd α} (d : Dd k) (w : World) : Ob → List α → List (List Value) → Prop
  | rr, [], [] => rr = []
  | rr, x :: xs, c :: cs => ∃ r1 r2, rr = r1 ++ r2 ∧ d.D w r1 x c ∧ DArr d w r2 xs cs
  | _, _, _ => False
section
variable {α : Type} {k : Kd α} {d : Dd k} {w w' : World} {rr r1 r2 : Ob} {xs ys : List α} {ra rb : List (List Value)}
theorem DArr.len : ∀ {xs : List α} {ra : List (List Value)} {rr : Ob}, DArr d w rr xs ra → ra.length = xs.length
  | [], [], _, _ => rfl
  | _ :: _, _ :: _, _, ⟨_, _, _, _, h⟩ => by rw [List.length_cons, List.length_cons, DArr.len h]
theorem DArr.lt : ∀ {xs : List α} {ra : List (List Value)} {rr : Ob}, DArr d w rr xs ra → ∀ b, some b ∈ rr → b < w.heap.size
  | [], [], _, h, b, hb => by simp only [DArr] at h; rw [h] at hb; cases hb
  | _ :: _, _ :: _, _, ⟨_, _, e, h1, h2⟩, b, hb => by
    rw [e] at hb; rcases List.mem_append.1 hb with hb | hb
    · exact d.lt h1 b hb
    · exact DArr.lt h2 b hb
theorem DArr.keep : ∀ {xs : List α} {ra : List (List Value)} {rr : Ob}, DArr d w rr xs ra → (∀ b, some b ∈ rr → w'.heap[b]? = w.heap[b]?) → DArr d w' rr xs ra
  | [], [], _, h, _ => h
  | _ :: _, _ :: _, _, ⟨r1, r2, e, h1, h2⟩, g => ⟨r1, r2, e, d.keep h1 fun b hb => g b (by rw [e]; exact List.mem_append_left _ hb), DArr.keep h2 fun b hb => g b (by rw [e]; exact List.mem_append_right _ hb)⟩
theorem DArr.k0 (h : DArr d w rr xs ra) (g : Gr w w' none) : DArr d w' rr xs ra := h.keep fun b hb => g.block b (h.lt b hb) (by simp)
theorem DArr.single {x : α} {c : List Value} {r : Ob} (h : d.D w r x c) : DArr d w r [x] [c] := ⟨r, [], by simp, h, rfl⟩
theorem DArr.app : ∀ {xs : List α} {ra : List (List Value)} {r1 : Ob}, DArr d w r1 xs ra → DArr d w r2 ys rb → DArr d w (r1 ++ r2) (xs ++ ys) (ra ++ rb)
  | [], [], _, h, g => by simp only [DArr] at h; rw [h]; exact g
  | _ :: _, _ :: _, _, ⟨p, q, e, h1, h2⟩, g => ⟨p, q ++ r2, by rw [e, List.append_assoc], h1, DArr.app h2 g⟩
theorem DArr.arr {S S' : Sp} : ∀ {xs : List α} {ra : List (List Value)} {rr : Ob} {cs : List Value}, DArr d w rr xs ra → Arr (Kd.cells k.sz) w S' ra cs → (∀ b, some b ∈ rr → S b) → Arr k w S xs cs
  | [], [], _, _, _, h, _ => h
  | _ :: _, _ :: _, _, _, ⟨p, q, e, h1, h2⟩, ⟨c1, c2, e', hc, h3⟩, g => ⟨c1, c2, e', by
      rw [hc.1]; exact d.toR h1 fun b hb => g b (by rw [e]; exact List.mem_append_left _ hb), DArr.arr h2 h3 fun b hb => g b (by rw [e]; exact List.mem_append_right _ hb)⟩
theorem DArr.at_ : ∀ {xs : List α} {ra : List (List Value)} {rr : Ob} (i : Nat) (z : α), DArr d w rr xs ra → i < xs.length →
    ∃ r, (∀ b, some b ∈ r → some b ∈ rr) ∧ (Dj rr → Dj r) ∧ d.D w r (xs.getD i z) (ra.getD i default) ∧
      ∀ w' y c, Dj rr → (∀ b, some b ∈ rr → some b ∉ r → w'.heap[b]? = w.heap[b]?) → d.D w' r y c → DArr d w' rr (xs.set i y) (ra.set i c)
  | [], [], _, _, _, _, h => absurd h (by simp)
  | x :: xs, c :: ra, _, 0, _, ⟨p, q, e, h1, h2⟩, _ => ⟨p, fun b hb => by rw [e]; exact List.mem_append_left _ hb, fun dj => by rw [e] at dj; exact dj.left, h1, fun w' y c' dj g hy => ⟨p, q, e, hy, h2.keep fun b hb => g b (by rw [e]; exact List.mem_append_right _ hb) fun hp => by rw [e] at dj; exact dj.disj b hp hb⟩⟩
  | x :: xs, c :: ra, _, i + 1, z, ⟨p, q, e, h1, h2⟩, hi => by
    obtain ⟨r, a1, a2, a3, a4⟩ := DArr.at_ i z h2 (by simpa using hi)
    refine ⟨r, fun b hb => by rw [e]; exact List.mem_append_right _ (a1 b hb), fun dj => by rw [e] at dj; exact a2 dj.right, by simpa using a3, fun w' y c' dj g hy => ?_⟩
    rw [e] at dj
    exact ⟨p, q, e, d.keep h1 fun b hb => g b (by rw [e]; exact List.mem_append_left _ hb) fun hr => dj.disj b hb (a1 b hr), a4 w' y c' dj.right (fun b hb hn => g b (by rw [e]; exact List.mem_append_right _ hb) hn) hy⟩
theorem DArr.fnil {hf : k.Flat} : ∀ {xs : List α} {ra : List (List Value)} {rr : Ob}, DArr (Dd.flat hf) w rr xs ra → rr = []
  | [], [], _, h => h
  | _ :: _, _ :: _, _, ⟨p, q, e, h1, h2⟩ => by rw [e, h1.1, DArr.fnil h2]; rfl
theorem DArr.of_flat (hf : k.Flat) {S : Sp} : ∀ {xs : List α} {cs : List Value}, Arr k w S xs cs → ∃ ra, DArr (Dd.flat hf) w [] xs ra ∧ ∀ S', Arr (Kd.cells k.sz) w S' ra cs
  | [], _, h => ⟨[], rfl, fun _ => h⟩
  | _ :: _, _, ⟨c1, c2, e, h1, h2⟩ => by
    obtain ⟨ra, a1, a2⟩ := DArr.of_flat hf h2
    exact ⟨c1 :: ra, ⟨[], [], rfl, ⟨rfl, hf _ _ _ _ _ _ h1⟩, a1⟩, fun S' => ⟨c1, c2, e, ⟨rfl, k.len h1, fun u hu => k.one h1 u hu⟩, a2 S'⟩⟩
end
def Ds {α : Type} {k : Kd α} (d : Dd k) (e : TypeId) (w : World) (rs : Ob) (v : Value) (xs : List α) : Prop :=
  ∃ ra rr, rs = blk v :: rr ∧ Ow (Kd.cells k.sz) e w [blk v] v ra ∧ DArr d w rr xs ra
section
variable {α : Type} {k : Kd α} {d : Dd k} {e : TypeId} {w w' w0 w1 : World} {rr rs r1 r2 O O' L m : Ob} {xs ys : List α} {ra rb : List (List Value)} {v : Value} {r : Option Nat} {i j : Nat}
theorem Ow.csl (hw : Ow (Kd.cells k.sz) e w O v ra) (hd : DArr d w rr xs ra) (S : Sp) (h1 : ∀ b, blk v = some b → S b) (h2 : ∀ b, some b ∈ rr → S b) : Sl k w S v xs := by
  have hl := hd.len
  obtain ⟨cells, o1, o2, o3⟩ := hw
  obtain ⟨A, c, rfl⟩ := ownsRow.shape o1
  have hc : ra.length ≤ c ∧ c ≤ 9223372036854775807 := by
    rcases o1.2 with ⟨e, e'⟩ | ⟨g, cap, cur, e, _, _, h, hm, _⟩
    · simp only [Value.slice.injEq] at e; omega
    · cases e; exact ⟨h, hm⟩
  refine ⟨A, c, cells, by rw [hl], by rw [← hl]; exact hc, hd.arr o2 h2, fun j u hu => ?_⟩
  rcases o1.2 with ⟨e, e'⟩ | ⟨g, cap, cur, e, _, hg, h, _⟩
  · have := o1.1
    have hl : cells = [] := List.length_eq_zero_iff.1 (by rw [this, e']; simp)
    subst hl; simp at hu
  · cases e
    have hcell := World.ownsRow.cells o1 (g := g) rfl j u hu
    exact ⟨_, rfl, h1 _ rfl, hcell⟩
theorem Ds.mk (hw : Ow (Kd.cells k.sz) e w O v ra) (hd : DArr d w rr xs ra) : Ds d e w (blk v :: rr) v xs :=
  ⟨ra, rr, rfl, hw.flto (cells_flat _) fun b hb => ⟨rfl, by rw [← hb]; exact List.mem_cons_self⟩, hd⟩
theorem Ds.ofOw (hf : k.Flat) (h : Ow k e w O v xs) : Ds (Dd.flat hf) e w [blk v] v xs := by
  obtain ⟨cells, o1, o2, o3⟩ := h
  obtain ⟨ra, a1, a2⟩ := DArr.of_flat hf o2
  exact ⟨ra, [], rfl, ⟨cells, by rw [a1.len]; exact o1, a2 _, fun b hb => by rw [← hb]; exact List.mem_cons_self⟩, a1⟩
theorem Ds.toOw {hf : k.Flat} (h : Ds (Dd.flat hf) e w rs v xs) (hO : ∀ b, some b ∈ rs → some b ∈ O) : Ow k e w O v xs := by
  obtain ⟨ra, rr, e1, ⟨cells, o1, o2, o3⟩, hd⟩ := h
  refine ⟨cells, by rw [← hd.len]; exact o1, hd.arr o2 (by rw [hd.fnil]; intro b hb; cases hb), fun b hb => hO b (by rw [e1, hb]; exact List.mem_cons_self)⟩
theorem Ds.upf {hf : k.Flat} (h : Ds (Dd.flat hf) e w rs v xs) (h' : Ow k e w' O v ys) : Ds (Dd.flat hf) e w' rs v ys := by
  obtain ⟨ra, rr, e1, _, hd⟩ := h
  rw [e1, hd.fnil]; exact Ds.ofOw hf h'
theorem Ds.rows {hf : k.Flat} (h : Ds (Dd.flat hf) e w rs v xs) : rs = [blk v] := by
  obtain ⟨ra, rr, e1, _, hd⟩ := h
  rw [e1, hd.fnil]
theorem Ds.shape (h : Ds d e w rs v xs) : ∃ A n c, v = .slice A n c := by
  obtain ⟨ra, rr, e1, ho, hd⟩ := h
  obtain ⟨A, c, e⟩ := ho.shape
  exact ⟨A, _, c, e⟩
end
def Dd.sl {α : Type} {k : Kd α} (d : Dd k) (e : TypeId) : Dd (Kd.sl k) where
  D := fun w rs x cs => ∃ v, cs = [v] ∧ Ds d e w rs v x
  keep := fun ⟨v, e1, ra, rr, e2, ho, hd⟩ g => ⟨v, e1, ra, rr, e2, ho.flto (cells_flat _) fun b hb => ⟨g b (by rw [e2, hb]; exact List.mem_cons_self), by rw [← hb]; exact List.mem_cons_self⟩, hd.keep fun b hb => g b (by rw [e2]; exact List.mem_cons_of_mem _ hb)⟩
  lt := fun ⟨v, e1, ra, rr, e2, ho, hd⟩ b hb => by
    rw [e2] at hb; rcases List.mem_cons.1 hb with hb | hb
    · exact ho.ltb b hb.symm
    · exact hd.lt b hb
  toR := fun ⟨v, e1, ra, rr, e2, ho, hd⟩ g => ⟨v, e1, ho.csl hd _ (fun b hb => g b (by rw [e2, hb]; exact List.mem_cons_self)) fun b hb => g b (by rw [e2]; exact List.mem_cons_of_mem _ hb)⟩
def Foc {α β : Type} {k : Kd α} {k' : Kd β} (d : Dd k) (d' : Dd k') (off : Nat) (get : α → β) (put : α → β → α) : Prop :=
  ∀ w r x cs, d.D w r x cs → ∃ r' pre c post, (∀ b, some b ∈ r' → some b ∈ r) ∧ (Dj r → Dj r') ∧ cs = pre ++ c ++ post ∧ pre.length = off ∧ d'.D w r' (get x) c ∧
    ∀ w' y c', Dj r → (∀ b, some b ∈ r → some b ∉ r' → w'.heap[b]? = w.heap[b]?) → d'.D w' r' y c' → d.D w' r (put x y) (pre ++ c' ++ post)
theorem Foc.left {α β : Type} {a : Kd α} {b : Kd β} {p : Dd a} {q : Dd b} : Foc (p.pair q) p 0 (fun x => x.1) (fun x y => (y, x.2)) := fun w r x cs ⟨r1, r2, c1, c2, e, e', h1, h2⟩ =>
  ⟨r1, [], c1, c2, fun b hb => by rw [e]; exact List.mem_append_left _ hb, fun dj => by rw [e] at dj; exact dj.left, by simpa using e', rfl, h1, fun w' y c' dj g hy =>
    ⟨r1, r2, c', c2, e, by simp, hy, q.keep h2 fun b hb => g b (by rw [e]; exact List.mem_append_right _ hb) fun hp => by rw [e] at dj; exact dj.disj b hp hb⟩⟩
theorem Foc.right {α β : Type} {a : Kd α} {b : Kd β} {p : Dd a} {q : Dd b} : Foc (p.pair q) q a.sz (fun x => x.2) (fun x y => (x.1, y)) := fun w r x cs ⟨r1, r2, c1, c2, e, e', h1, h2⟩ =>
  ⟨r2, c1, c2, [], fun b hb => by rw [e]; exact List.mem_append_right _ hb, fun dj => by rw [e] at dj; exact dj.right, by simpa using e', a.len (p.toR (S := fun _ => True) h1 fun _ _ => trivial), h2, fun w' y c' dj g hy =>
    ⟨r1, r2, c1, c', e, by simp, p.keep h1 fun b hb => g b (by rw [e]; exact List.mem_append_left _ hb) fun hp => by rw [e] at dj; exact dj.disj b hb hp, hy⟩⟩
theorem Foc.iso {α β γ : Type} {a : Kd α} {k' : Kd γ} {p : Dd a} {d' : Dd k'} {f : β → α} (g : α → β) (hg : ∀ y, f (g y) = y) {off : Nat} {get : α → γ} {put : α → γ → α} (h : Foc p d' off get put) : Foc (p.iso f) d' off (fun x => get (f x)) (fun x y => g (put (f x) y)) := fun w r x cs hD => by
  obtain ⟨r', pre, c, post, h1, h2, h3, h4, h5, h6⟩ := h w r (f x) cs hD
  exact ⟨r', pre, c, post, h1, h2, h3, h4, h5, fun w' y c' dj q hy => by
    have := h6 w' y c' dj q hy
    show p.D w' r (f (g (put (f x) y))) _
    rw [hg]; exact this⟩
theorem Foc.trans {α β γ : Type} {a : Kd α} {b : Kd β} {c0 : Kd γ} {d1 : Dd a} {d2 : Dd b} {d3 : Dd c0} {o1 o2 : Nat} {g1 : α → β} {s1 : α → β → α} {g2 : β → γ} {s2 : β → γ → β} (h : Foc d1 d2 o1 g1 s1) (h' : Foc d2 d3 o2 g2 s2) :
    Foc d1 d3 (o1 + o2) (fun x => g2 (g1 x)) (fun x y => s1 x (s2 (g1 x) y)) := fun w r x cs hD => by
  obtain ⟨r', pre, c, post, h1, h2, h3, h4, h5, h6⟩ := h w r x cs hD
  obtain ⟨r'', pre', c', post', k1, k2, k3, k4, k5, k6⟩ := h' w r' (g1 x) c h5
  refine ⟨r'', pre ++ pre', c', post' ++ post, fun b hb => h1 b (k1 b hb), fun dj => k2 (h2 dj), by rw [h3, k3]; simp, by simp [h4, k4], k5, fun w' y cy dj g hy => ?_⟩
  have := h6 w' _ _ dj (fun b hb hn => g b hb fun hm => hn (k1 b hm)) (k6 w' y cy (h2 dj) (fun b hb hn => g b (h1 b hb) hn) hy)
  simpa using this
theorem foc_cell {cs pre post : List Value} {v : Value} {off : Nat} (h : cs = pre ++ [v] ++ post) (hl : pre.length = off) : cs[off]? = some v := by subst h; subst hl; simp
theorem foc_put {cs pre c us post : List Value} {off : Nat} (h : cs = pre ++ c ++ post) (hl : pre.length = off) (hc : c.length = us.length) : cs.take off ++ us ++ cs.drop (off + us.length) = pre ++ us ++ post := by
  subst h; subst hl; rw [← hc]; simp
theorem set_getD_self {α : Type} [Inhabited α] (l : List α) (i : Nat) {c : α} (h : l.getD i default = c) : l.set i c = l := by
  subst h
  apply List.ext_getElem?
  intro j
  rw [List.getElem?_set]
  split
  · rename_i e; subst e
    split
    · rename_i hi; rw [List.getD_eq_getElem?_getD, List.getElem?_eq_getElem hi]; rfl
    · rename_i hi; rw [List.getElem?_eq_none (by omega)]
  · rfl
section
variable {α : Type} {k : Kd α} {d : Dd k} {e : TypeId} {w w' w0 w1 : World} {rr qq rs O L L' m : Ob} {xs ys : List α} {ra rb : List (List Value)} {v u : Value} {r : Option Nat} {i j : Nat}
theorem Gr.gm {qs : Ob} (g : Gr w w' r) (h : ∀ b, r = some b → some b ∈ qs) : Gm w w' qs := (Gm.refl w qs).tq g fun b e _ => h b e
theorem Ct.nin (c : Ct m w0 w L O) (hi : L[i]? = some r) {b : Nat} (hm : some b ∈ L.drop (i + 1)) : r ≠ some b := fun e => by
  obtain ⟨j, hj⟩ := List.getElem?_of_mem hm
  rw [List.getElem?_drop] at hj
  exact Dj.ne c.dj (get_app hi) (get_app hj) (by omega) b e rfl
theorem DArr.sm (h : DArr d w rr xs ra) (c : Ct m w0 w L O) (hi : L[i]? = some r) (hm : ∀ b, some b ∈ rr → some b ∈ L.drop (i + 1)) (g : Gr w w' r) : DArr d w' rr xs ra :=
  h.keep fun b hb => g.block b (h.lt b hb) fun e => c.nin hi (hm b hb) e.symm
theorem Dp.gv (hw : Ow (Kd.cells k.sz) e w (L ++ O) v ra) (hd : DArr d w rr xs ra) (c : Ct m w0 w L O) (p : L.Perm (blk v :: (rr ++ L'))) : Sl k w (Fr (L' ++ O)) v xs ∧ Ct m w0 w L' O ∧ St w (L ++ O) w (L' ++ O) := by
  have c' := c.perm p
  have dj : Dj (blk v :: (rr ++ (L' ++ O))) := by have := c'.dj; simpa using this
  refine ⟨hw.csl hd _ (fun b hb hm => dj.1 b hb (List.mem_append_right _ hm)) fun b hb hm => dj.2.disj b hb hm, ⟨c'.gr, dj.2.right, fun b hb => c'.lt b ?_, fun b hb => c'.ge b ?_, c'.mo⟩, ⟨rfl, rfl, rfl, Nat.le_refl _, fun _ _ _ => rfl, fun b _ hn hm => hn ?_⟩⟩
  · rcases List.mem_append.1 hb with hb | hb
    · exact List.mem_append_left _ (List.mem_cons_of_mem _ (List.mem_append_right _ hb))
    · exact List.mem_append_right _ hb
  · exact List.mem_cons_of_mem _ (List.mem_append_right _ hb)
  · rcases List.mem_append.1 hm with hm | hm
    · exact List.mem_append_left _ (p.mem_iff.2 (List.mem_cons_of_mem _ (List.mem_append_right _ hm)))
    · exact List.mem_append_right _ hm
theorem Dp.own (hw : Ow (Kd.cells k.sz) e w (L ++ O) v ra) (hd : DArr d w rr xs ra) (c : Ct m w0 w L O) (p : L.Perm (rr ++ L')) (hv : ∀ b, blk v = some b → some b ∈ L') : Ow k e w (L' ++ O) v xs ∧ Ct m w0 w L' O ∧ St w (L ++ O) w (L' ++ O) := by
  have c' := c.perm p
  have dj : Dj (rr ++ (L' ++ O)) := by have := c'.dj; simpa using this
  have hd' : ∀ b, some b ∈ rr → Fr (L' ++ O) b := fun b hb hm => dj.disj b hb hm
  refine ⟨?_, ⟨c'.gr, dj.right, fun b hb => c'.lt b ?_, fun b hb => c'.ge b ?_, c'.mo⟩, ⟨rfl, rfl, rfl, Nat.le_refl _, fun _ _ _ => rfl, fun b _ hn hm => hn ?_⟩⟩
  · obtain ⟨cells, o1, o2, o3⟩ := hw
    exact ⟨cells, by rw [← hd.len]; exact o1, hd.arr o2 hd', fun b hb => List.mem_append_left _ (hv b hb)⟩
  · rcases List.mem_append.1 hb with hb | hb
    · exact List.mem_append_left _ (List.mem_append_right _ hb)
    · exact List.mem_append_right _ hb
  · exact List.mem_append_right _ hb
  · rcases List.mem_append.1 hm with hm | hm
    · exact List.mem_append_left _ (p.mem_iff.2 (List.mem_append_right _ hm))
    · exact List.mem_append_right _ hm
theorem Ct.drops (c : Ct m w0 w L O) (p : L.Perm (rs ++ L')) : Ct m w0 w L' O := by
  have c' := c.perm p
  have dj : Dj (rs ++ (L' ++ O)) := by have := c'.dj; simpa using this
  refine ⟨c'.gr, dj.right, fun b hb => c'.lt b ?_, fun b hb => c'.ge b ?_, c'.mo⟩
  · rcases List.mem_append.1 hb with hb | hb
    · exact List.mem_append_left _ (List.mem_append_right _ hb)
    · exact List.mem_append_right _ hb
  · exact List.mem_append_right _ hb
theorem St.drops (w : World) (O : Ob) (p : L.Perm (rs ++ L')) : St w (L ++ O) w (L' ++ O) := ⟨rfl, rfl, rfl, Nat.le_refl _, fun _ _ _ => rfl, fun b _ hn hm => hn (by
  rcases List.mem_append.1 hm with hm | hm
  · exact List.mem_append_left _ (p.mem_iff.2 (List.mem_append_right _ hm))
  · exact List.mem_append_right _ hm)⟩
theorem Ow.drops {β : Type} {k' : Kd β} {zs : List β} (h : Ow k' e w (L ++ O) u zs) (p : L.Perm (rs ++ L')) (hi : ∀ b, blk u = some b → some b ∈ L') : Ow k' e w (L' ++ O) u zs :=
  h.st0 (.drops w O p) (Gr.refl _ _) fun b hb => List.mem_append_left _ (hi b hb)
theorem memi {x : Option Nat} (i : Nat) (h : L[i]? = some x) : ∀ b, x = some b → some b ∈ L := fun b e => by rw [← e]; exact List.mem_of_getElem? h
theorem Ct.dm {qs : Ob} (c : Ct m w0 w L O) (g : Gm w w' qs) (hq : ∀ b, some b ∈ qs → some b ∈ L) : Ct m w0 w' L O :=
  ⟨c.gr.tg g fun b hb hl => absurd (c.ge b (hq b hb)) (by omega), c.dj, fun b hb => Nat.lt_of_lt_of_le (c.lt b hb) g.size, c.ge, c.mo⟩
theorem Ct.wmg {qs : Ob} (c : Ct m w0 w L O) (g : Gm w w' qs) (hq : ∀ b, some b ∈ qs → some b ∈ m) : Ct m w0 w' L O :=
  ⟨c.gr.tg g fun b hb hl => hq b hb, c.dj, fun b hb => Nat.lt_of_lt_of_le (c.lt b hb) g.size, c.ge, c.mo⟩
theorem St.gm {qs : Ob} (g : Gm w w' qs) (hq : ∀ b, some b ∈ qs → some b ∈ O) : St w O w' O := ⟨g.os, g.tape, g.output, g.size, fun b hb hn => g.block b hb fun hm => hn (hq b hm), fun _ _ hn => hn⟩
theorem Ow.gm {β : Type} {k' : Kd β} {zs : List β} {qs : Ob} (h : Ow k' e w O u zs) (g : Gm w w' qs) (hq : ∀ b, some b ∈ qs → some b ∈ O) (hn : ∀ b, blk u = some b → some b ∉ qs) : Ow k' e w' O u zs :=
  h.st (.gm g hq) fun b hb => ⟨g.block b (h.ltb b hb) (hn b hb), h.choose_spec.2.2 b hb⟩
theorem DArr.gm {qs : Ob} (h : DArr d w rr xs ra) (g : Gm w w' qs) (hn : ∀ b, some b ∈ rr → some b ∉ qs) : DArr d w' rr xs ra := h.keep fun b hb => g.block b (h.lt b hb) (hn b hb)
theorem Bx.gm {b : Nat} {cs : List Value} {qs : Ob} (h : Bx w b cs) (g : Gm w w' qs) (hn : some b ∉ qs) : Bx w' b cs := by
  obtain ⟨e, h⟩ := h
  exact ⟨e, (g.block b (Array.getElem?_eq_some_iff.1 h).1 hn).trans h⟩
theorem St.spa {A : Ob} (p : (A ++ L).Perm L') : St w (A ++ (L ++ O)) w (L' ++ O) := by rw [← List.append_assoc]; exact .perm p
theorem Ow.spa {β : Type} {k' : Kd β} {zs : List β} {A : Ob} (h : Ow k' e w (A ++ (L ++ O)) u zs) (p : (A ++ L).Perm L') : Ow k' e w (L' ++ O) u zs := by rw [← List.append_assoc] at h; exact h.sp p
theorem Ct.dsj {qs C : Ob} (c : Ct m w0 w L O) (p : L.Perm (qs ++ C)) : ∀ b, some b ∈ C → some b ∉ qs := fun b hc hq => by
  have dj := (c.perm p).dj
  exact dj.left.disj b hq hc
theorem Ct.ogm {β : Type} {k' : Kd β} {zs : List β} {qs C : Ob} (c : Ct m w0 w L O) (h : Ow k' e w (L ++ O) u zs) (g : Gm w w' qs) (p : L.Perm (qs ++ C)) (i : Nat) (hi : C[i]? = some (blk u)) : Ow k' e w' (L ++ O) u zs :=
  Ow.gm h g (fun b hb => List.mem_append_left _ (p.mem_iff.2 (List.mem_append_left _ hb))) fun b e => c.dsj p b (by rw [← e]; exact List.mem_of_getElem? hi)
theorem Ct.dgm {qs C : Ob} (c : Ct m w0 w L O) (h : DArr d w rr xs ra) (g : Gm w w' qs) (p : L.Perm (qs ++ C)) (hm : ∀ b, some b ∈ rr → some b ∈ C) : DArr d w' rr xs ra := h.gm g fun b hb => c.dsj p b (hm b hb)
theorem Ct.odr {β : Type} {k' : Kd β} {zs : List β} {rs L' : Ob} (c : Ct m w0 w L O) (h : Ow k' e w (L ++ O) u zs) (p : L.Perm (rs ++ L')) (j : Nat) (hj : L'[j]? = some (blk u)) : Ow k' e w (L' ++ O) u zs := Ow.drops h p (memi j hj)
theorem Ct.spa {β : Type} {k' : Kd β} {zs : List β} {A L' : Ob} (c : Ct m w0 w (A ++ L) O) (h : Ow k' e w (A ++ (L ++ O)) u zs) (p : (A ++ L).Perm L') : Ow k' e w (L' ++ O) u zs := Ow.spa h p
theorem Dp.len {A : Option Addr} {n c : Nat} (hw : Ow (Kd.cells k.sz) e w O (.slice A n c) ra) (hd : DArr d w rr xs ra) : n = xs.length := hw.len.trans hd.len
theorem Dp.le (hw : Ow (Kd.cells k.sz) e w O v ra) (hd : DArr d w rr xs ra) : xs.length ≤ 9223372036854775807 := by rw [← hd.len]; exact hw.le
theorem Dj.none : ∀ {qs B : Ob}, (∀ x ∈ qs, x = none) → Dj B → Dj (qs ++ B)
  | [], _, _, d => d
  | a :: qs, B, h, d => ⟨fun b e => (by rw [h a List.mem_cons_self] at e; cases e), Dj.none (fun x hx => h x (List.mem_cons_of_mem _ hx)) d⟩
theorem none_mem {qs B : Ob} (h : ∀ x ∈ qs, x = none) {b : Nat} (hb : some b ∈ qs ++ B) : some b ∈ B := by
  rcases List.mem_append.1 hb with hb | hb
  · have := h _ hb; cases this
  · exact hb
theorem Ct.noned {qs : Ob} (c : Ct m w0 w L O) (h : ∀ x ∈ qs, x = none) (p : (qs ++ L).Perm L') : Ct m w0 w L' O := by
  have c' : Ct m w0 w (qs ++ L) O := ⟨c.gr, by rw [List.append_assoc]; exact Dj.none h c.dj, fun b hb => c.lt b (by rw [List.append_assoc] at hb; exact none_mem h hb), fun b hb => c.ge b (none_mem h hb), c.mo⟩
  exact c'.perm p
theorem St.noned {qs : Ob} (w : World) (O : Ob) (h : ∀ x ∈ qs, x = none) (p : (qs ++ L).Perm L') : St w (L ++ O) w (L' ++ O) := ⟨rfl, rfl, rfl, Nat.le_refl _, fun _ _ _ => rfl, fun b _ hn hm => hn (by
  rcases List.mem_append.1 hm with hm | hm
  · exact List.mem_append_left _ (none_mem h (p.mem_iff.2 hm))
  · exact List.mem_append_right _ hm)⟩
theorem Ow.noned {β : Type} {k' : Kd β} {zs : List β} {qs : Ob} (h : Ow k' e w (L ++ O) u zs) (hq : ∀ x ∈ qs, x = none) (p : (qs ++ L).Perm L') : Ow k' e w (L' ++ O) u zs :=
  h.st0 (.noned w O hq p) (Gr.refl _ _) fun b hb => by
    rcases List.mem_append.1 (h.choose_spec.2.2 b hb) with hm | hm
    · exact List.mem_append_left _ (p.mem_iff.1 (List.mem_append_right _ hm))
    · exact List.mem_append_right _ hm
theorem none_rep {qs : Ob} (h : ∀ x ∈ qs, x = none) (n : Nat) : ∀ x ∈ (List.replicate n qs).flatten, x = none := fun x hx => by
  obtain ⟨l, hl, hx⟩ := List.mem_flatten.1 hx
  rw [List.eq_of_mem_replicate hl] at hx
  exact h x hx
theorem DArr.rep {z : α} {c : List Value} {r : Ob} (h : d.D w r z c) : ∀ n, DArr d w (List.replicate n r).flatten (List.replicate n z) (List.replicate n c)
  | 0 => rfl
  | n + 1 => ⟨r, _, rfl, h, DArr.rep h n⟩
theorem Ds.nil : Ds d e w [none] (.slice none 0 0) [] := ⟨[], [], rfl, Ow.nil _ _ _ _, rfl⟩
theorem DArr.put {y : α} {c : List Value} {rn : Ob} (hy : d.D w rn y c) : ∀ {xs : List α} {ra : List (List Value)} {rr : Ob} (i : Nat), DArr d w rr xs ra → i < xs.length → ∃ rr' ro, (rr ++ rn).Perm (ro ++ rr') ∧ DArr d w rr' (xs.set i y) (ra.set i c)
  | [], [], _, _, _, h => absurd h (by simp)
  | x :: xs, c0 :: ra, _, 0, ⟨p, q, e, h1, h2⟩, _ => ⟨rn ++ q, p, by rw [e, List.append_assoc]; exact (List.perm_append_comm).append_left p, rn, q, rfl, hy, h2⟩
  | x :: xs, c0 :: ra, _, i + 1, ⟨p, q, e, h1, h2⟩, hi => by
    obtain ⟨rr', ro, pp, h⟩ := DArr.put hy i h2 (by simpa using hi)
    refine ⟨p ++ rr', ro, ?_, p, rr', rfl, h1, h⟩
    rw [e, List.append_assoc]
    refine (pp.append_left p).trans ?_
    rw [← List.append_assoc, ← List.append_assoc]
    exact (List.perm_append_comm).append_right rr'
theorem whole_put {cs us : List Value} (h : cs.length = us.length) : cs.take 0 ++ us ++ cs.drop (0 + us.length) = us := by rw [Nat.zero_add, ← h]; simp
theorem DArr.fset {c c' : List Value} (h : DArr d w rr xs (ra.set i c')) (e : ra.getD i default = c) (e' : c' = c) : DArr d w rr xs ra := by rw [e', set_getD_self ra i e] at h; exact h
end
section
variable {P : Program} {n : Nat} {N R : Ps} {X : Nat → Ps} {t : Tm} {w : World} {ops : Array Oper} {rest : List Oper} {ty : TypeId} {pos : String} {aft : Array Edge} {x y : Operand}
theorem L_ste3 {α : Type} {kd : Kd α} {e T : TypeId} {O : Ob} (A : Option Addr) (m c : Nat) (xs : List α) (ho : Ow kd e w O (.slice A m c) xs) (i : Int) (hi : 0 ≤ i ∧ i < (xs.length : Int)) (ad : Addr) (hA : A = some ad) (off : Nat) {o1 o2 o3 : Nat} (ho12 : o1 + o2 + o3 = off)
    (hx : evt n t x = .pointer (some ((((ad.add (i.toNat * kd.sz)).add o1).add o2).add o3))) (us : List Value) (hy : (evt n t y).cells = us.toArray) (hs : SizeOf P T us.length) (hl' : Nat.ble (off + us.length) kd.sz = true)
    (x' : α) (cs cs' : List Value) (hcell : ∀ j u, cs[j]? = some u → w.cell? ((ad.add (i.toNat * kd.sz)).add j) = some u) (hlen : cs.length = kd.sz) (hcs : cs.take off ++ us ++ cs.drop (off + us.length) = cs') (hR : kd.R w (Fr O) x' cs')
    (k : ∀ w', Gr w w' (blk (.slice A m c)) → Ow kd e w' O (.slice A m c) (xs.set i.toNat x') → L P n ops N R X rest t w') :
    L P n ops N R X (⟨none, .store T x y, ty, pos, aft, none⟩ :: rest) t w :=
  L_ste1 A m c xs ho i hi ad hA off (by rw [hx, add_add, add_add, ← Nat.add_assoc, ho12]) us hy hs hl' x' cs cs' hcell hlen hcs hR k
end
theorem addr2 {a : Addr} {o1 o2 o : Nat} (h : o1 + o2 = o) : (a.add o1).add o2 = a.add o := by rw [add_add, h]
theorem addr3 {a : Addr} {o1 o2 o3 o : Nat} (h : o1 + o2 + o3 = o) : ((a.add o1).add o2).add o3 = a.add o := by rw [add_add, add_add, ← Nat.add_assoc, h]
section
variable {P : Program} {n : Nat} {t : Tm} {C : World → Prop} {x : Operand} {dd : Nat} {ty : TypeId} {pos : String} {aft : Array Edge}
theorem byte_cells {w : World} {S : Sp} : ∀ {xs : Str} {cs : List Value}, Arr Kd.byte w S xs cs → cs = xs.map v8
  | [], _, h => h
  | x :: xs, _, ⟨c1, c2, e, h1, h2⟩ => by rw [e, byte_cells h2, show c1 = [v8 x] from h1]; rfl
theorem P_b2s {T U e : TypeId} (hs : P.underlying T = some (.slice e)) (he : P.underlying e = some (.int .u8)) (hd : P.underlying U = some .string) (A : Option Addr) (m c : Nat) (xs : Str) (hx : evt n t x = .slice A m c) (h : ∀ w, C w → ∃ S, Sx Kd.byte w S (.slice A m c) xs) :
    Pu P n t C ⟨some dd, .convert T U x, ty, pos, aft, none⟩ (vs xs) := fun w hw => by
  obtain ⟨S, A', c', cells, e1, h1, h2, h3⟩ := h w hw
  cases e1
  have hc := byte_cells h2
  subst hc
  cases A with
  | none =>
    have : xs = [] := by
      cases xs with
      | nil => rfl
      | cons a l => obtain ⟨ad, ea, _⟩ := h3 0 (v8 a) rfl; cases ea
    subst this
    have := run_convert_bytes_string (P := P) w T U e none 0 c hs he hd
    simp [execOp, hx, this, Conv.bytesToString]; rfl
  | some a =>
    have := run_convert_bytes_back (P := P) w T U e a c xs hs he hd fun j hj => by
      obtain ⟨ad, ea, hc⟩ := h3 j (v8 xs[j]) (by simp [hj])
      cases ea; exact hc
    simp [execOp, hx, this]
theorem P_convb {T U : TypeId} {kd : IntKind} {d' : TypeDesc} (ht : P.underlying T = some d') (hu : P.underlying U = some (.int .u8)) (i : Int) (hx : evt n t x = .int kd i) (hi : 0 ≤ i ∧ i ≤ 255) : Pu P n t C ⟨some dd, .convert T U x, ty, pos, aft, none⟩ (v8 (UInt8.ofNat i.toNat)) := fun w hw => by
  have e : ((UInt8.ofNat i.toNat).toNat : Int) = i := by
    rw [UInt8.toNat_ofNat']; omega
  have hw8 : IntKind.wrap .u8 i = i := by simp [IntKind.wrap, IntKind.bits, IntKind.signed]; omega
  rw [show v8 (UInt8.ofNat i.toNat) = .int .u8 i by rw [show v8 (UInt8.ofNat i.toNat) = Value.int .u8 ((UInt8.ofNat i.toNat).toNat : Int) from rfl, e]]
  cases d' <;> simp [execOp, convert, run_underlying ht, run_underlying hu, hx, Conv.intToInt, hw8]
end
theorem int_flat (kd : IntKind) : (Kd.int kd).Flat := fun _ _ _ _ _ _ h => h
theorem bool_flat : Kd.bool.Flat := fun _ _ _ _ _ _ h => h
theorem str_flat : Kd.str.Flat := fun _ _ _ _ _ _ h => h
theorem pair_flat {α β : Type} {a : Kd α} {b : Kd β} (ha : a.Flat) (hb : b.Flat) : (Kd.pair a b).Flat := fun w S w' S' x cs ⟨c1, c2, e, h1, h2⟩ => ⟨c1, c2, e, ha _ _ _ _ _ _ h1, hb _ _ _ _ _ _ h2⟩
theorem iso_flat {α β : Type} {a : Kd α} (ha : a.Flat) (f : β → α) : (Kd.iso a f).Flat := fun w S w' S' x cs h => ha _ _ _ _ _ _ h
end
section
open Go.RowKit
def upf (f : Nat → Bool) (i : Nat) : Nat → Bool := fun j => bif Nat.beq j i then true else f j
theorem upf_self (f : Nat → Bool) (i : Nat) : upf f i i = true := by unfold upf; rw [Nat.beq_refl]; rfl
theorem upf_ne (f : Nat → Bool) {i j : Nat} (h : j ≠ i) : upf f i j = f j := by unfold upf; rw [beq_ne h]; rfl
def Rl (ops : Array Oper) (listed : Array Bool) (S : List Nat) (f : Nat → Bool) (ls : Array Bool) : Prop := ls.size = ops.size ∧ ∀ j, j < ops.size → ls.getD j true = (listed.getD j true || (S.contains j && f j))
section
variable {P : Program} {n : Nat} {N R : Ps} {X : Nat → Ps} {ops : Array Oper} {C : World → Prop} {listed : Array Bool} {m : Nat} {S fin : List Nat}
theorem Rl.set {f : Nat → Bool} {ls : Array Bool} (h : Rl ops listed S f ls) {i : Nat} (hi : i ∈ S) (hl : i < ops.size) : Rl ops listed S (upf f i) (ls.setIfInBounds i true) := by
  refine ⟨by rw [Array.size_setIfInBounds]; exact h.1, fun j hj => ?_⟩
  by_cases e : j = i
  · subst e
    have : S.contains j = true := List.contains_iff_mem.2 hi
    rw [this, upf_self]
    have hl' : j < ls.size := by rw [h.1]; exact hl
    simp [Array.getD, hl']
  · rw [getD_set_ne true (Ne.symm e), upf_ne f e]; exact h.2 j hj
end
end
section
open Go.RowKit
theorem nb {i j : Nat} (h : Nat.beq i j = false) : i ≠ j := fun e => by subst e; rw [Nat.beq_refl] at h; cases h
section
variable {α : Type} {k : Kd α} {e : TypeId} {w w' w0 : World} {v : Value} {xs : List α} {O L L' m rs : Ob} {r r' : Option Nat} {b : Nat} {cs : List Value}
theorem Ct.stn (c : Ct m w0 w L O) (g : Gr w w' none) : St w (L ++ O) w' (L ++ O) := .new _ g
theorem Ct.stown (c : Ct m w0 w L O) (r : Option Nat) (g : Gr w w' none) (hr : ∀ b, r = some b → w.heap.size ≤ b) : St w (L ++ O) w' (r :: L ++ O) := .own _ r g hr
theorem Ct.stw (c : Ct m w0 w L O) (j : Nat) (hj : L[j]? = some r) (g : Gr w w' r) : St w (L ++ O) w' (L ++ O) := .wl hj g
theorem Ct.std (c : Ct m w0 w L O) (j : Nat) (hj : Nat.blt j L.length = true) : St w (L ++ O) w (L.eraseIdx j ++ O) := .dr w hj
theorem Ct.stp (c : Ct m w0 w L O) (p : L.Perm L') : St w (L ++ O) w (L' ++ O) := .perm p
theorem Ct.stos (c : Ct m w0 w L O) (g : Gr w w' none) (hr : ∀ b, some b ∈ rs → w.heap.size ≤ b) : St w (L ++ O) w' (rs ++ (L ++ O)) := .owns _ g hr
theorem Ct.sw (c : Ct m w0 w L O) (h : Ow k e w (L ++ O) v xs) (i j : Nat) (hi : L[i]? = some (blk v)) (hj : L[j]? = some r) (hij : Nat.beq i j = false) (g : Gr w w' r) : Ow k e w' (L ++ O) v xs := h.sw c hi hj (nb hij) g
theorem Ct.sm (c : Ct m w0 w L O) (h : Ow k e w (L ++ O) v xs) (i j : Nat) (hi : L[i]? = some (blk v)) (hj : L[j]? = some r) (hij : Nat.beq i j = false) (g : Gr w w' r) (s : St w (L ++ O) w' (L.set j r' ++ O)) : Ow k e w' (L.set j r' ++ O) v xs := h.sm c hi hj (nb hij) g s
theorem Ct.sd (c : Ct m w0 w L O) (h : Ow k e w (L ++ O) v xs) (i j : Nat) (hi : L[i]? = some (blk v)) (hj : Nat.blt j L.length = true) (hij : Nat.beq i j = false) : Ow k e w (L.eraseIdx j ++ O) v xs := h.sd hi hj (nb hij)
theorem Ct.sp (c : Ct m w0 w L O) (h : Ow k e w (L ++ O) v xs) (p : L.Perm L') : Ow k e w (L' ++ O) v xs := Ow.sp h p
theorem Ct.bm (c : Ct m w0 w L O) (h : Bx w b cs) (i j : Nat) (hi : L[i]? = some (some b)) (hj : L[j]? = some r) (hij : Nat.beq i j = false) (g : Gr w w' r) : Bx w' b cs := h.sm c hi hj (nb hij) g
theorem Ct.gv (c : Ct m w0 w L O) (h : Ow k e w (L ++ O) v xs) (i : Nat) (hi : L[i]? = some (blk v)) : Sl k w (Fr (L.eraseIdx i ++ O)) v xs := Ow.gv h c hi
theorem Ct.bgv (c : Ct m w0 w L O) (h : Bx w b cs) (i : Nat) (hi : L[i]? = some (some b)) : Fb w (L.eraseIdx i ++ O) b cs := Bx.gv h c hi
theorem Ct.fne (c : Ct m w0 w L O) (i : Nat) (h : Fr (L ++ O) b) (hr : L[i]? = some r) : some b ≠ r := fr_ne h hr
end
end
section
open Go.RowKit
structure Pt where
  X : Int
  Y : Int
  deriving Inhabited, DecidableEq
def kPt : Kd Pt := Kd.iso (Kd.pair (Kd.int .i64) (Kd.int .i64)) (fun x => (x.X, x.Y))
theorem kPt_flat : kPt.Flat := iso_flat (pair_flat (int_flat _) (int_flat _)) _
theorem kPt.mk (w : World) (S : Sp) (x : Pt) : kPt.R w S x [vi x.X, vi x.Y] := ⟨[vi x.X], [vi x.Y], rfl, rfl, rfl⟩
theorem kPt.op {w : World} {S : Sp} {x : Pt} {cs : List Value} (h : kPt.R w S x cs) : cs = [vi x.X, vi x.Y] := by
  obtain ⟨_, _, rfl, rfl, rfl⟩ := h
  exact rfl
structure Shape where
  Kind : Int
  Pts : List Pt
  deriving Inhabited, DecidableEq
def kShape : Kd Shape := Kd.iso (Kd.pair (Kd.int .i64) (Kd.sl kPt)) (fun x => (x.Kind, x.Pts))
theorem kShape.mk (w : World) (S : Sp) (x : Shape) {A1 : Option Addr} {n1 c1 : Nat} (h1 : Sl kPt w S (.slice A1 n1 c1) x.Pts) : kShape.R w S x [vi x.Kind, .slice A1 n1 c1] := ⟨[vi x.Kind], [.slice A1 n1 c1], rfl, rfl, ⟨_, rfl, h1⟩⟩
theorem kShape.op {w : World} {S : Sp} {x : Shape} {cs : List Value} (h : kShape.R w S x cs) : ∃ A1 n1 c1, cs = [vi x.Kind, .slice A1 n1 c1] ∧ Sl kPt w S (.slice A1 n1 c1) x.Pts := by
  obtain ⟨_, _, rfl, rfl, ⟨_, rfl, h1⟩⟩ := h
  obtain ⟨A901, c901, rfl⟩ := h1.shape
  exact ⟨A901, _, c901, rfl, h1⟩
structure Tag where
  Key : Str
  Val : Str
  deriving Inhabited, DecidableEq
def kTag : Kd Tag := Kd.iso (Kd.pair Kd.str Kd.str) (fun x => (x.Key, x.Val))
theorem kTag_flat : kTag.Flat := iso_flat (pair_flat str_flat str_flat) _
theorem kTag.mk (w : World) (S : Sp) (x : Tag) (h0 : Lim x.Key) (h1 : Lim x.Val) : kTag.R w S x [vs x.Key, vs x.Val] := ⟨[vs x.Key], [vs x.Val], rfl, ⟨rfl, h0⟩, ⟨rfl, h1⟩⟩
theorem kTag.op {w : World} {S : Sp} {x : Tag} {cs : List Value} (h : kTag.R w S x cs) : cs = [vs x.Key, vs x.Val] ∧ Lim x.Key ∧ Lim x.Val := by
  obtain ⟨_, _, rfl, ⟨rfl, h1⟩, ⟨rfl, h2⟩⟩ := h
  exact ⟨rfl, h1, h2⟩
structure Feat where
  Id : Str
  Shape : Shape
  Tags : List Tag
  deriving Inhabited, DecidableEq
def kFeat : Kd Feat := Kd.iso (Kd.pair Kd.str (Kd.pair kShape (Kd.sl kTag))) (fun x => (x.Id, x.Shape, x.Tags))
theorem kFeat.mk (w : World) (S : Sp) (x : Feat) {A2 : Option Addr} {n2 c2 : Nat} {A3 : Option Addr} {n3 c3 : Nat} (h0 : Lim x.Id) (h2 : Sl kPt w S (.slice A2 n2 c2) x.Shape.Pts) (h3 : Sl kTag w S (.slice A3 n3 c3) x.Tags) : kFeat.R w S x [vs x.Id, vi x.Shape.Kind, .slice A2 n2 c2, .slice A3 n3 c3] := ⟨[vs x.Id], (([vi x.Shape.Kind] ++ [.slice A2 n2 c2]) ++ [.slice A3 n3 c3]), rfl, ⟨rfl, h0⟩, ⟨([vi x.Shape.Kind] ++ [.slice A2 n2 c2]), [.slice A3 n3 c3], rfl, ⟨[vi x.Shape.Kind], [.slice A2 n2 c2], rfl, rfl, ⟨_, rfl, h2⟩⟩, ⟨_, rfl, h3⟩⟩⟩
theorem kFeat.op {w : World} {S : Sp} {x : Feat} {cs : List Value} (h : kFeat.R w S x cs) : ∃ A2 n2 c2 A3 n3 c3, cs = [vs x.Id, vi x.Shape.Kind, .slice A2 n2 c2, .slice A3 n3 c3] ∧ Lim x.Id ∧ Sl kPt w S (.slice A2 n2 c2) x.Shape.Pts ∧ Sl kTag w S (.slice A3 n3 c3) x.Tags := by
  obtain ⟨_, _, rfl, ⟨rfl, h1⟩, ⟨_, _, rfl, ⟨_, _, rfl, rfl, ⟨_, rfl, h2⟩⟩, ⟨_, rfl, h3⟩⟩⟩ := h
  obtain ⟨A901, c901, rfl⟩ := h2.shape
  obtain ⟨A902, c902, rfl⟩ := h3.shape
  exact ⟨A901, _, c901, A902, _, c902, rfl, h1, h2, h3⟩
structure Change where
  Id : Str
  Had : Bool
  Was : Feat
  Has : Bool
  Now : Feat
  deriving Inhabited, DecidableEq
def kChange : Kd Change := Kd.iso (Kd.pair Kd.str (Kd.pair Kd.bool (Kd.pair kFeat (Kd.pair Kd.bool kFeat)))) (fun x => (x.Id, x.Had, x.Was, x.Has, x.Now))
theorem kChange.mk (w : World) (S : Sp) (x : Change) {A4 : Option Addr} {n4 c4 : Nat} {A5 : Option Addr} {n5 c5 : Nat} {A9 : Option Addr} {n9 c9 : Nat} {A10 : Option Addr} {n10 c10 : Nat} (h0 : Lim x.Id) (h2 : Lim x.Was.Id) (h4 : Sl kPt w S (.slice A4 n4 c4) x.Was.Shape.Pts) (h5 : Sl kTag w S (.slice A5 n5 c5) x.Was.Tags) (h7 : Lim x.Now.Id) (h9 : Sl kPt w S (.slice A9 n9 c9) x.Now.Shape.Pts) (h10 : Sl kTag w S (.slice A10 n10 c10) x.Now.Tags) : kChange.R w S x [vs x.Id, vb x.Had, vs x.Was.Id, vi x.Was.Shape.Kind, .slice A4 n4 c4, .slice A5 n5 c5, vb x.Has, vs x.Now.Id, vi x.Now.Shape.Kind, .slice A9 n9 c9, .slice A10 n10 c10] := ⟨[vs x.Id], ([vb x.Had] ++ (([vs x.Was.Id] ++ (([vi x.Was.Shape.Kind] ++ [.slice A4 n4 c4]) ++ [.slice A5 n5 c5])) ++ ([vb x.Has] ++ ([vs x.Now.Id] ++ (([vi x.Now.Shape.Kind] ++ [.slice A9 n9 c9]) ++ [.slice A10 n10 c10]))))), rfl, ⟨rfl, h0⟩, ⟨[vb x.Had], (([vs x.Was.Id] ++ (([vi x.Was.Shape.Kind] ++ [.slice A4 n4 c4]) ++ [.slice A5 n5 c5])) ++ ([vb x.Has] ++ ([vs x.Now.Id] ++ (([vi x.Now.Shape.Kind] ++ [.slice A9 n9 c9]) ++ [.slice A10 n10 c10])))), rfl, rfl, ⟨([vs x.Was.Id] ++ (([vi x.Was.Shape.Kind] ++ [.slice A4 n4 c4]) ++ [.slice A5 n5 c5])), ([vb x.Has] ++ ([vs x.Now.Id] ++ (([vi x.Now.Shape.Kind] ++ [.slice A9 n9 c9]) ++ [.slice A10 n10 c10]))), rfl, ⟨[vs x.Was.Id], (([vi x.Was.Shape.Kind] ++ [.slice A4 n4 c4]) ++ [.slice A5 n5 c5]), rfl, ⟨rfl, h2⟩, ⟨([vi x.Was.Shape.Kind] ++ [.slice A4 n4 c4]), [.slice A5 n5 c5], rfl, ⟨[vi x.Was.Shape.Kind], [.slice A4 n4 c4], rfl, rfl, ⟨_, rfl, h4⟩⟩, ⟨_, rfl, h5⟩⟩⟩, ⟨[vb x.Has], ([vs x.Now.Id] ++ (([vi x.Now.Shape.Kind] ++ [.slice A9 n9 c9]) ++ [.slice A10 n10 c10])), rfl, rfl, ⟨[vs x.Now.Id], (([vi x.Now.Shape.Kind] ++ [.slice A9 n9 c9]) ++ [.slice A10 n10 c10]), rfl, ⟨rfl, h7⟩, ⟨([vi x.Now.Shape.Kind] ++ [.slice A9 n9 c9]), [.slice A10 n10 c10], rfl, ⟨[vi x.Now.Shape.Kind], [.slice A9 n9 c9], rfl, rfl, ⟨_, rfl, h9⟩⟩, ⟨_, rfl, h10⟩⟩⟩⟩⟩⟩⟩
theorem kChange.op {w : World} {S : Sp} {x : Change} {cs : List Value} (h : kChange.R w S x cs) : ∃ A4 n4 c4 A5 n5 c5 A9 n9 c9 A10 n10 c10, cs = [vs x.Id, vb x.Had, vs x.Was.Id, vi x.Was.Shape.Kind, .slice A4 n4 c4, .slice A5 n5 c5, vb x.Has, vs x.Now.Id, vi x.Now.Shape.Kind, .slice A9 n9 c9, .slice A10 n10 c10] ∧ Lim x.Id ∧ Lim x.Was.Id ∧ Sl kPt w S (.slice A4 n4 c4) x.Was.Shape.Pts ∧ Sl kTag w S (.slice A5 n5 c5) x.Was.Tags ∧ Lim x.Now.Id ∧ Sl kPt w S (.slice A9 n9 c9) x.Now.Shape.Pts ∧ Sl kTag w S (.slice A10 n10 c10) x.Now.Tags := by
  obtain ⟨_, _, rfl, ⟨rfl, h1⟩, ⟨_, _, rfl, rfl, ⟨_, _, rfl, ⟨_, _, rfl, ⟨rfl, h2⟩, ⟨_, _, rfl, ⟨_, _, rfl, rfl, ⟨_, rfl, h3⟩⟩, ⟨_, rfl, h4⟩⟩⟩, ⟨_, _, rfl, rfl, ⟨_, _, rfl, ⟨rfl, h5⟩, ⟨_, _, rfl, ⟨_, _, rfl, rfl, ⟨_, rfl, h6⟩⟩, ⟨_, rfl, h7⟩⟩⟩⟩⟩⟩⟩ := h
  obtain ⟨A901, c901, rfl⟩ := h3.shape
  obtain ⟨A902, c902, rfl⟩ := h4.shape
  obtain ⟨A903, c903, rfl⟩ := h6.shape
  obtain ⟨A904, c904, rfl⟩ := h7.shape
  exact ⟨A901, _, c901, A902, _, c902, A903, _, c903, A904, _, c904, rfl, h1, h2, h3, h4, h5, h6, h7⟩
structure Pair where
  A : Int
  B : Int
  deriving Inhabited, DecidableEq
def kPair : Kd Pair := Kd.iso (Kd.pair (Kd.int .i64) (Kd.int .i64)) (fun x => (x.A, x.B))
theorem kPair.mk (w : World) (S : Sp) (x : Pair) : kPair.R w S x [vi x.A, vi x.B] := ⟨[vi x.A], [vi x.B], rfl, rfl, rfl⟩
theorem kPair.op {w : World} {S : Sp} {x : Pair} {cs : List Value} (h : kPair.R w S x cs) : cs = [vi x.A, vi x.B] := by
  obtain ⟨_, _, rfl, rfl, rfl⟩ := h
  exact rfl
structure Clash where
  Id : Str
  What : Str
  deriving Inhabited, DecidableEq
def kClash : Kd Clash := Kd.iso (Kd.pair Kd.str Kd.str) (fun x => (x.Id, x.What))
theorem kClash.mk (w : World) (S : Sp) (x : Clash) (h0 : Lim x.Id) (h1 : Lim x.What) : kClash.R w S x [vs x.Id, vs x.What] := ⟨[vs x.Id], [vs x.What], rfl, ⟨rfl, h0⟩, ⟨rfl, h1⟩⟩
theorem kClash.op {w : World} {S : Sp} {x : Clash} {cs : List Value} (h : kClash.R w S x cs) : cs = [vs x.Id, vs x.What] ∧ Lim x.Id ∧ Lim x.What := by
  obtain ⟨_, _, rfl, ⟨rfl, h1⟩, ⟨rfl, h2⟩⟩ := h
  exact ⟨rfl, h1, h2⟩
structure thing where
  has : Bool
  f : Feat
  deriving Inhabited, DecidableEq
def kthing : Kd thing := Kd.iso (Kd.pair Kd.bool kFeat) (fun x => (x.has, x.f))
theorem kthing.mk (w : World) (S : Sp) (x : thing) {A3 : Option Addr} {n3 c3 : Nat} {A4 : Option Addr} {n4 c4 : Nat} (h1 : Lim x.f.Id) (h3 : Sl kPt w S (.slice A3 n3 c3) x.f.Shape.Pts) (h4 : Sl kTag w S (.slice A4 n4 c4) x.f.Tags) : kthing.R w S x [vb x.has, vs x.f.Id, vi x.f.Shape.Kind, .slice A3 n3 c3, .slice A4 n4 c4] := ⟨[vb x.has], ([vs x.f.Id] ++ (([vi x.f.Shape.Kind] ++ [.slice A3 n3 c3]) ++ [.slice A4 n4 c4])), rfl, rfl, ⟨[vs x.f.Id], (([vi x.f.Shape.Kind] ++ [.slice A3 n3 c3]) ++ [.slice A4 n4 c4]), rfl, ⟨rfl, h1⟩, ⟨([vi x.f.Shape.Kind] ++ [.slice A3 n3 c3]), [.slice A4 n4 c4], rfl, ⟨[vi x.f.Shape.Kind], [.slice A3 n3 c3], rfl, rfl, ⟨_, rfl, h3⟩⟩, ⟨_, rfl, h4⟩⟩⟩⟩
theorem kthing.op {w : World} {S : Sp} {x : thing} {cs : List Value} (h : kthing.R w S x cs) : ∃ A3 n3 c3 A4 n4 c4, cs = [vb x.has, vs x.f.Id, vi x.f.Shape.Kind, .slice A3 n3 c3, .slice A4 n4 c4] ∧ Lim x.f.Id ∧ Sl kPt w S (.slice A3 n3 c3) x.f.Shape.Pts ∧ Sl kTag w S (.slice A4 n4 c4) x.f.Tags := by
  obtain ⟨_, _, rfl, rfl, ⟨_, _, rfl, ⟨rfl, h1⟩, ⟨_, _, rfl, ⟨_, _, rfl, rfl, ⟨_, rfl, h2⟩⟩, ⟨_, rfl, h3⟩⟩⟩⟩ := h
  obtain ⟨A901, c901, rfl⟩ := h2.shape
  obtain ⟨A902, c902, rfl⟩ := h3.shape
  exact ⟨A901, _, c901, A902, _, c902, rfl, h1, h2, h3⟩
structure value where
  has : Bool
  val : Str
  deriving Inhabited, DecidableEq
def kvalue : Kd value := Kd.iso (Kd.pair Kd.bool Kd.str) (fun x => (x.has, x.val))
theorem kvalue.mk (w : World) (S : Sp) (x : value) (h1 : Lim x.val) : kvalue.R w S x [vb x.has, vs x.val] := ⟨[vb x.has], [vs x.val], rfl, rfl, ⟨rfl, h1⟩⟩
theorem kvalue.op {w : World} {S : Sp} {x : value} {cs : List Value} (h : kvalue.R w S x cs) : cs = [vb x.has, vs x.val] ∧ Lim x.val := by
  obtain ⟨_, _, rfl, rfl, ⟨rfl, h1⟩⟩ := h
  exact ⟨rfl, h1⟩
theorem ag106 : IsAgg Tryz.prog 106 true := IsAgg_mk Tryz.underlying106
theorem ag114 : IsAgg Tryz.prog 114 true := IsAgg_mk Tryz.underlying114
theorem ag135 : IsAgg Tryz.prog 135 true := IsAgg_mk Tryz.underlying135
theorem ag165 : IsAgg Tryz.prog 165 true := IsAgg_mk Tryz.underlying165
theorem ag3 : IsAgg Tryz.prog 3 false := IsAgg_mk Tryz.underlying3
theorem ag4 : IsAgg Tryz.prog 4 false := IsAgg_mk Tryz.underlying4
theorem ag44 : IsAgg Tryz.prog 44 false := IsAgg_mk Tryz.underlying44
theorem ag46 : IsAgg Tryz.prog 46 true := IsAgg_mk Tryz.underlying46
theorem ag47 : IsAgg Tryz.prog 47 false := IsAgg_mk Tryz.underlying47
theorem ag49 : IsAgg Tryz.prog 49 true := IsAgg_mk Tryz.underlying49
theorem ag52 : IsAgg Tryz.prog 52 true := IsAgg_mk Tryz.underlying52
theorem ag56 : IsAgg Tryz.prog 56 false := IsAgg_mk Tryz.underlying56
theorem ag58 : IsAgg Tryz.prog 58 true := IsAgg_mk Tryz.underlying58
theorem ag59 : IsAgg Tryz.prog 59 false := IsAgg_mk Tryz.underlying59
theorem ag61 : IsAgg Tryz.prog 61 true := IsAgg_mk Tryz.underlying61
theorem ag63 : IsAgg Tryz.prog 63 true := IsAgg_mk Tryz.underlying63
theorem ag9 : IsAgg Tryz.prog 9 false := IsAgg_mk Tryz.underlying9
def dShape_58 : Dd kShape := Dd.iso (Dd.pair (Dd.flat (k := (Kd.int .i64)) (int_flat _)) (Dd.sl (Dd.flat kPt_flat) 114)) (fun x : Shape => (x.Kind, x.Pts))
theorem dShape_58.mk (w : World) (x : Shape) {A1 : Option Addr} {n1 c1 : Nat} {r1 : Ob} (h1 : Ds (Dd.flat kPt_flat) 114 w r1 (.slice A1 n1 c1) x.Pts) : dShape_58.D w ([] ++ r1) x [vi x.Kind, .slice A1 n1 c1] := ⟨_, _, [vi x.Kind], [.slice A1 n1 c1], rfl, rfl, ⟨rfl, rfl⟩, ⟨_, rfl, h1⟩⟩
def dFeat_61 : Dd kFeat := Dd.iso (Dd.pair (Dd.flat (k := Kd.str) str_flat) (Dd.pair dShape_58 (Dd.sl (Dd.flat kTag_flat) 106))) (fun x : Feat => (x.Id, x.Shape, x.Tags))
theorem dFeat_61.mk (w : World) (x : Feat) {A2 : Option Addr} {n2 c2 : Nat} {A3 : Option Addr} {n3 c3 : Nat} {r2 : Ob} {r3 : Ob} (h0 : Lim x.Id) (h2 : Ds (Dd.flat kPt_flat) 114 w r2 (.slice A2 n2 c2) x.Shape.Pts) (h3 : Ds (Dd.flat kTag_flat) 106 w r3 (.slice A3 n3 c3) x.Tags) : dFeat_61.D w ([] ++ (([] ++ r2) ++ r3)) x [vs x.Id, vi x.Shape.Kind, .slice A2 n2 c2, .slice A3 n3 c3] := ⟨_, _, [vs x.Id], (([vi x.Shape.Kind] ++ [.slice A2 n2 c2]) ++ [.slice A3 n3 c3]), rfl, rfl, ⟨rfl, rfl, h0⟩, ⟨_, _, ([vi x.Shape.Kind] ++ [.slice A2 n2 c2]), [.slice A3 n3 c3], rfl, rfl, ⟨_, _, [vi x.Shape.Kind], [.slice A2 n2 c2], rfl, rfl, ⟨rfl, rfl⟩, ⟨_, rfl, h2⟩⟩, ⟨_, rfl, h3⟩⟩⟩
def dChange_63 : Dd kChange := Dd.iso (Dd.pair (Dd.flat (k := Kd.str) str_flat) (Dd.pair (Dd.flat (k := Kd.bool) bool_flat) (Dd.pair dFeat_61 (Dd.pair (Dd.flat (k := Kd.bool) bool_flat) dFeat_61)))) (fun x : Change => (x.Id, x.Had, x.Was, x.Has, x.Now))
theorem dChange_63.mk (w : World) (x : Change) {A4 : Option Addr} {n4 c4 : Nat} {A5 : Option Addr} {n5 c5 : Nat} {A9 : Option Addr} {n9 c9 : Nat} {A10 : Option Addr} {n10 c10 : Nat} {r4 : Ob} {r5 : Ob} {r9 : Ob} {r10 : Ob} (h0 : Lim x.Id) (h2 : Lim x.Was.Id) (h4 : Ds (Dd.flat kPt_flat) 114 w r4 (.slice A4 n4 c4) x.Was.Shape.Pts) (h5 : Ds (Dd.flat kTag_flat) 106 w r5 (.slice A5 n5 c5) x.Was.Tags) (h7 : Lim x.Now.Id) (h9 : Ds (Dd.flat kPt_flat) 114 w r9 (.slice A9 n9 c9) x.Now.Shape.Pts) (h10 : Ds (Dd.flat kTag_flat) 106 w r10 (.slice A10 n10 c10) x.Now.Tags) : dChange_63.D w ([] ++ ([] ++ (([] ++ (([] ++ r4) ++ r5)) ++ ([] ++ ([] ++ (([] ++ r9) ++ r10)))))) x [vs x.Id, vb x.Had, vs x.Was.Id, vi x.Was.Shape.Kind, .slice A4 n4 c4, .slice A5 n5 c5, vb x.Has, vs x.Now.Id, vi x.Now.Shape.Kind, .slice A9 n9 c9, .slice A10 n10 c10] := ⟨_, _, [vs x.Id], ([vb x.Had] ++ (([vs x.Was.Id] ++ (([vi x.Was.Shape.Kind] ++ [.slice A4 n4 c4]) ++ [.slice A5 n5 c5])) ++ ([vb x.Has] ++ ([vs x.Now.Id] ++ (([vi x.Now.Shape.Kind] ++ [.slice A9 n9 c9]) ++ [.slice A10 n10 c10]))))), rfl, rfl, ⟨rfl, rfl, h0⟩, ⟨_, _, [vb x.Had], (([vs x.Was.Id] ++ (([vi x.Was.Shape.Kind] ++ [.slice A4 n4 c4]) ++ [.slice A5 n5 c5])) ++ ([vb x.Has] ++ ([vs x.Now.Id] ++ (([vi x.Now.Shape.Kind] ++ [.slice A9 n9 c9]) ++ [.slice A10 n10 c10])))), rfl, rfl, ⟨rfl, rfl⟩, ⟨_, _, ([vs x.Was.Id] ++ (([vi x.Was.Shape.Kind] ++ [.slice A4 n4 c4]) ++ [.slice A5 n5 c5])), ([vb x.Has] ++ ([vs x.Now.Id] ++ (([vi x.Now.Shape.Kind] ++ [.slice A9 n9 c9]) ++ [.slice A10 n10 c10]))), rfl, rfl, ⟨_, _, [vs x.Was.Id], (([vi x.Was.Shape.Kind] ++ [.slice A4 n4 c4]) ++ [.slice A5 n5 c5]), rfl, rfl, ⟨rfl, rfl, h2⟩, ⟨_, _, ([vi x.Was.Shape.Kind] ++ [.slice A4 n4 c4]), [.slice A5 n5 c5], rfl, rfl, ⟨_, _, [vi x.Was.Shape.Kind], [.slice A4 n4 c4], rfl, rfl, ⟨rfl, rfl⟩, ⟨_, rfl, h4⟩⟩, ⟨_, rfl, h5⟩⟩⟩, ⟨_, _, [vb x.Has], ([vs x.Now.Id] ++ (([vi x.Now.Shape.Kind] ++ [.slice A9 n9 c9]) ++ [.slice A10 n10 c10])), rfl, rfl, ⟨rfl, rfl⟩, ⟨_, _, [vs x.Now.Id], (([vi x.Now.Shape.Kind] ++ [.slice A9 n9 c9]) ++ [.slice A10 n10 c10]), rfl, rfl, ⟨rfl, rfl, h7⟩, ⟨_, _, ([vi x.Now.Shape.Kind] ++ [.slice A9 n9 c9]), [.slice A10 n10 c10], rfl, rfl, ⟨_, _, [vi x.Now.Shape.Kind], [.slice A9 n9 c9], rfl, rfl, ⟨rfl, rfl⟩, ⟨_, rfl, h9⟩⟩, ⟨_, rfl, h10⟩⟩⟩⟩⟩⟩⟩
theorem ei112 : EI Tryz.prog 112 5 1 1 [.int .u8 0] := EI_mk (z := .int .u8 0) Tryz.underlying112 (by kernel_rfl) rfl rfl (by decide) (by decide)
theorem ei26 : EI Tryz.prog 26 61 4 72 [vs [], .int .i64 0, .slice none 0 0, .slice none 0 0] := EI_mk (z := .agg #[vs [], .int .i64 0, .slice none 0 0, .slice none 0 0]) Tryz.underlying26 (by kernel_rfl) rfl rfl (by decide) (by decide)
theorem ei30 : EI Tryz.prog 30 63 11 176 [vs [], vb false, vs [], .int .i64 0, .slice none 0 0, .slice none 0 0, vb false, vs [], .int .i64 0, .slice none 0 0, .slice none 0 0] := EI_mk (z := .agg #[vs [], vb false, vs [], .int .i64 0, .slice none 0 0, .slice none 0 0, vb false, vs [], .int .i64 0, .slice none 0 0, .slice none 0 0]) Tryz.underlying30 (by kernel_rfl) rfl rfl (by decide) (by decide)
theorem ei56 : EI Tryz.prog 56 114 2 16 [.int .i64 0, .int .i64 0] := EI_mk (z := .agg #[.int .i64 0, .int .i64 0]) Tryz.underlying56 (by kernel_rfl) rfl rfl (by decide) (by decide)
theorem ei59 : EI Tryz.prog 59 106 2 32 [vs [], vs []] := EI_mk (z := .agg #[vs [], vs []]) Tryz.underlying59 (by kernel_rfl) rfl rfl (by decide) (by decide)
theorem se22 : SizeOf Tryz.prog 49 4 := SizeOf_mk (by kernel_rfl)
theorem se23 : SizeOf Tryz.prog 52 11 := SizeOf_mk (by kernel_rfl)
theorem se26 : SizeOf Tryz.prog 61 4 := SizeOf_mk (by kernel_rfl)
theorem se30 : SizeOf Tryz.prog 63 11 := SizeOf_mk (by kernel_rfl)
theorem se44 : SizeOf Tryz.prog 165 2 := SizeOf_mk (by kernel_rfl)
theorem se47 : SizeOf Tryz.prog 135 2 := SizeOf_mk (by kernel_rfl)
theorem se56 : SizeOf Tryz.prog 114 2 := SizeOf_mk (by kernel_rfl)
theorem se59 : SizeOf Tryz.prog 106 2 := SizeOf_mk (by kernel_rfl)
def eqTag (a b : Tag) : Bool := (a.Key == b.Key) && (a.Val == b.Val)
theorem eqTag_is (x y : Tag) : eqTag x y = decide (x = y) := by
  obtain ⟨a, b⟩ := x; obtain ⟨c, d⟩ := y
  simp only [eqTag, Tag.mk.injEq, Bool.decide_and]
  by_cases h1 : a = c <;> by_cases h2 : b = d <;> simp [h1, h2]
theorem qt106 (a b : Tag) : EqT Tryz.prog 106 [vs a.Key, vs a.Val] [vs b.Key, vs b.Val] (eqTag a b) := EqT_mk2 Tryz.underlying106 (by kernel_rfl) (by kernel_rfl) (by decide) (cmp1_str Tryz.underlying9 _ _) (cmp1_str Tryz.underlying9 _ _)
def eqPt (a b : Pt) : Bool := (a.X == b.X) && (a.Y == b.Y)
theorem eqPt_is (x y : Pt) : eqPt x y = decide (x = y) := by
  obtain ⟨a, b⟩ := x; obtain ⟨c, d⟩ := y
  simp only [eqPt, Pt.mk.injEq, Bool.decide_and]
  by_cases h1 : a = c <;> by_cases h2 : b = d <;> simp [h1, h2]
theorem qt114 (a b : Pt) : EqT Tryz.prog 114 [vi a.X, vi a.Y] [vi b.X, vi b.Y] (eqPt a b) := EqT_mk2 Tryz.underlying114 (by kernel_rfl) (by kernel_rfl) (by decide) (cmp1_int Tryz.underlying3 _ _) (cmp1_int Tryz.underlying3 _ _)
theorem fa106_0 : FA Tryz.prog 106 0 0 := FA_mk 1 0 Tryz.underlying106 rfl (by kernel_rfl) (by decide) rfl
theorem fa106_1 : FA Tryz.prog 106 1 1 := FA_mk 1 1 Tryz.underlying106 rfl (by kernel_rfl) (by decide) rfl
theorem fa114_0 : FA Tryz.prog 114 0 0 := FA_mk 1 0 Tryz.underlying114 rfl (by kernel_rfl) (by decide) rfl
theorem fa114_1 : FA Tryz.prog 114 1 1 := FA_mk 1 1 Tryz.underlying114 rfl (by kernel_rfl) (by decide) rfl
theorem fa135_0 : FA Tryz.prog 135 0 0 := FA_mk 1 0 Tryz.underlying135 rfl (by kernel_rfl) (by decide) rfl
theorem fa135_1 : FA Tryz.prog 135 1 1 := FA_mk 1 1 Tryz.underlying135 rfl (by kernel_rfl) (by decide) rfl
theorem fa165_0 : FA Tryz.prog 165 0 0 := FA_mk 1 0 Tryz.underlying165 rfl (by kernel_rfl) (by decide) rfl
theorem fa165_1 : FA Tryz.prog 165 1 1 := FA_mk 1 1 Tryz.underlying165 rfl (by kernel_rfl) (by decide) rfl
theorem fa46_0 : FA Tryz.prog 46 0 0 := FA_mk 1 0 Tryz.underlying46 rfl (by kernel_rfl) (by decide) rfl
theorem fa46_1 : FA Tryz.prog 46 1 1 := FA_mk 1 1 Tryz.underlying46 rfl (by kernel_rfl) (by decide) rfl
theorem fa49_0 : FA Tryz.prog 49 0 0 := FA_mk 1 0 Tryz.underlying49 rfl (by kernel_rfl) (by decide) rfl
theorem fa49_1 : FA Tryz.prog 49 1 1 := FA_mk 2 1 Tryz.underlying49 rfl (by kernel_rfl) (by decide) rfl
theorem fa49_2 : FA Tryz.prog 49 2 3 := FA_mk 1 3 Tryz.underlying49 rfl (by kernel_rfl) (by decide) rfl
theorem fa52_0 : FA Tryz.prog 52 0 0 := FA_mk 1 0 Tryz.underlying52 rfl (by kernel_rfl) (by decide) rfl
theorem fa52_1 : FA Tryz.prog 52 1 1 := FA_mk 1 1 Tryz.underlying52 rfl (by kernel_rfl) (by decide) rfl
theorem fa52_2 : FA Tryz.prog 52 2 2 := FA_mk 4 2 Tryz.underlying52 rfl (by kernel_rfl) (by decide) rfl
theorem fa52_3 : FA Tryz.prog 52 3 6 := FA_mk 1 6 Tryz.underlying52 rfl (by kernel_rfl) (by decide) rfl
theorem fa52_4 : FA Tryz.prog 52 4 7 := FA_mk 4 7 Tryz.underlying52 rfl (by kernel_rfl) (by decide) rfl
theorem fa58_0 : FA Tryz.prog 58 0 0 := FA_mk 1 0 Tryz.underlying58 rfl (by kernel_rfl) (by decide) rfl
theorem fa58_1 : FA Tryz.prog 58 1 1 := FA_mk 1 1 Tryz.underlying58 rfl (by kernel_rfl) (by decide) rfl
theorem fa61_0 : FA Tryz.prog 61 0 0 := FA_mk 1 0 Tryz.underlying61 rfl (by kernel_rfl) (by decide) rfl
theorem fa61_1 : FA Tryz.prog 61 1 1 := FA_mk 2 1 Tryz.underlying61 rfl (by kernel_rfl) (by decide) rfl
theorem fa61_2 : FA Tryz.prog 61 2 3 := FA_mk 1 3 Tryz.underlying61 rfl (by kernel_rfl) (by decide) rfl
theorem fa63_0 : FA Tryz.prog 63 0 0 := FA_mk 1 0 Tryz.underlying63 rfl (by kernel_rfl) (by decide) rfl
theorem fa63_1 : FA Tryz.prog 63 1 1 := FA_mk 1 1 Tryz.underlying63 rfl (by kernel_rfl) (by decide) rfl
theorem fa63_2 : FA Tryz.prog 63 2 2 := FA_mk 4 2 Tryz.underlying63 rfl (by kernel_rfl) (by decide) rfl
theorem fa63_3 : FA Tryz.prog 63 3 6 := FA_mk 1 6 Tryz.underlying63 rfl (by kernel_rfl) (by decide) rfl
theorem fa63_4 : FA Tryz.prog 63 4 7 := FA_mk 4 7 Tryz.underlying63 rfl (by kernel_rfl) (by decide) rfl
theorem foc61_0 : Foc dFeat_61 (Dd.flat (k := Kd.str) str_flat) 0 (fun x => x.Id) (fun x y => (⟨y, x.Shape, x.Tags⟩ : Feat)) := (Foc.iso (fun (a : Str × Shape × (List Tag)) => (⟨a.1, a.2.1, a.2.2⟩ : Feat)) (fun _ => rfl) Foc.left)
theorem foc61_1 : Foc dFeat_61 (Dd.flat (k := (Kd.int .i64)) (int_flat _)) 1 (fun x => x.Shape.Kind) (fun x y => (⟨x.Id, (⟨y, x.Shape.Pts⟩ : Shape), x.Tags⟩ : Feat)) := (Foc.iso (fun (a : Str × Shape × (List Tag)) => (⟨a.1, a.2.1, a.2.2⟩ : Feat)) (fun _ => rfl) (Foc.trans Foc.right (Foc.trans Foc.left (Foc.iso (fun (a : Int × (List Pt)) => (⟨a.1, a.2⟩ : Shape)) (fun _ => rfl) Foc.left))))
theorem foc61_2 : Foc dFeat_61 (Dd.sl (Dd.flat kPt_flat) 114) 2 (fun x => x.Shape.Pts) (fun x y => (⟨x.Id, (⟨x.Shape.Kind, y⟩ : Shape), x.Tags⟩ : Feat)) := (Foc.iso (fun (a : Str × Shape × (List Tag)) => (⟨a.1, a.2.1, a.2.2⟩ : Feat)) (fun _ => rfl) (Foc.trans Foc.right (Foc.trans Foc.left (Foc.iso (fun (a : Int × (List Pt)) => (⟨a.1, a.2⟩ : Shape)) (fun _ => rfl) Foc.right))))
theorem foc61_3 : Foc dFeat_61 (Dd.sl (Dd.flat kTag_flat) 106) 3 (fun x => x.Tags) (fun x y => (⟨x.Id, x.Shape, y⟩ : Feat)) := (Foc.iso (fun (a : Str × Shape × (List Tag)) => (⟨a.1, a.2.1, a.2.2⟩ : Feat)) (fun _ => rfl) (Foc.trans Foc.right Foc.right))
theorem foc63_0 : Foc dChange_63 (Dd.flat (k := Kd.str) str_flat) 0 (fun x => x.Id) (fun x y => (⟨y, x.Had, x.Was, x.Has, x.Now⟩ : Change)) := (Foc.iso (fun (a : Str × Bool × Feat × Bool × Feat) => (⟨a.1, a.2.1, a.2.2.1, a.2.2.2.1, a.2.2.2.2⟩ : Change)) (fun _ => rfl) Foc.left)
theorem foc63_1 : Foc dChange_63 (Dd.flat (k := Kd.bool) bool_flat) 1 (fun x => x.Had) (fun x y => (⟨x.Id, y, x.Was, x.Has, x.Now⟩ : Change)) := (Foc.iso (fun (a : Str × Bool × Feat × Bool × Feat) => (⟨a.1, a.2.1, a.2.2.1, a.2.2.2.1, a.2.2.2.2⟩ : Change)) (fun _ => rfl) (Foc.trans Foc.right Foc.left))
theorem foc63_10 : Foc dChange_63 (Dd.sl (Dd.flat kTag_flat) 106) 10 (fun x => x.Now.Tags) (fun x y => (⟨x.Id, x.Had, x.Was, x.Has, (⟨x.Now.Id, x.Now.Shape, y⟩ : Feat)⟩ : Change)) := (Foc.iso (fun (a : Str × Bool × Feat × Bool × Feat) => (⟨a.1, a.2.1, a.2.2.1, a.2.2.2.1, a.2.2.2.2⟩ : Change)) (fun _ => rfl) (Foc.trans Foc.right (Foc.trans Foc.right (Foc.trans Foc.right (Foc.trans Foc.right (Foc.iso (fun (a : Str × Shape × (List Tag)) => (⟨a.1, a.2.1, a.2.2⟩ : Feat)) (fun _ => rfl) (Foc.trans Foc.right Foc.right)))))))
theorem foc63_2 : Foc dChange_63 (Dd.flat (k := Kd.str) str_flat) 2 (fun x => x.Was.Id) (fun x y => (⟨x.Id, x.Had, (⟨y, x.Was.Shape, x.Was.Tags⟩ : Feat), x.Has, x.Now⟩ : Change)) := (Foc.iso (fun (a : Str × Bool × Feat × Bool × Feat) => (⟨a.1, a.2.1, a.2.2.1, a.2.2.2.1, a.2.2.2.2⟩ : Change)) (fun _ => rfl) (Foc.trans Foc.right (Foc.trans Foc.right (Foc.trans Foc.left (Foc.iso (fun (a : Str × Shape × (List Tag)) => (⟨a.1, a.2.1, a.2.2⟩ : Feat)) (fun _ => rfl) Foc.left)))))
theorem foc63_3 : Foc dChange_63 (Dd.flat (k := (Kd.int .i64)) (int_flat _)) 3 (fun x => x.Was.Shape.Kind) (fun x y => (⟨x.Id, x.Had, (⟨x.Was.Id, (⟨y, x.Was.Shape.Pts⟩ : Shape), x.Was.Tags⟩ : Feat), x.Has, x.Now⟩ : Change)) := (Foc.iso (fun (a : Str × Bool × Feat × Bool × Feat) => (⟨a.1, a.2.1, a.2.2.1, a.2.2.2.1, a.2.2.2.2⟩ : Change)) (fun _ => rfl) (Foc.trans Foc.right (Foc.trans Foc.right (Foc.trans Foc.left (Foc.iso (fun (a : Str × Shape × (List Tag)) => (⟨a.1, a.2.1, a.2.2⟩ : Feat)) (fun _ => rfl) (Foc.trans Foc.right (Foc.trans Foc.left (Foc.iso (fun (a : Int × (List Pt)) => (⟨a.1, a.2⟩ : Shape)) (fun _ => rfl) Foc.left))))))))
theorem foc63_4 : Foc dChange_63 (Dd.sl (Dd.flat kPt_flat) 114) 4 (fun x => x.Was.Shape.Pts) (fun x y => (⟨x.Id, x.Had, (⟨x.Was.Id, (⟨x.Was.Shape.Kind, y⟩ : Shape), x.Was.Tags⟩ : Feat), x.Has, x.Now⟩ : Change)) := (Foc.iso (fun (a : Str × Bool × Feat × Bool × Feat) => (⟨a.1, a.2.1, a.2.2.1, a.2.2.2.1, a.2.2.2.2⟩ : Change)) (fun _ => rfl) (Foc.trans Foc.right (Foc.trans Foc.right (Foc.trans Foc.left (Foc.iso (fun (a : Str × Shape × (List Tag)) => (⟨a.1, a.2.1, a.2.2⟩ : Feat)) (fun _ => rfl) (Foc.trans Foc.right (Foc.trans Foc.left (Foc.iso (fun (a : Int × (List Pt)) => (⟨a.1, a.2⟩ : Shape)) (fun _ => rfl) Foc.right))))))))
theorem foc63_5 : Foc dChange_63 (Dd.sl (Dd.flat kTag_flat) 106) 5 (fun x => x.Was.Tags) (fun x y => (⟨x.Id, x.Had, (⟨x.Was.Id, x.Was.Shape, y⟩ : Feat), x.Has, x.Now⟩ : Change)) := (Foc.iso (fun (a : Str × Bool × Feat × Bool × Feat) => (⟨a.1, a.2.1, a.2.2.1, a.2.2.2.1, a.2.2.2.2⟩ : Change)) (fun _ => rfl) (Foc.trans Foc.right (Foc.trans Foc.right (Foc.trans Foc.left (Foc.iso (fun (a : Str × Shape × (List Tag)) => (⟨a.1, a.2.1, a.2.2⟩ : Feat)) (fun _ => rfl) (Foc.trans Foc.right Foc.right))))))
theorem foc63_6 : Foc dChange_63 (Dd.flat (k := Kd.bool) bool_flat) 6 (fun x => x.Has) (fun x y => (⟨x.Id, x.Had, x.Was, y, x.Now⟩ : Change)) := (Foc.iso (fun (a : Str × Bool × Feat × Bool × Feat) => (⟨a.1, a.2.1, a.2.2.1, a.2.2.2.1, a.2.2.2.2⟩ : Change)) (fun _ => rfl) (Foc.trans Foc.right (Foc.trans Foc.right (Foc.trans Foc.right Foc.left))))
theorem foc63_7 : Foc dChange_63 (Dd.flat (k := Kd.str) str_flat) 7 (fun x => x.Now.Id) (fun x y => (⟨x.Id, x.Had, x.Was, x.Has, (⟨y, x.Now.Shape, x.Now.Tags⟩ : Feat)⟩ : Change)) := (Foc.iso (fun (a : Str × Bool × Feat × Bool × Feat) => (⟨a.1, a.2.1, a.2.2.1, a.2.2.2.1, a.2.2.2.2⟩ : Change)) (fun _ => rfl) (Foc.trans Foc.right (Foc.trans Foc.right (Foc.trans Foc.right (Foc.trans Foc.right (Foc.iso (fun (a : Str × Shape × (List Tag)) => (⟨a.1, a.2.1, a.2.2⟩ : Feat)) (fun _ => rfl) Foc.left))))))
theorem foc63_8 : Foc dChange_63 (Dd.flat (k := (Kd.int .i64)) (int_flat _)) 8 (fun x => x.Now.Shape.Kind) (fun x y => (⟨x.Id, x.Had, x.Was, x.Has, (⟨x.Now.Id, (⟨y, x.Now.Shape.Pts⟩ : Shape), x.Now.Tags⟩ : Feat)⟩ : Change)) := (Foc.iso (fun (a : Str × Bool × Feat × Bool × Feat) => (⟨a.1, a.2.1, a.2.2.1, a.2.2.2.1, a.2.2.2.2⟩ : Change)) (fun _ => rfl) (Foc.trans Foc.right (Foc.trans Foc.right (Foc.trans Foc.right (Foc.trans Foc.right (Foc.iso (fun (a : Str × Shape × (List Tag)) => (⟨a.1, a.2.1, a.2.2⟩ : Feat)) (fun _ => rfl) (Foc.trans Foc.right (Foc.trans Foc.left (Foc.iso (fun (a : Int × (List Pt)) => (⟨a.1, a.2⟩ : Shape)) (fun _ => rfl) Foc.left)))))))))
theorem foc63_9 : Foc dChange_63 (Dd.sl (Dd.flat kPt_flat) 114) 9 (fun x => x.Now.Shape.Pts) (fun x y => (⟨x.Id, x.Had, x.Was, x.Has, (⟨x.Now.Id, (⟨x.Now.Shape.Kind, y⟩ : Shape), x.Now.Tags⟩ : Feat)⟩ : Change)) := (Foc.iso (fun (a : Str × Bool × Feat × Bool × Feat) => (⟨a.1, a.2.1, a.2.2.1, a.2.2.2.1, a.2.2.2.2⟩ : Change)) (fun _ => rfl) (Foc.trans Foc.right (Foc.trans Foc.right (Foc.trans Foc.right (Foc.trans Foc.right (Foc.iso (fun (a : Str × Shape × (List Tag)) => (⟨a.1, a.2.1, a.2.2⟩ : Feat)) (fun _ => rfl) (Foc.trans Foc.right (Foc.trans Foc.left (Foc.iso (fun (a : Int × (List Pt)) => (⟨a.1, a.2⟩ : Shape)) (fun _ => rfl) Foc.right)))))))))
theorem go10 : Goes Tryz.prog 10 := ⟨_, Tryz.func10, by kernel_rfl, rfl⟩
theorem go100 : Goes Tryz.prog 100 := ⟨_, Tryz.func100, by kernel_rfl, rfl⟩
theorem go101 : Goes Tryz.prog 101 := ⟨_, Tryz.func101, by kernel_rfl, rfl⟩
theorem go11 : Goes Tryz.prog 11 := ⟨_, Tryz.func11, by kernel_rfl, rfl⟩
theorem go112 : Goes Tryz.prog 112 := ⟨_, Tryz.func112, by kernel_rfl, rfl⟩
theorem go113 : Goes Tryz.prog 113 := ⟨_, Tryz.func113, by kernel_rfl, rfl⟩
theorem go119 : Goes Tryz.prog 119 := ⟨_, Tryz.func119, by kernel_rfl, rfl⟩
theorem go12 : Goes Tryz.prog 12 := ⟨_, Tryz.func12, by kernel_rfl, rfl⟩
theorem go122 : Goes Tryz.prog 122 := ⟨_, Tryz.func122, by kernel_rfl, rfl⟩
theorem go123 : Goes Tryz.prog 123 := ⟨_, Tryz.func123, by kernel_rfl, rfl⟩
theorem go124 : Goes Tryz.prog 124 := ⟨_, Tryz.func124, by kernel_rfl, rfl⟩
theorem go13 : Goes Tryz.prog 13 := ⟨_, Tryz.func13, by kernel_rfl, rfl⟩
theorem go130 : Goes Tryz.prog 130 := ⟨_, Tryz.func130, by kernel_rfl, rfl⟩
theorem go14 : Goes Tryz.prog 14 := ⟨_, Tryz.func14, by kernel_rfl, rfl⟩
theorem go146 : Goes Tryz.prog 146 := ⟨_, Tryz.func146, by kernel_rfl, rfl⟩
theorem go15 : Goes Tryz.prog 15 := ⟨_, Tryz.func15, by kernel_rfl, rfl⟩
theorem go21 : Goes Tryz.prog 21 := ⟨_, Tryz.func21, by kernel_rfl, rfl⟩
theorem go22 : Goes Tryz.prog 22 := ⟨_, Tryz.func22, by kernel_rfl, rfl⟩
theorem go23 : Goes Tryz.prog 23 := ⟨_, Tryz.func23, by kernel_rfl, rfl⟩
theorem go24 : Goes Tryz.prog 24 := ⟨_, Tryz.func24, by kernel_rfl, rfl⟩
theorem go25 : Goes Tryz.prog 25 := ⟨_, Tryz.func25, by kernel_rfl, rfl⟩
theorem go26 : Goes Tryz.prog 26 := ⟨_, Tryz.func26, by kernel_rfl, rfl⟩
theorem go27 : Goes Tryz.prog 27 := ⟨_, Tryz.func27, by kernel_rfl, rfl⟩
theorem go28 : Goes Tryz.prog 28 := ⟨_, Tryz.func28, by kernel_rfl, rfl⟩
theorem go29 : Goes Tryz.prog 29 := ⟨_, Tryz.func29, by kernel_rfl, rfl⟩
theorem go30 : Goes Tryz.prog 30 := ⟨_, Tryz.func30, by kernel_rfl, rfl⟩
theorem go31 : Goes Tryz.prog 31 := ⟨_, Tryz.func31, by kernel_rfl, rfl⟩
theorem go32 : Goes Tryz.prog 32 := ⟨_, Tryz.func32, by kernel_rfl, rfl⟩
theorem go33 : Goes Tryz.prog 33 := ⟨_, Tryz.func33, by kernel_rfl, rfl⟩
theorem go34 : Goes Tryz.prog 34 := ⟨_, Tryz.func34, by kernel_rfl, rfl⟩
theorem go35 : Goes Tryz.prog 35 := ⟨_, Tryz.func35, by kernel_rfl, rfl⟩
theorem go36 : Goes Tryz.prog 36 := ⟨_, Tryz.func36, by kernel_rfl, rfl⟩
theorem go37 : Goes Tryz.prog 37 := ⟨_, Tryz.func37, by kernel_rfl, rfl⟩
theorem go38 : Goes Tryz.prog 38 := ⟨_, Tryz.func38, by kernel_rfl, rfl⟩
theorem go39 : Goes Tryz.prog 39 := ⟨_, Tryz.func39, by kernel_rfl, rfl⟩
theorem go40 : Goes Tryz.prog 40 := ⟨_, Tryz.func40, by kernel_rfl, rfl⟩
theorem go41 : Goes Tryz.prog 41 := ⟨_, Tryz.func41, by kernel_rfl, rfl⟩
theorem go42 : Goes Tryz.prog 42 := ⟨_, Tryz.func42, by kernel_rfl, rfl⟩
theorem go43 : Goes Tryz.prog 43 := ⟨_, Tryz.func43, by kernel_rfl, rfl⟩
theorem go44 : Goes Tryz.prog 44 := ⟨_, Tryz.func44, by kernel_rfl, rfl⟩
theorem go45 : Goes Tryz.prog 45 := ⟨_, Tryz.func45, by kernel_rfl, rfl⟩
theorem go46 : Goes Tryz.prog 46 := ⟨_, Tryz.func46, by kernel_rfl, rfl⟩
theorem go47 : Goes Tryz.prog 47 := ⟨_, Tryz.func47, by kernel_rfl, rfl⟩
theorem go5 : Goes Tryz.prog 5 := ⟨_, Tryz.func5, by kernel_rfl, rfl⟩
theorem go55 : Goes Tryz.prog 55 := ⟨_, Tryz.func55, by kernel_rfl, rfl⟩
theorem go56 : Goes Tryz.prog 56 := ⟨_, Tryz.func56, by kernel_rfl, rfl⟩
theorem go57 : Goes Tryz.prog 57 := ⟨_, Tryz.func57, by kernel_rfl, rfl⟩
theorem go58 : Goes Tryz.prog 58 := ⟨_, Tryz.func58, by kernel_rfl, rfl⟩
theorem go59 : Goes Tryz.prog 59 := ⟨_, Tryz.func59, by kernel_rfl, rfl⟩
theorem go6 : Goes Tryz.prog 6 := ⟨_, Tryz.func6, by kernel_rfl, rfl⟩
theorem go60 : Goes Tryz.prog 60 := ⟨_, Tryz.func60, by kernel_rfl, rfl⟩
theorem go61 : Goes Tryz.prog 61 := ⟨_, Tryz.func61, by kernel_rfl, rfl⟩
theorem go62 : Goes Tryz.prog 62 := ⟨_, Tryz.func62, by kernel_rfl, rfl⟩
theorem go63 : Goes Tryz.prog 63 := ⟨_, Tryz.func63, by kernel_rfl, rfl⟩
theorem go64 : Goes Tryz.prog 64 := ⟨_, Tryz.func64, by kernel_rfl, rfl⟩
theorem go65 : Goes Tryz.prog 65 := ⟨_, Tryz.func65, by kernel_rfl, rfl⟩
theorem go66 : Goes Tryz.prog 66 := ⟨_, Tryz.func66, by kernel_rfl, rfl⟩
theorem go67 : Goes Tryz.prog 67 := ⟨_, Tryz.func67, by kernel_rfl, rfl⟩
theorem go68 : Goes Tryz.prog 68 := ⟨_, Tryz.func68, by kernel_rfl, rfl⟩
theorem go69 : Goes Tryz.prog 69 := ⟨_, Tryz.func69, by kernel_rfl, rfl⟩
theorem go7 : Goes Tryz.prog 7 := ⟨_, Tryz.func7, by kernel_rfl, rfl⟩
theorem go70 : Goes Tryz.prog 70 := ⟨_, Tryz.func70, by kernel_rfl, rfl⟩
theorem go71 : Goes Tryz.prog 71 := ⟨_, Tryz.func71, by kernel_rfl, rfl⟩
theorem go72 : Goes Tryz.prog 72 := ⟨_, Tryz.func72, by kernel_rfl, rfl⟩
theorem go75 : Goes Tryz.prog 75 := ⟨_, Tryz.func75, by kernel_rfl, rfl⟩
theorem go76 : Goes Tryz.prog 76 := ⟨_, Tryz.func76, by kernel_rfl, rfl⟩
theorem go8 : Goes Tryz.prog 8 := ⟨_, Tryz.func8, by kernel_rfl, rfl⟩
theorem go83 : Goes Tryz.prog 83 := ⟨_, Tryz.func83, by kernel_rfl, rfl⟩
theorem go88 : Goes Tryz.prog 88 := ⟨_, Tryz.func88, by kernel_rfl, rfl⟩
theorem go89 : Goes Tryz.prog 89 := ⟨_, Tryz.func89, by kernel_rfl, rfl⟩
theorem go9 : Goes Tryz.prog 9 := ⟨_, Tryz.func9, by kernel_rfl, rfl⟩
theorem go90 : Goes Tryz.prog 90 := ⟨_, Tryz.func90, by kernel_rfl, rfl⟩
theorem go91 : Goes Tryz.prog 91 := ⟨_, Tryz.func91, by kernel_rfl, rfl⟩
theorem go92 : Goes Tryz.prog 92 := ⟨_, Tryz.func92, by kernel_rfl, rfl⟩
theorem go93 : Goes Tryz.prog 93 := ⟨_, Tryz.func93, by kernel_rfl, rfl⟩
theorem go94 : Goes Tryz.prog 94 := ⟨_, Tryz.func94, by kernel_rfl, rfl⟩
theorem go95 : Goes Tryz.prog 95 := ⟨_, Tryz.func95, by kernel_rfl, rfl⟩
theorem go96 : Goes Tryz.prog 96 := ⟨_, Tryz.func96, by kernel_rfl, rfl⟩
theorem go97 : Goes Tryz.prog 97 := ⟨_, Tryz.func97, by kernel_rfl, rfl⟩
theorem go98 : Goes Tryz.prog 98 := ⟨_, Tryz.func98, by kernel_rfl, rfl⟩
theorem go99 : Goes Tryz.prog 99 := ⟨_, Tryz.func99, by kernel_rfl, rfl⟩
theorem sz106 : SizeOf Tryz.prog 106 2 := SizeOf_mk (by kernel_rfl)
theorem sz114 : SizeOf Tryz.prog 114 2 := SizeOf_mk (by kernel_rfl)
theorem sz135 : SizeOf Tryz.prog 135 2 := SizeOf_mk (by kernel_rfl)
theorem sz165 : SizeOf Tryz.prog 165 2 := SizeOf_mk (by kernel_rfl)
theorem sz3 : SizeOf Tryz.prog 3 1 := SizeOf_mk (by kernel_rfl)
theorem sz4 : SizeOf Tryz.prog 4 1 := SizeOf_mk (by kernel_rfl)
theorem sz46 : SizeOf Tryz.prog 46 2 := SizeOf_mk (by kernel_rfl)
theorem sz49 : SizeOf Tryz.prog 49 4 := SizeOf_mk (by kernel_rfl)
theorem sz52 : SizeOf Tryz.prog 52 11 := SizeOf_mk (by kernel_rfl)
theorem sz56 : SizeOf Tryz.prog 56 1 := SizeOf_mk (by kernel_rfl)
theorem sz58 : SizeOf Tryz.prog 58 2 := SizeOf_mk (by kernel_rfl)
theorem sz59 : SizeOf Tryz.prog 59 1 := SizeOf_mk (by kernel_rfl)
theorem sz61 : SizeOf Tryz.prog 61 4 := SizeOf_mk (by kernel_rfl)
theorem sz63 : SizeOf Tryz.prog 63 11 := SizeOf_mk (by kernel_rfl)
theorem sz9 : SizeOf Tryz.prog 9 1 := SizeOf_mk (by kernel_rfl)
theorem ze106 : ZeroOf Tryz.prog 106 [vs [], vs []] := ZeroOf_mk (z := .agg #[vs [], vs []]) (by kernel_rfl) rfl
theorem ze114 : ZeroOf Tryz.prog 114 [.int .i64 0, .int .i64 0] := ZeroOf_mk (z := .agg #[.int .i64 0, .int .i64 0]) (by kernel_rfl) rfl
theorem ze58 : ZeroOf Tryz.prog 58 [.int .i64 0, .slice none 0 0] := ZeroOf_mk (z := .agg #[.int .i64 0, .slice none 0 0]) (by kernel_rfl) rfl
theorem ze61 : ZeroOf Tryz.prog 61 [vs [], .int .i64 0, .slice none 0 0, .slice none 0 0] := ZeroOf_mk (z := .agg #[vs [], .int .i64 0, .slice none 0 0, .slice none 0 0]) (by kernel_rfl) rfl
theorem ze63 : ZeroOf Tryz.prog 63 [vs [], vb false, vs [], .int .i64 0, .slice none 0 0, .slice none 0 0, vb false, vs [], .int .i64 0, .slice none 0 0, .slice none 0 0] := ZeroOf_mk (z := .agg #[vs [], vb false, vs [], .int .i64 0, .slice none 0 0, .slice none 0 0, vb false, vs [], .int .i64 0, .slice none 0 0, .slice none 0 0]) (by kernel_rfl) rfl
end
section
open Go.RowKit
def vPt (x : Pt) : Prop := (I64 x.X) ∧ (I64 x.Y)
theorem tr165 : Tr Tryz.prog 165 kPt vPt := Tr.iso (Tr.struct (tot := 2) Tryz.underlying165 (by kernel_rfl) (TrF.cons (n := 1) (Tr.int Tryz.underlying3) rfl (by kernel_rfl) (TrF.one (n := 1) (Tr.int Tryz.underlying3) rfl (by kernel_rfl) (by decide)))) (fun x : Pt => (x.X, x.Y)) (fun a => (⟨a.1, a.2⟩ : Pt)) (fun _ => rfl)
def vShape (x : Shape) : Prop := (I64 x.Kind) ∧ (∀ y0 ∈ x.Pts, vPt y0)
theorem tr46 : Tr Tryz.prog 46 kShape vShape := Tr.iso (Tr.struct (tot := 2) Tryz.underlying46 (by kernel_rfl) (TrF.cons (n := 1) (Tr.int Tryz.underlying3) rfl (by kernel_rfl) (TrF.one (n := 1) (Tr.sl Tryz.underlying44 (by kernel_rfl) tr165) rfl (by kernel_rfl) (by decide)))) (fun x : Shape => (x.Kind, x.Pts)) (fun a => (⟨a.1, a.2⟩ : Shape)) (fun _ => rfl)
def vTag (x : Tag) : Prop := (Lim x.Key) ∧ (Lim x.Val)
theorem tr135 : Tr Tryz.prog 135 kTag vTag := Tr.iso (Tr.struct (tot := 2) Tryz.underlying135 (by kernel_rfl) (TrF.cons (n := 1) (Tr.str Tryz.underlying9) rfl (by kernel_rfl) (TrF.one (n := 1) (Tr.str Tryz.underlying9) rfl (by kernel_rfl) (by decide)))) (fun x : Tag => (x.Key, x.Val)) (fun a => (⟨a.1, a.2⟩ : Tag)) (fun _ => rfl)
def vFeat (x : Feat) : Prop := (Lim x.Id) ∧ (vShape x.Shape) ∧ (∀ y0 ∈ x.Tags, vTag y0)
theorem tr49 : Tr Tryz.prog 49 kFeat vFeat := Tr.iso (Tr.struct (tot := 4) Tryz.underlying49 (by kernel_rfl) (TrF.cons (n := 1) (Tr.str Tryz.underlying9) rfl (by kernel_rfl) (TrF.cons (n := 2) (tr46) rfl (by kernel_rfl) (TrF.one (n := 1) (Tr.sl Tryz.underlying47 (by kernel_rfl) tr135) rfl (by kernel_rfl) (by decide))))) (fun x : Feat => (x.Id, x.Shape, x.Tags)) (fun a => (⟨a.1, a.2.1, a.2.2⟩ : Feat)) (fun _ => rfl)
def vChange (x : Change) : Prop := (Lim x.Id) ∧ (True) ∧ (vFeat x.Was) ∧ (True) ∧ (vFeat x.Now)
theorem tr52 : Tr Tryz.prog 52 kChange vChange := Tr.iso (Tr.struct (tot := 11) Tryz.underlying52 (by kernel_rfl) (TrF.cons (n := 1) (Tr.str Tryz.underlying9) rfl (by kernel_rfl) (TrF.cons (n := 1) (Tr.bool Tryz.underlying4) rfl (by kernel_rfl) (TrF.cons (n := 4) (tr49) rfl (by kernel_rfl) (TrF.cons (n := 1) (Tr.bool Tryz.underlying4) rfl (by kernel_rfl) (TrF.one (n := 4) (tr49) rfl (by kernel_rfl) (by decide))))))) (fun x : Change => (x.Id, x.Had, x.Was, x.Has, x.Now)) (fun a => (⟨a.1, a.2.1, a.2.2.1, a.2.2.2.1, a.2.2.2.2⟩ : Change)) (fun _ => rfl)
end
section
class Bulk (α : Type) where
  bulk : α → Nat
def bulk {α : Type} [Bulk α] : α → Nat := Bulk.bulk
instance : Bulk Int := ⟨fun _ => 0⟩
instance : Bulk Bool := ⟨fun _ => 0⟩
instance : Bulk UInt8 := ⟨fun _ => 0⟩
def bulkL {α : Type} [Bulk α] : List α → Nat
  | [] => 0
  | x :: l => 1 + Bulk.bulk x + bulkL l
instance {α : Type} [Bulk α] : Bulk (List α) := ⟨bulkL⟩
section
variable {α : Type} [Bulk α]
theorem bulk_nil : bulk ([] : List α) = 0 := rfl
theorem bulk_cons (x : α) (l : List α) : bulk (x :: l) = 1 + bulk x + bulk l := rfl
theorem bulk_app (l m : List α) : bulk (l ++ m) = bulk l + bulk m := by
  induction l with
  | nil => simp [bulk_nil]
  | cons x l ih => rw [List.cons_append, bulk_cons, bulk_cons, ih]; omega
theorem bulk_len (l : List α) : l.length ≤ bulk l := by
  induction l with
  | nil => exact Nat.zero_le _
  | cons x l ih => rw [bulk_cons, List.length_cons]; omega
theorem bulk_mem {l : List α} {x : α} (h : x ∈ l) : 1 + bulk x ≤ bulk l := by
  induction l with
  | nil => cases h
  | cons y l ih =>
    rw [bulk_cons]
    rcases List.mem_cons.1 h with rfl | h
    · omega
    · have := ih h; omega
theorem bulk_flat (h : ∀ x : α, bulk x = 0) (l : List α) : bulk l = l.length := by
  induction l with
  | nil => rfl
  | cons x l ih => rw [bulk_cons, h, ih, List.length_cons]; omega
theorem bulk_str (l : Str) : bulk l = l.length := bulk_flat (fun _ => rfl) l
theorem bulk_take (l : List α) (k : Nat) : bulk (l.take k) ≤ bulk l := by
  have h := bulk_app (l.take k) (l.drop k)
  rw [List.take_append_drop] at h; omega
end
section
variable {α : Type} [Inhabited α]
theorem nth_nat (l : List α) {k : Nat} (h : k < l.length) : nth l (k : Int) = l[k] := by
  unfold nth; rw [Int.toNat_natCast, List.getD_eq_getElem?_getD, List.getElem?_eq_getElem h]; rfl
theorem nth_mem (l : List α) {k : Nat} (h : k < l.length) : nth l (k : Int) ∈ l := by rw [nth_nat l h]; exact List.getElem_mem h
theorem nth_memi (l : List α) {i : Int} (h0 : 0 ≤ i) (h : i < (l.length : Int)) : nth l i ∈ l := by
  obtain ⟨k, rfl⟩ := Int.eq_ofNat_of_zero_le h0
  exact nth_mem l (by omega)
theorem take_nth (l : List α) {k : Nat} (h : k < l.length) : l.take (k + 1) = l.take k ++ [nth l (k : Int)] := by rw [nth_nat l h]; exact List.take_succ_eq_append_getElem h
theorem ext_nth {l m : List α} (h : l.length = m.length) (g : ∀ k, k < l.length → nth l (k : Int) = nth m (k : Int)) : l = m := by
  refine List.ext_getElem h fun k h1 h2 => ?_
  have := g k h1
  rwa [nth_nat l h1, nth_nat m h2] at this
end
theorem szS_shape {α : Type} [Inhabited α] [Bulk α] (el : α → Int → (Int → Prop) → Prop)
    (hel : ∀ (x : α) (left : Int) (Q : Int → Prop), 0 ≤ left → left ≤ 1048576 → (left - (bulk x : Nat) < 0 → Q (-1)) → (0 ≤ left - (bulk x : Nat) → Q (left - (bulk x : Nat))) → el x left Q)
    (a : List α) (left : Int) (Q : Int → Prop) (h0 : 0 ≤ left) (h1 : left ≤ 1048576) (hn : left - (bulk a : Nat) < 0 → Q (-1)) (hp : 0 ≤ left - (bulk a : Nat) → Q (left - (bulk a : Nat))) :
    ((a.length : Int) ≤ 9223372036854775807 → I64 (left - (a.length : Int))) ∧ (if decide (left - (a.length : Int) < 0) then Q (-1) else (∃ (I22 : Int → Int → Prop) (mu23 : Int → Int → Nat), I22 (left - (a.length : Int)) 0 ∧ ∀ (left3 : Int) (i2 : Int), I22 left3 i2 → (if decide (i2 < (a.length : Int)) then ((0 : Int) ≤ i2 ∧ i2 < (a.length : Int)) ∧ el (nth a i2) left3 (fun r => (if decide (r < 0) then Q (-1) else (-9223372036854775808 ≤ i2) ∧ I22 r (i2 + 1) ∧ mu23 r (i2 + 1) < mu23 left3 i2)) else Q left3))) := by
  have hl := bulk_len a
  refine ⟨fun _ => by unfold I64; omega, ?_⟩
  by_cases hc : left - (a.length : Int) < 0
  · rw [if_pos (by simpa using hc)]; exact hn (by omega)
  rw [if_neg (by simpa using hc)]
  refine ⟨fun l i => ∃ k : Nat, i = k ∧ k ≤ a.length ∧ 0 ≤ l ∧ l = left - (bulk (a.take k) : Nat) - ((a.length - k : Nat) : Int), fun _ i => (a.length - i).toNat, ⟨0, rfl, by omega, by omega, by simp [bulk_nil]⟩, ?_⟩
  rintro l _ ⟨k, rfl, hk, hl0, hle⟩
  by_cases hki : (k : Int) < (a.length : Int)
  · rw [if_pos (by simpa using hki)]
    have hk' : k < a.length := by omega
    have e := take_nth a hk'
    have hb : bulk (a.take (k + 1)) = bulk (a.take k) + (1 + bulk (nth a (k : Int))) := by rw [e, bulk_app, bulk_cons, bulk_nil]; omega
    have ht := bulk_app (a.take (k + 1)) (a.drop (k + 1))
    rw [List.take_append_drop] at ht
    have hdl := bulk_len (a.drop (k + 1))
    rw [List.length_drop] at hdl
    refine ⟨⟨by omega, hki⟩, hel (nth a (k : Int)) l _ hl0 (by omega) (fun h => ?_) (fun h => ?_)⟩
    · rw [if_pos (by decide)]; exact hn (by omega)
    · rw [if_neg (by simpa using h)]
      refine ⟨by omega, ⟨k + 1, by omega, by omega, h, ?_⟩, by dsimp only; omega⟩
      rw [hb]; omega
  · rw [if_neg (by simpa using hki)]
    have : k = a.length := by omega
    subst this
    rw [List.take_length, Nat.sub_self] at hle
    have : l = left - (bulk a : Nat) := by omega
    subst this
    exact hp hl0
theorem szL_shape {α : Type} [Bulk α] (hz : ∀ x : α, bulk x = 0) (a : List α) (left : Int) (Q : Int → Prop) (h0 : 0 ≤ left) (h1 : left ≤ 1048576) (hn : left - (bulk a : Nat) < 0 → Q (-1)) (hp : 0 ≤ left - (bulk a : Nat) → Q (left - (bulk a : Nat))) :
    ((a.length : Int) ≤ 9223372036854775807 → I64 (left - (a.length : Int))) ∧ (if decide (left - (a.length : Int) < 0) then Q (-1) else Q (left - (a.length : Int))) := by
  have hl := bulk_flat hz a
  rw [hl] at hn hp
  refine ⟨fun _ => by unfold I64; have := hn; by_cases h : left - (a.length : Int) < 0 <;> omega, ?_⟩
  by_cases hc : left - (a.length : Int) < 0
  · rw [if_pos (by simpa using hc)]; exact hn hc
  · rw [if_neg (by simpa using hc)]; exact hp (by omega)
theorem toS_shape {α : Type} [Inhabited α] [Bulk α] (z : α) (el : α → (α → Prop) → Prop) (hel : ∀ x (Q : α → Prop), bulk x ≤ 1048576 → Q x → el x Q) (a : List α) (Q : List α → Prop) (ha : bulk a ≤ 1048576) (hq : Q a) :
    ((0 : Int) ≤ (a.length : Int) ∧ (a.length : Int) ≤ (268435456 : Int)) ∧ (∃ (I41 : (List α) → Int → Prop) (mu42 : (List α) → Int → Nat), I41 (List.replicate (a.length : Int).toNat z) 0 ∧ ∀ (xs2 : List α) (i2 : Int), I41 xs2 i2 → (if decide (i2 < (a.length : Int)) then ((0 : Int) ≤ i2 ∧ i2 < (a.length : Int)) ∧ el (nth a i2) (fun r => ((0 : Int) ≤ i2 ∧ i2 < (xs2.length : Int)) ∧ (-9223372036854775808 ≤ i2) ∧ I41 (xs2.set i2.toNat r) (i2 + 1) ∧ mu42 (xs2.set i2.toNat r) (i2 + 1) < mu42 xs2 i2) else Q xs2)) := by
  have hl := bulk_len a
  refine ⟨⟨by omega, by omega⟩, fun xs i => ∃ k : Nat, i = k ∧ k ≤ a.length ∧ xs.length = a.length ∧ xs.take k = a.take k, fun _ i => (a.length - i).toNat, ⟨0, rfl, by omega, by simp, by simp⟩, ?_⟩
  rintro xs _ ⟨k, rfl, hk, hxl, ht⟩
  by_cases hki : (k : Int) < (a.length : Int)
  · rw [if_pos (by simpa using hki)]
    have hk' : k < a.length := by omega
    refine ⟨⟨by omega, hki⟩, hel _ _ (by have := bulk_mem (nth_mem a hk'); omega) ⟨⟨by omega, by omega⟩, by omega, ⟨k + 1, by omega, by omega, by simp [hxl], ?_⟩, by dsimp only; omega⟩⟩
    rw [Int.toNat_natCast, List.take_succ_eq_append_getElem (by simp; omega), take_nth a hk', List.getElem_set_self, List.take_set_of_le (Nat.le_refl _), ht]
  · rw [if_neg (by simpa using hki)]
    have : k = a.length := by omega
    subst this
    rw [List.take_of_length_le (by omega), List.take_length] at ht
    subst ht; exact hq
theorem eqS_shape {α : Type} [Inhabited α] [DecidableEq α] (el : α → α → Bool) (hel : ∀ x y, el x y = decide (x = y)) (a b : List α) (Q : Bool → Prop) (hq : Q (decide (a = b))) :
    (if (a.length : Int) != (b.length : Int) then Q false else (∃ (I32 : Int → Prop) (mu33 : Int → Nat), I32 0 ∧ ∀ (i2 : Int), I32 i2 → (if decide (i2 < (a.length : Int)) then ((0 : Int) ≤ i2 ∧ i2 < (a.length : Int)) ∧ ((0 : Int) ≤ i2 ∧ i2 < (b.length : Int)) ∧ (if !(el (nth a i2) (nth b i2)) then Q false else (-9223372036854775808 ≤ i2) ∧ I32 (i2 + 1) ∧ mu33 (i2 + 1) < mu33 i2) else Q true))) := by
  by_cases hl : a.length = b.length
  · rw [if_neg (by simp [hl])]
    refine ⟨fun i => ∃ k : Nat, i = k ∧ k ≤ a.length ∧ ∀ j, j < k → nth a (j : Int) = nth b (j : Int), fun i => (a.length - i).toNat, ⟨0, rfl, by omega, fun j hj => absurd hj (by omega)⟩, ?_⟩
    rintro _ ⟨k, rfl, hk, ht⟩
    by_cases hki : (k : Int) < (a.length : Int)
    · rw [if_pos (by simpa using hki)]
      refine ⟨⟨by omega, hki⟩, ⟨by omega, by omega⟩, ?_⟩
      rw [hel]
      by_cases he : nth a (k : Int) = nth b (k : Int)
      · rw [if_neg (by rw [decide_eq_true he]; exact Bool.false_ne_true)]
        refine ⟨by omega, ⟨k + 1, by omega, by omega, fun j hj => ?_⟩, by dsimp only; omega⟩
        by_cases hjk : j = k
        · subst hjk; exact he
        · exact ht j (by omega)
      · rw [if_pos (by rw [decide_eq_false he]; rfl)]
        have : decide (a = b) = false := by
          simp only [decide_eq_false_iff_not]; rintro rfl; exact he rfl
        rw [this] at hq; exact hq
    · rw [if_neg (by simpa using hki)]
      have : a = b := ext_nth hl fun j hj => ht j (by omega)
      rw [decide_eq_true this] at hq; exact hq
  · rw [if_pos (by simp; omega)]
    have : decide (a = b) = false := by
      simp only [decide_eq_false_iff_not]; rintro rfl; exact hl rfl
    rw [this] at hq; exact hq
theorem eqI_shape {α : Type} [Inhabited α] [DecidableEq α] (el : α → α → Bool) (hel : ∀ x y, el x y = decide (x = y)) (a b : List α) (Q : Bool → Prop) (hb : a.length ≤ 1048576) (hq : Q (decide (a = b))) :
    (if (a.length : Int) != (b.length : Int) then Q false else (∃ (I32 : Int → Prop) (mu33 : Int → Nat), I32 0 ∧ ∀ (i2 : Int), I32 i2 → (if decide (i2 < (a.length : Int)) then ((0 : Int) ≤ i2 ∧ i2 < (a.length : Int)) ∧ ((0 : Int) ≤ i2 ∧ i2 < (b.length : Int)) ∧ (if !(el (nth a i2) (nth b i2)) then Q false else (I64 (i2 + 1)) ∧ I32 (i2 + 1) ∧ mu33 (i2 + 1) < mu33 i2) else Q true))) := by
  have h := eqS_shape el hel a b Q hq
  by_cases hl : ((a.length : Int) != (b.length : Int)) = true
  · rw [if_pos hl] at h ⊢; exact h
  · rw [if_neg hl] at h ⊢
    obtain ⟨I, mu, h0, h1⟩ := h
    refine ⟨fun i => 0 ≤ i ∧ I i, mu, ⟨by omega, h0⟩, fun i ⟨hp, hi⟩ => ?_⟩
    have h2 := h1 i hi
    by_cases hc : decide (i < (a.length : Int)) = true
    · rw [if_pos hc] at h2 ⊢
      have hc' : i < (a.length : Int) := by simpa using hc
      refine ⟨h2.1, h2.2.1, ?_⟩
      have h3 := h2.2.2
      by_cases he : (!(el (nth a i) (nth b i))) = true
      · rw [if_pos he] at h3 ⊢; exact h3
      · rw [if_neg he] at h3 ⊢
        exact ⟨by unfold I64; omega, ⟨by omega, h3.2.1⟩, h3.2.2⟩
    · rw [if_neg hc] at h2 ⊢; exact h2
end
instance : Bulk Pt := ⟨fun x => bulk x.X + bulk x.Y⟩
instance : Bulk Shape := ⟨fun x => bulk x.Kind + bulk x.Pts⟩
instance : Bulk Tag := ⟨fun x => bulk x.Key + bulk x.Val⟩
instance : Bulk Feat := ⟨fun x => bulk x.Id + bulk x.Shape + bulk x.Tags⟩
instance : Bulk Change := ⟨fun x => bulk x.Id + bulk x.Had + bulk x.Was + bulk x.Has + bulk x.Now⟩
instance : Bulk Pair := ⟨fun x => bulk x.A + bulk x.B⟩
instance : Bulk Clash := ⟨fun x => bulk x.Id + bulk x.What⟩
instance : Bulk thing := ⟨fun x => bulk x.has + bulk x.f⟩
instance : Bulk value := ⟨fun x => bulk x.has + bulk x.val⟩
section
open Go.RowKit
def F100.E (a : List Pt) (left : Int) (Q : Int → Prop) : Prop :=
 ((a.length : Int) ≤ 9223372036854775807 → I64 (left - (a.length : Int))) ∧ (if decide (left - (a.length : Int) < 0) then Q (-1) else Q (left - (a.length : Int)))
theorem F100.calls {O : Ob} (w0 : World) (hO : Ok w0 O) (a : List Pt) (A1 : Option Addr) (n2 c3 : Nat) (hp4 : Sl kPt w0 (Fr O) (.slice A1 n2 c3) a) (left : Int) (Q : Int → Prop) (h : F100.E a left Q) :
  Ret Tryz.prog 88 [.slice A1 n2 c3, vi left] w0 (fun v w' => ∃ (r0 : Int), v = vi r0 ∧ Q r0 ∧ Gr w0 w' none ∧ w' = w0) := by
 unfold F100.E at h
 have H := h
 clear h
 have hc0 := Ct.init hO
 refine Ret_enter Tryz.func88 rfl 12 rfl [.tmp 4] rfl rfl ?_
 refine W_seq (W_reg (L_as (vi 0) rfl (L_nil (W_seq (W_reg (L_mv (vi left) rfl (L_mv (.slice A1 n2 c3) rfl ?_)))))))
 have hl6 := hp4.le
 refine L_pu (P_len Tryz.underlying44 A1 n2 c3 hp4.len rfl) ?_
 obtain ⟨hb7, H⟩ := H
 have hi8 := hb7 (len_le hl6)
 refine L_pu (P_sub left (a.length : Int) rfl rfl hi8) (L_as (vi (left - (a.length : Int))) rfl (L_nil (W_seq (W_seq (W_reg (L_mv (vi (left - (a.length : Int))) rfl (L_pu (P_cmp (left - (a.length : Int)) 0 (decide (left - (a.length : Int) < 0)) rfl rfl rfl) (L_nil ?_))))))))
 refine W_cond (decide (left - (a.length : Int) < 0)) rfl (fun hq9 => ?_) (fun hq9 => ?_)
 ·have H := ite_t H hq9
  exact W_seq (W_reg (L_as (vi (-1)) rfl (L_nil (W_ret ⟨[vi (-1)], ⟨_, rfl, rfl⟩, (-1), rfl, H, hc0.gr.g0, rfl⟩))))
 have H := ite_f H hq9
 exact W_skip (W_seq (W_reg (L_mv (vi (left - (a.length : Int))) rfl (L_as (vi (left - (a.length : Int))) rfl (L_nil (W_ret ⟨[vi (left - (a.length : Int))], ⟨_, rfl, rfl⟩, left - (a.length : Int), rfl, H, hc0.gr.g0, rfl⟩))))))
end
section
open Go.RowKit
def F49.E (a : Shape) (left : Int) (Q : Int → Prop) : Prop :=
 F100.E a.Pts left (fun r => (if decide (r < 0) then Q (-1) else Q r))
theorem F49.calls {O : Ob} (w0 : World) (hO : Ok w0 O) (a : Shape) (A1 : Option Addr) (n2 c3 : Nat) (hp4 : Sl kPt w0 (Fr O) (.slice A1 n2 c3) a.Pts) (left : Int) (Q : Int → Prop) (h : F49.E a left Q) :
  Ret Tryz.prog 55 [.agg #[vi a.Kind, .slice A1 n2 c3], vi left] w0 (fun v w' => ∃ (r0 : Int), v = vi r0 ∧ Q r0 ∧ Gr w0 w' none) := by
 unfold F49.E at h
 have H := h
 clear h
 have hc0 := Ct.init hO
 refine Ret_enter Tryz.func55 rfl 12 rfl [.tmp 4] rfl rfl ?_
 refine W_seq (W_reg (L_box [vi a.Kind, .slice A1 n2 c3] rfl fun w6 b7 hl9 hu10 g8 ad => ?_))
 have ae := Fb.mk hc0.ok hl9 ad
 have aa := hc0.k0 g8
 refine L_as (vi 0) rfl (L_nil (W_seq (W_reg (L_pu (P_fa fa46_1 ⟨b7, 0, none⟩ ⟨b7, 1, none⟩ rfl rfl) (L_pu (P_ld ag44 cL ⟨b7, 1, none⟩ (.slice A1 n2 c3) rfl (ae.cell rfl)) (L_mv (vi left) rfl ?_))))))
 refine L_call go88 [.slice A1 n2 c3, vi left] rfl ((F100.calls w6 aa.ok a.Pts A1 n2 c3 (hp4.st aa.st) left _ H).mono ?_)
 rintro _ ag ⟨r, rfl, H, af, _⟩
 have ac := aa.k0 af
 refine L_as (vi r) rfl (L_nil (W_seq (W_seq (W_reg (L_mv (vi r) rfl (L_pu (P_cmp r 0 (decide (r < 0)) rfl rfl rfl) (L_nil ?_)))))))
 refine W_cond (decide (r < 0)) rfl (fun ab => ?_) (fun ab => ?_)
 ·have H := ite_t H ab
  exact W_seq (W_reg (L_as (vi (-1)) rfl (L_nil (W_ret ⟨[vi (-1)], ⟨_, rfl, rfl⟩, (-1), rfl, H, ac.gr.g0⟩))))
 have H := ite_f H ab
 exact W_skip (W_seq (W_reg (L_mv (vi r) rfl (L_as (vi r) rfl (L_nil (W_ret ⟨[vi r], ⟨_, rfl, rfl⟩, r, rfl, H, ac.gr.g0⟩))))))
end
section
open Go.RowKit
def F101.E (a : Tag) (left : Int) (Q : Int → Prop) : Prop :=
 ((a.Key.length : Int) ≤ 9223372036854775807 → I64 (left - (a.Key.length : Int))) ∧ (if decide (left - (a.Key.length : Int) < 0) then Q (-1) else ((a.Key.length : Int) ≤ 9223372036854775807 → (a.Val.length : Int) ≤ 9223372036854775807 → I64 (left - (a.Key.length : Int) - (a.Val.length : Int))) ∧ (if decide (left - (a.Key.length : Int) - (a.Val.length : Int) < 0) then Q (-1) else Q (left - (a.Key.length : Int) - (a.Val.length : Int))))
theorem F101.calls {O : Ob} (w0 : World) (hO : Ok w0 O) (a : Tag) (hs1 : Lim a.Key) (hs2 : Lim a.Val) (left : Int) (Q : Int → Prop) (h : F101.E a left Q) :
  Ret Tryz.prog 89 [.agg #[vs a.Key, vs a.Val], vi left] w0 (fun v w' => ∃ (r0 : Int), v = vi r0 ∧ Q r0 ∧ Gr w0 w' none) := by
 unfold F101.E at h
 have H := h
 clear h
 have hc0 := Ct.init hO
 refine Ret_enter Tryz.func89 rfl 20 rfl [.tmp 4] rfl rfl ?_
 refine W_seq (W_reg (L_box [vs a.Key, vs a.Val] rfl fun w3 b4 hl6 hu7 g5 hx8 => ?_))
 have ad := Fb.mk hc0.ok hl6 hx8
 have aa := hc0.k0 g5
 refine L_as (vi 0) rfl (L_nil (W_seq (W_reg (L_mv (vi left) rfl (L_pu (P_fa fa135_0 ⟨b4, 0, none⟩ ⟨b4, 0, none⟩ rfl rfl) (L_pu (P_ld ag9 cL ⟨b4, 0, none⟩ (vs a.Key) rfl (ad.cell rfl)) ?_))))))
 have ae := hs1
 refine L_pu (P_lens Tryz.underlying9 a.Key rfl) ?_
 obtain ⟨af, H⟩ := H
 have ag := af (len_le ae)
 refine L_pu (P_sub left (a.Key.length : Int) rfl rfl ag) (L_as (vi (left - (a.Key.length : Int))) rfl (L_nil (W_seq (W_seq (W_reg (L_mv (vi (left - (a.Key.length : Int))) rfl (L_pu (P_cmp (left - (a.Key.length : Int)) 0 (decide (left - (a.Key.length : Int) < 0)) rfl rfl rfl) (L_nil ?_))))))))
 refine W_cond (decide (left - (a.Key.length : Int) < 0)) rfl (fun ab => ?_) (fun ab => ?_)
 ·have H := ite_t H ab
  exact W_seq (W_reg (L_as (vi (-1)) rfl (L_nil (W_ret ⟨[vi (-1)], ⟨_, rfl, rfl⟩, (-1), rfl, H, aa.gr.g0⟩))))
 have H := ite_f H ab
 refine W_skip (W_seq (W_reg (L_mv (vi (left - (a.Key.length : Int))) rfl (L_pu (P_fa fa135_1 ⟨b4, 0, none⟩ ⟨b4, 1, none⟩ rfl rfl) (L_pu (P_ld ag9 cL ⟨b4, 1, none⟩ (vs a.Val) rfl (ad.cell rfl)) ?_)))))
 have ah := hs2
 refine L_pu (P_lens Tryz.underlying9 a.Val rfl) ?_
 obtain ⟨ai, H⟩ := H
 have aj := ai (len_le ae) (len_le ah)
 refine L_pu (P_sub (left - (a.Key.length : Int)) (a.Val.length : Int) rfl rfl aj) (L_as (vi (left - (a.Key.length : Int) - (a.Val.length : Int))) rfl (L_nil (W_seq (W_seq (W_reg (L_mv (vi (left - (a.Key.length : Int) - (a.Val.length : Int))) rfl (L_pu (P_cmp (left - (a.Key.length : Int) - (a.Val.length : Int)) 0 (decide (left - (a.Key.length : Int) - (a.Val.length : Int) < 0)) rfl rfl rfl) (L_nil ?_))))))))
 refine W_cond (decide (left - (a.Key.length : Int) - (a.Val.length : Int) < 0)) rfl (fun ac => ?_) (fun ac => ?_)
 ·have H := ite_t H ac
  exact W_seq (W_reg (L_as (vi (-1)) rfl (L_nil (W_ret ⟨[vi (-1)], ⟨_, rfl, rfl⟩, (-1), rfl, H, aa.gr.g0⟩))))
 have H := ite_f H ac
 exact W_skip (W_seq (W_reg (L_mv (vi (left - (a.Key.length : Int) - (a.Val.length : Int))) rfl (L_as (vi (left - (a.Key.length : Int) - (a.Val.length : Int))) rfl (L_nil (W_ret ⟨[vi (left - (a.Key.length : Int) - (a.Val.length : Int))], ⟨_, rfl, rfl⟩, left - (a.Key.length : Int) - (a.Val.length : Int), rfl, H, aa.gr.g0⟩))))))
end
section
open Go.RowKit
def F68.E (a : List Tag) (left : Int) (Q : Int → Prop) : Prop :=
 ((a.length : Int) ≤ 9223372036854775807 → I64 (left - (a.length : Int))) ∧ (if decide (left - (a.length : Int) < 0) then Q (-1) else (∃ (I22 : Int → Int → Prop) (mu23 : Int → Int → Nat), I22 (left - (a.length : Int)) 0 ∧ ∀ (left3 : Int) (i2 : Int), I22 left3 i2 → (if decide (i2 < (a.length : Int)) then ((0 : Int) ≤ i2 ∧ i2 < (a.length : Int)) ∧ F101.E (nth a i2) left3 (fun r => (if decide (r < 0) then Q (-1) else (-9223372036854775808 ≤ i2) ∧ I22 r (i2 + 1) ∧ mu23 r (i2 + 1) < mu23 left3 i2)) else Q left3)))
theorem F68.calls {O : Ob} (w0 : World) (hO : Ok w0 O) (a : List Tag) (A1 : Option Addr) (n2 c3 : Nat) (hp4 : Sl kTag w0 (Fr O) (.slice A1 n2 c3) a) (left : Int) (Q : Int → Prop) (h : F68.E a left Q) :
  Ret Tryz.prog 56 [.slice A1 n2 c3, vi left] w0 (fun v w' => ∃ (r0 : Int), v = vi r0 ∧ Q r0 ∧ Gr w0 w' none) := by
 unfold F68.E at h
 have H := h
 clear h
 have hc0 := Ct.init hO
 refine Ret_enter Tryz.func56 rfl 27 rfl [.tmp 4] rfl rfl ?_
 refine W_seq (W_reg (L_as (vi 0) rfl (L_nil (W_seq (W_reg (L_mv (vi left) rfl (L_mv (.slice A1 n2 c3) rfl ?_)))))))
 have hl6 := hp4.le
 refine L_pu (P_len Tryz.underlying47 A1 n2 c3 hp4.len rfl) ?_
 obtain ⟨hb7, H⟩ := H
 have hi8 := hb7 (len_le hl6)
 refine L_pu (P_sub left (a.length : Int) rfl rfl hi8) (L_as (vi (left - (a.length : Int))) rfl (L_nil (W_seq (W_seq (W_reg (L_mv (vi (left - (a.length : Int))) rfl (L_pu (P_cmp (left - (a.length : Int)) 0 (decide (left - (a.length : Int) < 0)) rfl rfl rfl) (L_nil ?_))))))))
 refine W_cond (decide (left - (a.length : Int) < 0)) rfl (fun hq9 => ?_) (fun hq9 => ?_)
 ·have H := ite_t H hq9
  exact W_seq (W_reg (L_as (vi (-1)) rfl (L_nil (W_ret ⟨[vi (-1)], ⟨_, rfl, rfl⟩, (-1), rfl, H, hc0.gr.g0⟩))))
 have H := ite_f H hq9
 refine W_skip (W_seq (W_seq (W_reg (L_as (vi 0) rfl (L_nil (W_block ?_))))))
 obtain ⟨ak, al, ae, H⟩ := H
 refine W_loop (α := Int × Int) (fun (sv__ : Int × Int) t ab => match sv__ with | (left3, i2) => ak left3 i2 ∧ Has t [(0, .slice A1 n2 c3), (1, vi left3), (5, vi i2)] ∧ Ct [] w0 ab [] O ∧ Sl kTag ab (Fr ([] ++ O)) (.slice A1 n2 c3) a) (fun (sv__ : Int × Int) => match sv__ with | (left3, i2) => al left3 i2) (left - (a.length : Int), 0) ⟨ae, (hasI rfl), hc0, hp4⟩ ?_
 rintro ⟨left3, i2⟩ _ ab ⟨ae, am, ac, aa⟩
 obtain ⟨a0, rfl⟩ := Has.ins am
 have H := H left3 i2 ae
 refine W_seq (W_seq (W_reg (L_mv (vi i2) rfl (L_mv (.slice A1 n2 c3) rfl ?_))))
 have an := aa.le
 refine L_pu (P_len Tryz.underlying47 A1 n2 c3 aa.len rfl) (L_pu (P_cmp i2 (a.length : Int) (decide (i2 < (a.length : Int))) rfl rfl rfl) (L_nil ?_))
 refine W_cond (decide (i2 < (a.length : Int))) rfl (fun ad => ?_) (fun ad => ?_)
 ·have H := ite_t H ad
  refine W_skip (W_seq (W_block (W_seq (W_reg (L_mv (.slice A1 n2 c3) rfl (L_mv (vi i2) rfl ?_))))))
  obtain ⟨ag, H⟩ := H
  obtain ⟨ah, a1, ao, a2, ap, aq⟩ := aa.get default (by decide) i2 ag
  obtain ⟨rfl, ar, au⟩ := kTag.op ap
  refine L_pu (P_ia Tryz.underlying47 se47 A1 ah n2 c3 aa.len i2 rfl ao rfl ag) (L_pu (P_lda ag135 sz135 cL (ah.add (i2.toNat * 2)) [vs ((nth a i2).Key), vs ((nth a i2).Val)] rfl rfl aq) (L_mv (vi left3) rfl ?_))
  refine L_call go89 [.agg #[vs ((nth a i2).Key), vs ((nth a i2).Val)], vi left3] rfl ((F101.calls ab ac.ok (nth a i2) ar au left3 _ H).mono ?_)
  rintro _ a3 ⟨r, rfl, H, ai⟩
  have aj := ac.k0 ai
  refine L_as (vi r) rfl (L_nil (W_seq (W_reg (L_mv (vi r) rfl (L_pu (P_cmp r 0 (decide (r < 0)) rfl rfl rfl) (L_nil ?_))))))
  refine W_cond (decide (r < 0)) rfl (fun af => ?_) (fun af => ?_)
  ·have H := ite_t H af
   exact W_seq (W_reg (L_as (vi (-1)) rfl (L_nil (W_ret ⟨[vi (-1)], ⟨_, rfl, rfl⟩, (-1), rfl, H, aj.gr.g0⟩))))
  have H := ite_f H af
  refine W_skip (W_reg (L_mv (vi i2) rfl ?_))
  obtain ⟨av, H⟩ := H
  have aw : I64 (i2 + 1) := i64_succ (of_decide_eq_true ad) an av
  refine L_pu (P_add i2 1 rfl rfl aw) (L_as (vi (i2 + 1)) rfl (L_nil ?_))
  obtain ⟨ax, ay⟩ := H
  have az := ac.stn ai
  exact ⟨(r, i2 + 1), ay, ax, (hasI rfl), aj, (aa.st az)⟩
 have H := ite_f H ad
 refine W_exit (xin_hit ?_)
 exact W_seq (W_reg (L_mv (vi left3) rfl (L_as (vi left3) rfl (L_nil (W_ret ⟨[vi left3], ⟨_, rfl, rfl⟩, left3, rfl, H, ac.gr.g0⟩)))))
end
section
open Go.RowKit
def F69.E (a : Feat) (left : Int) (Q : Int → Prop) : Prop :=
 ((a.Id.length : Int) ≤ 9223372036854775807 → I64 (left - (a.Id.length : Int))) ∧ (if decide (left - (a.Id.length : Int) < 0) then Q (-1) else F49.E a.Shape (left - (a.Id.length : Int)) (fun r => (if decide (r < 0) then Q (-1) else F68.E a.Tags r (fun r2 => (if decide (r2 < 0) then Q (-1) else Q r2)))))
theorem F69.calls {O : Ob} (w0 : World) (hO : Ok w0 O) (a : Feat) (A2 : Option Addr) (n3 c4 : Nat) (A7 : Option Addr) (n8 c9 : Nat) (hs1 : Lim a.Id) (hp5 : Sl kPt w0 (Fr O) (.slice A2 n3 c4) a.Shape.Pts) (aj : Sl kTag w0 (Fr O) (.slice A7 n8 c9) a.Tags) (left : Int) (Q : Int → Prop) (h : F69.E a left Q) :
  Ret Tryz.prog 21 [.agg #[vs a.Id, vi a.Shape.Kind, .slice A2 n3 c4, .slice A7 n8 c9], vi left] w0 (fun v w' => ∃ (r0 : Int), v = vi r0 ∧ Q r0 ∧ Gr w0 w' none) := by
 unfold F69.E at h
 have H := h
 clear h
 have hc0 := Ct.init hO
 refine Ret_enter Tryz.func21 rfl 25 rfl [.tmp 4] rfl rfl ?_
 refine W_seq (W_reg (L_box [vs a.Id, vi a.Shape.Kind, .slice A2 n3 c4, .slice A7 n8 c9] rfl fun ak aa al hu16 am an => ?_))
 have ad := Fb.mk hc0.ok al an
 have ab := hc0.k0 am
 refine L_as (vi 0) rfl (L_nil (W_seq (W_reg (L_mv (vi left) rfl (L_pu (P_fa fa49_0 ⟨aa, 0, none⟩ ⟨aa, 0, none⟩ rfl rfl) (L_pu (P_ld ag9 cL ⟨aa, 0, none⟩ (vs a.Id) rfl (ad.cell rfl)) ?_))))))
 have ao := hs1
 refine L_pu (P_lens Tryz.underlying9 a.Id rfl) ?_
 obtain ⟨ap, H⟩ := H
 have aq := ap (len_le ao)
 refine L_pu (P_sub left (a.Id.length : Int) rfl rfl aq) (L_as (vi (left - (a.Id.length : Int))) rfl (L_nil (W_seq (W_seq (W_reg (L_mv (vi (left - (a.Id.length : Int))) rfl (L_pu (P_cmp (left - (a.Id.length : Int)) 0 (decide (left - (a.Id.length : Int) < 0)) rfl rfl rfl) (L_nil ?_))))))))
 refine W_cond (decide (left - (a.Id.length : Int) < 0)) rfl (fun ae => ?_) (fun ae => ?_)
 ·have H := ite_t H ae
  exact W_seq (W_reg (L_as (vi (-1)) rfl (L_nil (W_ret ⟨[vi (-1)], ⟨_, rfl, rfl⟩, (-1), rfl, H, ab.gr.g0⟩))))
 have H := ite_f H ae
 refine W_skip (W_seq (W_reg (L_pu (P_fa fa49_1 ⟨aa, 0, none⟩ ⟨aa, 1, none⟩ rfl rfl) (L_pu (P_lda ag46 sz46 cL ⟨aa, 1, none⟩ [vi a.Shape.Kind, .slice A2 n3 c4] rfl rfl (ad.cells (off := 1) rfl)) (L_mv (vi (left - (a.Id.length : Int))) rfl ?_)))))
 refine L_call go55 [.agg #[vi a.Shape.Kind, .slice A2 n3 c4], vi (left - (a.Id.length : Int))] rfl ((F49.calls ak ab.ok a.Shape A2 n3 c4 (hp5.st ab.st) (left - (a.Id.length : Int)) _ H).mono ?_)
 rintro _ ar ⟨r, rfl, H, ah⟩
 have ac := ab.k0 ah
 refine L_as (vi r) rfl (L_nil (W_seq (W_seq (W_reg (L_mv (vi r) rfl (L_pu (P_cmp r 0 (decide (r < 0)) rfl rfl rfl) (L_nil ?_)))))))
 refine W_cond (decide (r < 0)) rfl (fun af => ?_) (fun af => ?_)
 ·have H := ite_t H af
  exact W_seq (W_reg (L_as (vi (-1)) rfl (L_nil (W_ret ⟨[vi (-1)], ⟨_, rfl, rfl⟩, (-1), rfl, H, ac.gr.g0⟩))))
 have H := ite_f H af
 refine W_skip (W_seq (W_reg (L_pu (P_fa fa49_2 ⟨aa, 0, none⟩ ⟨aa, 3, none⟩ rfl rfl) ?_)))
 have au := ab.stn ah
 have av := (ad.st au)
 refine L_pu (P_ld ag47 cL ⟨aa, 3, none⟩ (.slice A7 n8 c9) rfl (av.cell rfl)) (L_mv (vi r) rfl ?_)
 refine L_call go56 [.slice A7 n8 c9, vi r] rfl ((F68.calls ar ac.ok a.Tags A7 n8 c9 (aj.st ac.st) r _ H).mono ?_)
 rintro _ ax ⟨r2, rfl, H, aw⟩
 have ai := ac.k0 aw
 refine L_as (vi r2) rfl (L_nil (W_seq (W_seq (W_reg (L_mv (vi r2) rfl (L_pu (P_cmp r2 0 (decide (r2 < 0)) rfl rfl rfl) (L_nil ?_)))))))
 refine W_cond (decide (r2 < 0)) rfl (fun ag => ?_) (fun ag => ?_)
 ·have H := ite_t H ag
  exact W_seq (W_reg (L_as (vi (-1)) rfl (L_nil (W_ret ⟨[vi (-1)], ⟨_, rfl, rfl⟩, (-1), rfl, H, ai.gr.g0⟩))))
 have H := ite_f H ag
 exact W_skip (W_seq (W_reg (L_mv (vi r2) rfl (L_as (vi r2) rfl (L_nil (W_ret ⟨[vi r2], ⟨_, rfl, rfl⟩, r2, rfl, H, ai.gr.g0⟩))))))
end
section
open Go.RowKit
def F50.E (a : List Feat) (left : Int) (Q : Int → Prop) : Prop :=
 ((a.length : Int) ≤ 9223372036854775807 → I64 (left - (a.length : Int))) ∧ (if decide (left - (a.length : Int) < 0) then Q (-1) else (∃ (I22 : Int → Int → Prop) (mu23 : Int → Int → Nat), I22 (left - (a.length : Int)) 0 ∧ ∀ (left3 : Int) (i2 : Int), I22 left3 i2 → (if decide (i2 < (a.length : Int)) then ((0 : Int) ≤ i2 ∧ i2 < (a.length : Int)) ∧ F69.E (nth a i2) left3 (fun r => (if decide (r < 0) then Q (-1) else (-9223372036854775808 ≤ i2) ∧ I22 r (i2 + 1) ∧ mu23 r (i2 + 1) < mu23 left3 i2)) else Q left3)))
theorem F50.calls {O : Ob} (w0 : World) (hO : Ok w0 O) (a : List Feat) (A1 : Option Addr) (n2 c3 : Nat) (hp4 : Sl kFeat w0 (Fr O) (.slice A1 n2 c3) a) (left : Int) (Q : Int → Prop) (h : F50.E a left Q) :
  Ret Tryz.prog 5 [.slice A1 n2 c3, vi left] w0 (fun v w' => ∃ (r0 : Int), v = vi r0 ∧ Q r0 ∧ Gr w0 w' none) := by
 unfold F50.E at h
 have H := h
 clear h
 have hc0 := Ct.init hO
 refine Ret_enter Tryz.func5 rfl 27 rfl [.tmp 4] rfl rfl ?_
 refine W_seq (W_reg (L_as (vi 0) rfl (L_nil (W_seq (W_reg (L_mv (vi left) rfl (L_mv (.slice A1 n2 c3) rfl ?_)))))))
 have hl6 := hp4.le
 refine L_pu (P_len Tryz.underlying22 A1 n2 c3 hp4.len rfl) ?_
 obtain ⟨hb7, H⟩ := H
 have hi8 := hb7 (len_le hl6)
 refine L_pu (P_sub left (a.length : Int) rfl rfl hi8) (L_as (vi (left - (a.length : Int))) rfl (L_nil (W_seq (W_seq (W_reg (L_mv (vi (left - (a.length : Int))) rfl (L_pu (P_cmp (left - (a.length : Int)) 0 (decide (left - (a.length : Int) < 0)) rfl rfl rfl) (L_nil ?_))))))))
 refine W_cond (decide (left - (a.length : Int) < 0)) rfl (fun hq9 => ?_) (fun hq9 => ?_)
 ·have H := ite_t H hq9
  exact W_seq (W_reg (L_as (vi (-1)) rfl (L_nil (W_ret ⟨[vi (-1)], ⟨_, rfl, rfl⟩, (-1), rfl, H, hc0.gr.g0⟩))))
 have H := ite_f H hq9
 refine W_skip (W_seq (W_seq (W_reg (L_as (vi 0) rfl (L_nil (W_block ?_))))))
 obtain ⟨aq, ar, ae, H⟩ := H
 refine W_loop (α := Int × Int) (fun (sv__ : Int × Int) t ab => match sv__ with | (left3, i2) => aq left3 i2 ∧ Has t [(0, .slice A1 n2 c3), (1, vi left3), (5, vi i2)] ∧ Ct [] w0 ab [] O ∧ Sl kFeat ab (Fr ([] ++ O)) (.slice A1 n2 c3) a) (fun (sv__ : Int × Int) => match sv__ with | (left3, i2) => ar left3 i2) (left - (a.length : Int), 0) ⟨ae, (hasI rfl), hc0, hp4⟩ ?_
 rintro ⟨left3, i2⟩ _ ab ⟨ae, au, ac, aa⟩
 obtain ⟨a7, rfl⟩ := Has.ins au
 have H := H left3 i2 ae
 refine W_seq (W_seq (W_reg (L_mv (vi i2) rfl (L_mv (.slice A1 n2 c3) rfl ?_))))
 have av := aa.le
 refine L_pu (P_len Tryz.underlying22 A1 n2 c3 aa.len rfl) (L_pu (P_cmp i2 (a.length : Int) (decide (i2 < (a.length : Int))) rfl rfl rfl) (L_nil ?_))
 refine W_cond (decide (i2 < (a.length : Int))) rfl (fun ad => ?_) (fun ad => ?_)
 ·have H := ite_t H ad
  refine W_skip (W_seq (W_block (W_seq (W_reg (L_mv (.slice A1 n2 c3) rfl (L_mv (vi i2) rfl ?_))))))
  obtain ⟨am, H⟩ := H
  obtain ⟨an, a8, aw, a9, ax, ay⟩ := aa.get default (by decide) i2 am
  obtain ⟨af, ag, ah, ai, aj, ak, rfl, az, a0, a1⟩ := kFeat.op ax
  refine L_pu (P_ia Tryz.underlying22 se22 A1 an n2 c3 aa.len i2 rfl aw rfl am) (L_pu (P_lda ag49 sz49 cL (an.add (i2.toNat * 4)) [vs ((nth a i2).Id), vi ((nth a i2).Shape.Kind), .slice af ag ah, .slice ai aj ak] rfl rfl ay) (L_mv (vi left3) rfl ?_))
  refine L_call go21 [.agg #[vs ((nth a i2).Id), vi ((nth a i2).Shape.Kind), .slice af ag ah, .slice ai aj ak], vi left3] rfl ((F69.calls ab ac.ok (nth a i2) af ag ah ai aj ak az a0 a1 left3 _ H).mono ?_)
  rintro _ ba ⟨r, rfl, H, ao⟩
  have ap := ac.k0 ao
  refine L_as (vi r) rfl (L_nil (W_seq (W_reg (L_mv (vi r) rfl (L_pu (P_cmp r 0 (decide (r < 0)) rfl rfl rfl) (L_nil ?_))))))
  refine W_cond (decide (r < 0)) rfl (fun al => ?_) (fun al => ?_)
  ·have H := ite_t H al
   exact W_seq (W_reg (L_as (vi (-1)) rfl (L_nil (W_ret ⟨[vi (-1)], ⟨_, rfl, rfl⟩, (-1), rfl, H, ap.gr.g0⟩))))
  have H := ite_f H al
  refine W_skip (W_reg (L_mv (vi i2) rfl ?_))
  obtain ⟨a2, H⟩ := H
  have a3 : I64 (i2 + 1) := i64_succ (of_decide_eq_true ad) av a2
  refine L_pu (P_add i2 1 rfl rfl a3) (L_as (vi (i2 + 1)) rfl (L_nil ?_))
  obtain ⟨a4, a5⟩ := H
  have a6 := ac.stn ao
  exact ⟨(r, i2 + 1), a5, a4, (hasI rfl), ap, (aa.st a6)⟩
 have H := ite_f H ad
 refine W_exit (xin_hit ?_)
 exact W_seq (W_reg (L_mv (vi left3) rfl (L_as (vi left3) rfl (L_nil (W_ret ⟨[vi left3], ⟨_, rfl, rfl⟩, left3, rfl, H, ac.gr.g0⟩)))))
end
section
open Go.RowKit
def F33.E (a : Change) (left : Int) (Q : Int → Prop) : Prop :=
 ((a.Id.length : Int) ≤ 9223372036854775807 → I64 (left - (a.Id.length : Int))) ∧ (if decide (left - (a.Id.length : Int) < 0) then Q (-1) else F69.E a.Was (left - (a.Id.length : Int)) (fun r => (if decide (r < 0) then Q (-1) else F69.E a.Now r (fun r2 => (if decide (r2 < 0) then Q (-1) else Q r2)))))
theorem F33.calls {O : Ob} (w0 : World) (hO : Ok w0 O) (a : Change) (A3 : Option Addr) (n4 c5 : Nat) (A8 : Option Addr) (n9 ab : Nat) (ac : Option Addr) (ad ae : Nat) (af : Option Addr) (ag ah : Nat) (hs1 : Lim a.Id) (hs2 : Lim a.Was.Id) (hp6 : Sl kPt w0 (Fr O) (.slice A3 n4 c5) a.Was.Shape.Pts) (aq : Sl kTag w0 (Fr O) (.slice A8 n9 ab) a.Was.Tags) (ar : Lim a.Now.Id) (au : Sl kPt w0 (Fr O) (.slice ac ad ae) a.Now.Shape.Pts) (av : Sl kTag w0 (Fr O) (.slice af ag ah) a.Now.Tags) (left : Int) (Q : Int → Prop) (h : F33.E a left Q) :
  Ret Tryz.prog 22 [.agg #[vs a.Id, vb a.Had, vs a.Was.Id, vi a.Was.Shape.Kind, .slice A3 n4 c5, .slice A8 n9 ab, vb a.Has, vs a.Now.Id, vi a.Now.Shape.Kind, .slice ac ad ae, .slice af ag ah], vi left] w0 (fun v w' => ∃ (r0 : Int), v = vi r0 ∧ Q r0 ∧ Gr w0 w' none) := by
 unfold F33.E at h
 have H := h
 clear h
 have hc0 := Ct.init hO
 refine Ret_enter Tryz.func22 rfl 25 rfl [.tmp 4] rfl rfl ?_
 refine W_seq (W_reg (L_box [vs a.Id, vb a.Had, vs a.Was.Id, vi a.Was.Shape.Kind, .slice A3 n4 c5, .slice A8 n9 ab, vb a.Has, vs a.Now.Id, vi a.Now.Shape.Kind, .slice ac ad ae, .slice af ag ah] rfl fun aw aa ax hu28 ay az => ?_))
 have ak := Fb.mk hc0.ok ax az
 have ai := hc0.k0 ay
 refine L_as (vi 0) rfl (L_nil (W_seq (W_reg (L_mv (vi left) rfl (L_pu (P_fa fa52_0 ⟨aa, 0, none⟩ ⟨aa, 0, none⟩ rfl rfl) (L_pu (P_ld ag9 cL ⟨aa, 0, none⟩ (vs a.Id) rfl (ak.cell rfl)) ?_))))))
 have a0 := hs1
 refine L_pu (P_lens Tryz.underlying9 a.Id rfl) ?_
 obtain ⟨a1, H⟩ := H
 have a2 := a1 (len_le a0)
 refine L_pu (P_sub left (a.Id.length : Int) rfl rfl a2) (L_as (vi (left - (a.Id.length : Int))) rfl (L_nil (W_seq (W_seq (W_reg (L_mv (vi (left - (a.Id.length : Int))) rfl (L_pu (P_cmp (left - (a.Id.length : Int)) 0 (decide (left - (a.Id.length : Int) < 0)) rfl rfl rfl) (L_nil ?_))))))))
 refine W_cond (decide (left - (a.Id.length : Int) < 0)) rfl (fun al => ?_) (fun al => ?_)
 ·have H := ite_t H al
  exact W_seq (W_reg (L_as (vi (-1)) rfl (L_nil (W_ret ⟨[vi (-1)], ⟨_, rfl, rfl⟩, (-1), rfl, H, ai.gr.g0⟩))))
 have H := ite_f H al
 refine W_skip (W_seq (W_reg (L_pu (P_fa fa52_2 ⟨aa, 0, none⟩ ⟨aa, 2, none⟩ rfl rfl) (L_pu (P_lda ag49 sz49 cL ⟨aa, 2, none⟩ [vs a.Was.Id, vi a.Was.Shape.Kind, .slice A3 n4 c5, .slice A8 n9 ab] rfl rfl (ak.cells (off := 2) rfl)) (L_mv (vi (left - (a.Id.length : Int))) rfl ?_)))))
 refine L_call go21 [.agg #[vs a.Was.Id, vi a.Was.Shape.Kind, .slice A3 n4 c5, .slice A8 n9 ab], vi (left - (a.Id.length : Int))] rfl ((F69.calls aw ai.ok a.Was A3 n4 c5 A8 n9 ab hs2 (hp6.st ai.st) (aq.st ai.st) (left - (a.Id.length : Int)) _ H).mono ?_)
 rintro _ a3 ⟨r, rfl, H, ao⟩
 have aj := ai.k0 ao
 refine L_as (vi r) rfl (L_nil (W_seq (W_seq (W_reg (L_mv (vi r) rfl (L_pu (P_cmp r 0 (decide (r < 0)) rfl rfl rfl) (L_nil ?_)))))))
 refine W_cond (decide (r < 0)) rfl (fun am => ?_) (fun am => ?_)
 ·have H := ite_t H am
  exact W_seq (W_reg (L_as (vi (-1)) rfl (L_nil (W_ret ⟨[vi (-1)], ⟨_, rfl, rfl⟩, (-1), rfl, H, aj.gr.g0⟩))))
 have H := ite_f H am
 refine W_skip (W_seq (W_reg (L_pu (P_fa fa52_4 ⟨aa, 0, none⟩ ⟨aa, 7, none⟩ rfl rfl) ?_)))
 have a4 := ai.stn ao
 have a5 := (ak.st a4)
 refine L_pu (P_lda ag49 sz49 cL ⟨aa, 7, none⟩ [vs a.Now.Id, vi a.Now.Shape.Kind, .slice ac ad ae, .slice af ag ah] rfl rfl (a5.cells (off := 7) rfl)) (L_mv (vi r) rfl ?_)
 refine L_call go21 [.agg #[vs a.Now.Id, vi a.Now.Shape.Kind, .slice ac ad ae, .slice af ag ah], vi r] rfl ((F69.calls a3 aj.ok a.Now ac ad ae af ag ah ar (au.st aj.st) (av.st aj.st) r _ H).mono ?_)
 rintro _ a7 ⟨r2, rfl, H, a6⟩
 have ap := aj.k0 a6
 refine L_as (vi r2) rfl (L_nil (W_seq (W_seq (W_reg (L_mv (vi r2) rfl (L_pu (P_cmp r2 0 (decide (r2 < 0)) rfl rfl rfl) (L_nil ?_)))))))
 refine W_cond (decide (r2 < 0)) rfl (fun an => ?_) (fun an => ?_)
 ·have H := ite_t H an
  exact W_seq (W_reg (L_as (vi (-1)) rfl (L_nil (W_ret ⟨[vi (-1)], ⟨_, rfl, rfl⟩, (-1), rfl, H, ap.gr.g0⟩))))
 have H := ite_f H an
 exact W_skip (W_seq (W_reg (L_mv (vi r2) rfl (L_as (vi r2) rfl (L_nil (W_ret ⟨[vi r2], ⟨_, rfl, rfl⟩, r2, rfl, H, ap.gr.g0⟩))))))
end
section
open Go.RowKit
def F22.E (a : List Change) (left : Int) (Q : Int → Prop) : Prop :=
 ((a.length : Int) ≤ 9223372036854775807 → I64 (left - (a.length : Int))) ∧ (if decide (left - (a.length : Int) < 0) then Q (-1) else (∃ (I22 : Int → Int → Prop) (mu23 : Int → Int → Nat), I22 (left - (a.length : Int)) 0 ∧ ∀ (left3 : Int) (i2 : Int), I22 left3 i2 → (if decide (i2 < (a.length : Int)) then ((0 : Int) ≤ i2 ∧ i2 < (a.length : Int)) ∧ F33.E (nth a i2) left3 (fun r => (if decide (r < 0) then Q (-1) else (-9223372036854775808 ≤ i2) ∧ I22 r (i2 + 1) ∧ mu23 r (i2 + 1) < mu23 left3 i2)) else Q left3)))
theorem F22.calls {O : Ob} (w0 : World) (hO : Ok w0 O) (a : List Change) (A1 : Option Addr) (n2 c3 : Nat) (hp4 : Sl kChange w0 (Fr O) (.slice A1 n2 c3) a) (left : Int) (Q : Int → Prop) (h : F22.E a left Q) :
  Ret Tryz.prog 6 [.slice A1 n2 c3, vi left] w0 (fun v w' => ∃ (r0 : Int), v = vi r0 ∧ Q r0 ∧ Gr w0 w' none) := by
 unfold F22.E at h
 have H := h
 clear h
 have hc0 := Ct.init hO
 refine Ret_enter Tryz.func6 rfl 27 rfl [.tmp 4] rfl rfl ?_
 refine W_seq (W_reg (L_as (vi 0) rfl (L_nil (W_seq (W_reg (L_mv (vi left) rfl (L_mv (.slice A1 n2 c3) rfl ?_)))))))
 have hl6 := hp4.le
 refine L_pu (P_len Tryz.underlying23 A1 n2 c3 hp4.len rfl) ?_
 obtain ⟨hb7, H⟩ := H
 have hi8 := hb7 (len_le hl6)
 refine L_pu (P_sub left (a.length : Int) rfl rfl hi8) (L_as (vi (left - (a.length : Int))) rfl (L_nil (W_seq (W_seq (W_reg (L_mv (vi (left - (a.length : Int))) rfl (L_pu (P_cmp (left - (a.length : Int)) 0 (decide (left - (a.length : Int) < 0)) rfl rfl rfl) (L_nil ?_))))))))
 refine W_cond (decide (left - (a.length : Int) < 0)) rfl (fun hq9 => ?_) (fun hq9 => ?_)
 ·have H := ite_t H hq9
  exact W_seq (W_reg (L_as (vi (-1)) rfl (L_nil (W_ret ⟨[vi (-1)], ⟨_, rfl, rfl⟩, (-1), rfl, H, hc0.gr.g0⟩))))
 have H := ite_f H hq9
 refine W_skip (W_seq (W_seq (W_reg (L_as (vi 0) rfl (L_nil (W_block ?_))))))
 obtain ⟨ay, az, ae, H⟩ := H
 refine W_loop (α := Int × Int) (fun (sv__ : Int × Int) t ab => match sv__ with | (left3, i2) => ay left3 i2 ∧ Has t [(0, .slice A1 n2 c3), (1, vi left3), (5, vi i2)] ∧ Ct [] w0 ab [] O ∧ Sl kChange ab (Fr ([] ++ O)) (.slice A1 n2 c3) a) (fun (sv__ : Int × Int) => match sv__ with | (left3, i2) => az left3 i2) (left - (a.length : Int), 0) ⟨ae, (hasI rfl), hc0, hp4⟩ ?_
 rintro ⟨left3, i2⟩ _ ab ⟨ae, a0, ac, aa⟩
 obtain ⟨bh, rfl⟩ := Has.ins a0
 have H := H left3 i2 ae
 refine W_seq (W_seq (W_reg (L_mv (vi i2) rfl (L_mv (.slice A1 n2 c3) rfl ?_))))
 have a1 := aa.le
 refine L_pu (P_len Tryz.underlying23 A1 n2 c3 aa.len rfl) (L_pu (P_cmp i2 (a.length : Int) (decide (i2 < (a.length : Int))) rfl rfl rfl) (L_nil ?_))
 refine W_cond (decide (i2 < (a.length : Int))) rfl (fun ad => ?_) (fun ad => ?_)
 ·have H := ite_t H ad
  refine W_skip (W_seq (W_block (W_seq (W_reg (L_mv (.slice A1 n2 c3) rfl (L_mv (vi i2) rfl ?_))))))
  obtain ⟨au, H⟩ := H
  obtain ⟨av, bi, a2, bj, a3, a4⟩ := aa.get default (by decide) i2 au
  obtain ⟨af, ag, ah, ai, aj, ak, al, am, an, ao, ap, aq, rfl, a5, a6, a7, a8, a9, ba, bb⟩ := kChange.op a3
  refine L_pu (P_ia Tryz.underlying23 se23 A1 av n2 c3 aa.len i2 rfl a2 rfl au) (L_pu (P_lda ag52 sz52 cL (av.add (i2.toNat * 11)) [vs ((nth a i2).Id), vb ((nth a i2).Had), vs ((nth a i2).Was.Id), vi ((nth a i2).Was.Shape.Kind), .slice af ag ah, .slice ai aj ak, vb ((nth a i2).Has), vs ((nth a i2).Now.Id), vi ((nth a i2).Now.Shape.Kind), .slice al am an, .slice ao ap aq] rfl rfl a4) (L_mv (vi left3) rfl ?_))
  refine L_call go22 [.agg #[vs ((nth a i2).Id), vb ((nth a i2).Had), vs ((nth a i2).Was.Id), vi ((nth a i2).Was.Shape.Kind), .slice af ag ah, .slice ai aj ak, vb ((nth a i2).Has), vs ((nth a i2).Now.Id), vi ((nth a i2).Now.Shape.Kind), .slice al am an, .slice ao ap aq], vi left3] rfl ((F33.calls ab ac.ok (nth a i2) af ag ah ai aj ak al am an ao ap aq a5 a6 a7 a8 a9 ba bb left3 _ H).mono ?_)
  rintro _ bl ⟨r, rfl, H, aw⟩
  have ax := ac.k0 aw
  refine L_as (vi r) rfl (L_nil (W_seq (W_reg (L_mv (vi r) rfl (L_pu (P_cmp r 0 (decide (r < 0)) rfl rfl rfl) (L_nil ?_))))))
  refine W_cond (decide (r < 0)) rfl (fun ar => ?_) (fun ar => ?_)
  ·have H := ite_t H ar
   exact W_seq (W_reg (L_as (vi (-1)) rfl (L_nil (W_ret ⟨[vi (-1)], ⟨_, rfl, rfl⟩, (-1), rfl, H, ax.gr.g0⟩))))
  have H := ite_f H ar
  refine W_skip (W_reg (L_mv (vi i2) rfl ?_))
  obtain ⟨bc, H⟩ := H
  have bd : I64 (i2 + 1) := i64_succ (of_decide_eq_true ad) a1 bc
  refine L_pu (P_add i2 1 rfl rfl bd) (L_as (vi (i2 + 1)) rfl (L_nil ?_))
  obtain ⟨be, bf⟩ := H
  have bg := ac.stn aw
  exact ⟨(r, i2 + 1), bf, be, (hasI rfl), ax, (aa.st bg)⟩
 have H := ite_f H ad
 refine W_exit (xin_hit ?_)
 exact W_seq (W_reg (L_mv (vi left3) rfl (L_as (vi left3) rfl (L_nil (W_ret ⟨[vi left3], ⟨_, rfl, rfl⟩, left3, rfl, H, ac.gr.g0⟩)))))
end
section
open Go.RowKit
def F120.E (a : Pt) (Q : Pt → Prop) : Prop :=
 Q a
theorem F120.calls {O : Ob} (w0 : World) (hO : Ok w0 O) (a : Pt) (Q : Pt → Prop) (h : F120.E a Q) :
  Ret Tryz.prog 124 [.agg #[vi a.X, vi a.Y]] w0 (fun v w' => ∃ (r0 : Pt), v = .agg #[vi r0.X, vi r0.Y] ∧ Q r0 ∧ Gr w0 w' none) := by
 unfold F120.E at h
 have H := h
 clear h
 have hc0 := Ct.init hO
 refine Ret_enter Tryz.func124 rfl 11 rfl [.cell 2 114] rfl rfl ?_
 refine W_seq (W_reg (L_box [vi a.X, vi a.Y] rfl fun w1 b2 hl4 hu5 g3 hx6 => ?_))
 have h8 := Fb.mk hc0.ok hl4 hx6
 have hc9 := hc0.k0 g3
 refine L_alloc [.int .i64 0, .int .i64 0] ze114 fun a6 ae af hu14 ag ao => ?_
 have ah := hc9.own ag (some ae) (oglt af hu14)
 refine L_nil (W_seq (W_reg (L_alloc [.int .i64 0, .int .i64 0] ze114 fun a7 aa ai hu22 ab ap => ?_)))
 have ac := ah.own ab (some aa) (oglt ai hu22)
 refine L_nil (W_seq (W_reg (L_pu (P_fa fa165_0 ⟨b2, 0, none⟩ ⟨b2, 0, none⟩ rfl rfl) ?_)))
 have aq := hc9.stown _ ag (oge af)
 have ar := ah.stown _ ab (oge ai)
 have aj := ((h8.st aq).st ar)
 refine L_pu (P_ld ag3 cL ⟨b2, 0, none⟩ (vi a.X) rfl (aj.cell rfl)) (L_pu (P_fa fa114_0 ⟨aa, 0, none⟩ ⟨aa, 0, none⟩ rfl rfl) (L_stb aa 0 [vi 0, vi 0] [vi a.X] [vi a.X, vi 0] rfl ap rfl sz3 rfl rfl rfl fun a8 ad au => ?_))
 have ak := ac.wr 0 rfl ad
 refine L_nil (W_seq (W_reg (L_pu (P_fa fa165_1 ⟨b2, 0, none⟩ ⟨b2, 1, none⟩ rfl rfl) ?_)))
 have av := ac.stw 0 rfl ad
 have aw := (aj.st av)
 refine L_pu (P_ld ag3 cL ⟨b2, 1, none⟩ (vi a.Y) rfl (aw.cell rfl)) (L_pu (P_fa fa114_1 ⟨aa, 0, none⟩ ⟨aa, 1, none⟩ rfl rfl) (L_stb aa 1 [vi a.X, vi 0] [vi a.Y] [vi a.X, vi a.Y] rfl au rfl sz3 rfl rfl rfl fun a9 al ax => ?_))
 have ay := ak.wr 0 rfl al
 refine L_nil (W_seq (W_reg (L_pu (P_lda ag114 sz114 cL ⟨aa, 0, none⟩ [vi a.X, vi a.Y] rfl rfl (ax.cells (off := 0) rfl)) ?_)))
 have az := (ak.bm (ac.bm (ao.k0 ab) 1 0 rfl rfl rfl ad) 1 0 rfl rfl rfl al)
 refine L_stb ae 0 [vi 0, vi 0] [vi a.X, vi a.Y] [vi a.X, vi a.Y] rfl az rfl sz114 rfl rfl rfl fun ba a0 a1 => ?_
 have am := ay.wr 1 rfl a0
 refine L_nil (W_ret ?_)
 have a2 := am.bgv a1 1 rfl
 have an := am.drop 1 rfl
 have a3 := an.drop 0 rfl
 have a4 := an.std 0 rfl
 have a5 := (a2.st a4)
 exact ⟨[.agg #[vi a.X, vi a.Y]], ⟨_, _, rfl, a5.1.res rfl ag114 sz114, rfl⟩, a, rfl, H, a3.gr.g0⟩
end
section
open Go.RowKit
def F102.E (a : List Pt) (Q : List Pt → Prop) : Prop :=
 ((0 : Int) ≤ (a.length : Int) ∧ (a.length : Int) ≤ (268435456 : Int)) ∧ (∃ (I41 : (List Pt) → Int → Prop) (mu42 : (List Pt) → Int → Nat), I41 (List.replicate (a.length : Int).toNat ((⟨0, 0⟩ : Pt) : Pt)) 0 ∧ ∀ (xs2 : List Pt) (i2 : Int), I41 xs2 i2 → (if decide (i2 < (a.length : Int)) then ((0 : Int) ≤ i2 ∧ i2 < (a.length : Int)) ∧ F120.E (nth a i2) (fun r => ((0 : Int) ≤ i2 ∧ i2 < (xs2.length : Int)) ∧ (-9223372036854775808 ≤ i2) ∧ I41 (xs2.set i2.toNat r) (i2 + 1) ∧ mu42 (xs2.set i2.toNat r) (i2 + 1) < mu42 xs2 i2) else Q xs2))
theorem F102.calls {O : Ob} (w0 : World) (hO : Ok w0 O) (a : List Pt) (A1 : Option Addr) (n2 c3 : Nat) (hp4 : Sl kPt w0 (Fr O) (.slice A1 n2 c3) a) (Q : List Pt → Prop) (h : F102.E a Q) :
  Ret Tryz.prog 97 [.slice A1 n2 c3] w0 (fun v w' => ∃ (r0 : List Pt) (A0 : Option Addr) (n0 c0 : Nat), v = .slice A0 n0 c0 ∧ Q r0 ∧ Gr w0 w' none ∧ Ok w' ([bk A0] ++ O) ∧ (∀ b, some b ∈ [bk A0] → w0.heap.size ≤ b) ∧ Ow kPt 114 w' ([bk A0] ++ O) (.slice A0 n0 c0) r0) := by
 unfold F102.E at h
 have H := h
 clear h
 have hc0 := Ct.init hO
 refine Ret_enter Tryz.func97 rfl 23 rfl [.tmp 2] rfl rfl ?_
 refine W_seq (W_reg (L_as (.slice none 0 0) rfl (L_nil (W_seq (W_reg (L_mv (.slice A1 n2 c3) rfl ?_))))))
 have hl6 := hp4.le
 refine L_pu (P_len Tryz.underlying44 A1 n2 c3 hp4.len rfl) ?_
 obtain ⟨hb7, H⟩ := H
 refine L_make (kd := kPt) ei56 hc0 ((⟨0, 0⟩ : Pt) : Pt) ((kPt.mk _ _ (⟨0, 0⟩ : Pt))) (a.length : Int) rfl rfl hb7 fun w8 A9 aa ab bd hr13 ak au => ?_
 refine L_as (.slice A9 aa ab) rfl (L_nil (W_seq (W_seq (W_reg (L_as (vi 0) rfl (L_nil (W_block ?_)))))))
 obtain ⟨av, aw, ag, H⟩ := H
 refine W_loop (α := (List Pt) × Int) (fun (sv__ : (List Pt) × Int) t ad => match sv__ with | (xs2, i2) => av xs2 i2 ∧ Has t [(0, .slice A1 n2 c3), (3, .slice A9 aa ab), (4, vi i2)] ∧ Ct [] w0 ad [bk A9] O ∧ Sl kPt ad (Fr ([bk A9] ++ O)) (.slice A1 n2 c3) a ∧ Ow kPt 114 ad ([bk A9] ++ O) (.slice A9 aa ab) xs2) (fun (sv__ : (List Pt) × Int) => match sv__ with | (xs2, i2) => aw xs2 i2) ((List.replicate (a.length : Int).toNat ((⟨0, 0⟩ : Pt) : Pt)), 0) ⟨ag, (hasI rfl), ak, (hp4.st ak.st), au⟩ ?_
 rintro ⟨xs2, i2⟩ _ ad ⟨ag, ax, ac, ae, al⟩
 obtain ⟨be, rfl⟩ := Has.ins ax
 have H := H xs2 i2 ag
 refine W_seq (W_seq (W_reg (L_mv (vi i2) rfl (L_mv (.slice A1 n2 c3) rfl ?_))))
 have ay := ae.le
 refine L_pu (P_len Tryz.underlying44 A1 n2 c3 ae.len rfl) (L_pu (P_cmp i2 (a.length : Int) (decide (i2 < (a.length : Int))) rfl rfl rfl) (L_nil ?_))
 refine W_cond (decide (i2 < (a.length : Int))) rfl (fun af => ?_) (fun af => ?_)
 ·have H := ite_t H af
  refine W_skip (W_seq (W_block (W_reg (L_mv (.slice A9 aa ab) rfl (L_mv (vi i2) rfl (L_mv (.slice A1 n2 c3) rfl (L_mv (vi i2) rfl ?_)))))))
  obtain ⟨am, H⟩ := H
  obtain ⟨an, bf, az, bg, a0, a1⟩ := ae.get default (by decide) i2 am
  obtain rfl := kPt.op a0
  refine L_pu (P_ia Tryz.underlying44 se44 A1 an n2 c3 ae.len i2 rfl az rfl am) (L_pu (P_lda ag165 sz165 cL (an.add (i2.toNat * 2)) [vi ((nth a i2).X), vi ((nth a i2).Y)] rfl rfl a1) ?_)
  refine L_call go124 [.agg #[vi ((nth a i2).X), vi ((nth a i2).Y)]] rfl ((F120.calls ad ac.ok (nth a i2) _ H).mono ?_)
  rintro _ bh ⟨r, rfl, H, ah⟩
  have ao := ac.k0 ah
  obtain ⟨ai, H⟩ := H
  have aj := (al.sn ah)
  obtain ⟨ap, bi, aq, a2, a3⟩ := aj.get default (by decide) i2 ai
  obtain rfl := kPt.op a2
  refine L_pu (P_ia Tryz.underlying56 se56 A9 ap aa ab aj.len i2 rfl aq rfl ai) (L_ste0 A9 aa ab xs2 aj i2 ai ap aq 0 rfl [vi r.X, vi r.Y] rfl sz114 rfl r [vi ((nth xs2 i2).X), vi ((nth xs2 i2).Y)] [vi r.X, vi r.Y] a3 rfl rfl (kPt.mk _ _ r) fun bj ar a4 => ?_)
  have a5 := ao.wr 0 rfl ar
  refine L_nil (W_reg (L_mv (vi i2) rfl ?_))
  obtain ⟨a6, H⟩ := H
  have a7 : I64 (i2 + 1) := i64_succ (of_decide_eq_true af) ay a6
  refine L_pu (P_add i2 1 rfl rfl a7) (L_as (vi (i2 + 1)) rfl (L_nil ?_))
  obtain ⟨a8, a9⟩ := H
  have ba := ac.stn ah
  have bb := ao.stw 0 rfl ar
  have bc := ((ae.st ba).st bb)
  exact ⟨((xs2.set i2.toNat r), i2 + 1), a9, a8, (hasI rfl), a5, bc, a4⟩
 have H := ite_f H af
 refine W_exit (xin_hit ?_)
 exact W_seq (W_reg (L_mv (.slice A9 aa ab) rfl (L_as (.slice A9 aa ab) rfl (L_nil (W_ret ⟨[.slice A9 aa ab], ⟨_, rfl, rfl⟩, xs2, A9, aa, ab, rfl, H, ac.gr.g0, ac.ok, ac.ge, al⟩)))))
end
section
open Go.RowKit
def F51.E (a : Shape) (Q : Shape → Prop) : Prop :=
 F102.E a.Pts (fun r => Q (⟨a.Kind, r⟩ : Shape))
theorem F51.calls {O : Ob} (w0 : World) (hO : Ok w0 O) (a : Shape) (A1 : Option Addr) (n2 c3 : Nat) (hp4 : Sl kPt w0 (Fr O) (.slice A1 n2 c3) a.Pts) (Q : Shape → Prop) (h : F51.E a Q) :
  Ret Tryz.prog 62 [.agg #[vi a.Kind, .slice A1 n2 c3]] w0 (fun v w' => ∃ (r0 : Shape) (A0 : Option Addr) (n0 c0 : Nat), v = .agg #[vi r0.Kind, .slice A0 n0 c0] ∧ Q r0 ∧ Gr w0 w' none ∧ Ok w' ([bk A0] ++ O) ∧ (∀ b, some b ∈ [bk A0] → w0.heap.size ≤ b) ∧ Ow kPt 114 w' ([bk A0] ++ O) (.slice A0 n0 c0) r0.Pts) := by
 unfold F51.E at h
 have H := h
 clear h
 have hc0 := Ct.init hO
 refine Ret_enter Tryz.func62 rfl 12 rfl [.cell 2 58] rfl rfl ?_
 refine W_seq (W_reg (L_box [vi a.Kind, .slice A1 n2 c3] rfl fun w6 b7 hl9 hu10 g8 az => ?_))
 have a0 := Fb.mk hc0.ok hl9 az
 have ao := hc0.k0 g8
 refine L_alloc [.int .i64 0, .slice none 0 0] ze58 fun bl ap aq hu19 ar a1 => ?_
 have au := ao.own ar (some ap) (oglt aq hu19)
 refine L_nil (W_seq (W_reg (L_alloc [.int .i64 0, .slice none 0 0] ze58 fun bn aa av hu27 ae a2 => ?_)))
 have af := au.own ae (some aa) (oglt av hu27)
 refine L_nil (W_seq (W_reg (L_pu (P_fa fa46_0 ⟨b7, 0, none⟩ ⟨b7, 0, none⟩ rfl rfl) ?_)))
 have a3 := ao.stown _ ar (oge aq)
 have a4 := au.stown _ ae (oge av)
 have aw := ((a0.st a3).st a4)
 refine L_pu (P_ld ag3 cL ⟨b7, 0, none⟩ (vi a.Kind) rfl (aw.cell rfl)) (L_pu (P_fa fa58_0 ⟨aa, 0, none⟩ ⟨aa, 0, none⟩ rfl rfl) (L_stb aa 0 [vi 0, .slice none 0 0] [vi a.Kind] [vi a.Kind, .slice none 0 0] rfl a2 rfl sz3 rfl rfl rfl fun a5 ag a6 => ?_))
 have ah := af.wr 0 rfl ag
 refine L_nil (W_seq (W_reg (L_pu (P_fa fa46_1 ⟨b7, 0, none⟩ ⟨b7, 1, none⟩ rfl rfl) ?_)))
 have a7 := af.stw 0 rfl ag
 have a8 := (aw.st a7)
 refine L_pu (P_ld ag44 cL ⟨b7, 1, none⟩ (.slice A1 n2 c3) rfl (a8.cell rfl)) ?_
 refine L_call go97 [.slice A1 n2 c3] rfl ((F102.calls a5 ah.ok a.Pts A1 n2 c3 (hp4.st ah.st) _ H).mono ?_)
 rintro _ bo ⟨r, ab, ac, ad, rfl, H, ai, a9, ba, bb⟩
 have aj := ah.owns ai a9 ba
 refine L_pu (P_fa fa58_1 ⟨aa, 0, none⟩ ⟨aa, 1, none⟩ rfl rfl) ?_
 have bc := (a6.k0 ai)
 refine L_stb aa 1 [vi a.Kind, .slice none 0 0] [.slice ab ac ad] [vi a.Kind, .slice ab ac ad] rfl bc rfl sz56 rfl rfl rfl fun bp ak bd => ?_
 have ax := aj.wr 1 rfl ak
 refine L_nil (W_seq (W_reg (L_pu (P_lda ag58 sz58 cL ⟨aa, 0, none⟩ [vi a.Kind, .slice ab ac ad] rfl rfl (bd.cells (off := 0) rfl)) ?_)))
 have be := (aj.bm ((af.bm (a1.k0 ae) 1 0 rfl rfl rfl ag).k0 ai) 2 1 rfl rfl rfl ak)
 refine L_stb ap 0 [vi 0, .slice none 0 0] [vi a.Kind, .slice ab ac ad] [vi a.Kind, .slice ab ac ad] rfl be rfl sz58 rfl rfl rfl fun bq ay bf => ?_
 have al := ax.wr 2 rfl ay
 refine L_nil (W_ret ?_)
 have bg := al.bgv bf 2 rfl
 have am := al.drop 2 rfl
 have an := am.drop 1 rfl
 have bh := am.std 1 rfl
 have bi := (bg.st bh)
 have bj := (am.sd (al.sd (ax.sw (aj.sw bb 0 1 rfl rfl rfl ak) 0 2 rfl rfl rfl ay) 0 2 rfl rfl rfl) 0 1 rfl rfl rfl)
 exact ⟨[.agg #[vi a.Kind, .slice ab ac ad]], ⟨_, _, rfl, bi.1.res rfl ag58 sz58, rfl⟩, (⟨a.Kind, r⟩ : Shape), ab, ac, ad, rfl, H, an.gr.g0, an.ok, an.ge, bj⟩
end
section
open Go.RowKit
def F103.E (a : Tag) (Q : Tag → Prop) : Prop :=
 Q a
theorem F103.calls {O : Ob} (w0 : World) (hO : Ok w0 O) (a : Tag) (hs1 : Lim a.Key) (hs2 : Lim a.Val) (Q : Tag → Prop) (h : F103.E a Q) :
  Ret Tryz.prog 98 [.agg #[vs a.Key, vs a.Val]] w0 (fun v w' => ∃ (r0 : Tag), v = .agg #[vs r0.Key, vs r0.Val] ∧ Q r0 ∧ Gr w0 w' none ∧ Lim r0.Key ∧ Lim r0.Val) := by
 unfold F103.E at h
 have H := h
 clear h
 have hc0 := Ct.init hO
 refine Ret_enter Tryz.func98 rfl 11 rfl [.cell 2 106] rfl rfl ?_
 refine W_seq (W_reg (L_box [vs a.Key, vs a.Val] rfl fun w3 b4 hl6 hu7 g5 hx8 => ?_))
 have ap := Fb.mk hc0.ok hl6 hx8
 have ae := hc0.k0 g5
 refine L_alloc [vs [], vs []] ze106 fun a8 af ag hu16 ah aq => ?_
 have ai := ae.own ah (some af) (oglt ag hu16)
 refine L_nil (W_seq (W_reg (L_alloc [vs [], vs []] ze106 fun a9 aa aj hu24 ab ar => ?_)))
 have ac := ai.own ab (some aa) (oglt aj hu24)
 refine L_nil (W_seq (W_reg (L_pu (P_fa fa135_0 ⟨b4, 0, none⟩ ⟨b4, 0, none⟩ rfl rfl) ?_)))
 have au := ae.stown _ ah (oge ag)
 have av := ai.stown _ ab (oge aj)
 have ak := ((ap.st au).st av)
 refine L_pu (P_ld ag9 cL ⟨b4, 0, none⟩ (vs a.Key) rfl (ak.cell rfl)) (L_pu (P_fa fa106_0 ⟨aa, 0, none⟩ ⟨aa, 0, none⟩ rfl rfl) (L_stb aa 0 [vs ([] : Str), vs ([] : Str)] [vs a.Key] [vs a.Key, vs ([] : Str)] rfl ar rfl sz9 rfl rfl rfl fun ba ad aw => ?_))
 have al := ac.wr 0 rfl ad
 refine L_nil (W_seq (W_reg (L_pu (P_fa fa135_1 ⟨b4, 0, none⟩ ⟨b4, 1, none⟩ rfl rfl) ?_)))
 have ax := ac.stw 0 rfl ad
 have ay := (ak.st ax)
 refine L_pu (P_ld ag9 cL ⟨b4, 1, none⟩ (vs a.Val) rfl (ay.cell rfl)) (L_pu (P_fa fa106_1 ⟨aa, 0, none⟩ ⟨aa, 1, none⟩ rfl rfl) (L_stb aa 1 [vs a.Key, vs ([] : Str)] [vs a.Val] [vs a.Key, vs a.Val] rfl aw rfl sz9 rfl rfl rfl fun bb am az => ?_))
 have a0 := al.wr 0 rfl am
 refine L_nil (W_seq (W_reg (L_pu (P_lda ag106 sz106 cL ⟨aa, 0, none⟩ [vs a.Key, vs a.Val] rfl rfl (az.cells (off := 0) rfl)) ?_)))
 have a1 := (al.bm (ac.bm (aq.k0 ab) 1 0 rfl rfl rfl ad) 1 0 rfl rfl rfl am)
 refine L_stb af 0 [vs ([] : Str), vs ([] : Str)] [vs a.Key, vs a.Val] [vs a.Key, vs a.Val] rfl a1 rfl sz106 rfl rfl rfl fun bc a2 a3 => ?_
 have an := a0.wr 1 rfl a2
 refine L_nil (W_ret ?_)
 have a4 := an.bgv a3 1 rfl
 have ao := an.drop 1 rfl
 have a5 := ao.drop 0 rfl
 have a6 := ao.std 0 rfl
 have a7 := (a4.st a6)
 exact ⟨[.agg #[vs a.Key, vs a.Val]], ⟨_, _, rfl, a7.1.res rfl ag106 sz106, rfl⟩, a, rfl, H, a5.gr.g0, hs1, hs2⟩
end
section
open Go.RowKit
def F70.E (a : List Tag) (Q : List Tag → Prop) : Prop :=
 ((0 : Int) ≤ (a.length : Int) ∧ (a.length : Int) ≤ (268435456 : Int)) ∧ (∃ (I41 : (List Tag) → Int → Prop) (mu42 : (List Tag) → Int → Nat), I41 (List.replicate (a.length : Int).toNat ((⟨([] : Str), ([] : Str)⟩ : Tag) : Tag)) 0 ∧ ∀ (xs2 : List Tag) (i2 : Int), I41 xs2 i2 → (if decide (i2 < (a.length : Int)) then ((0 : Int) ≤ i2 ∧ i2 < (a.length : Int)) ∧ F103.E (nth a i2) (fun r => ((0 : Int) ≤ i2 ∧ i2 < (xs2.length : Int)) ∧ (-9223372036854775808 ≤ i2) ∧ I41 (xs2.set i2.toNat r) (i2 + 1) ∧ mu42 (xs2.set i2.toNat r) (i2 + 1) < mu42 xs2 i2) else Q xs2))
theorem F70.calls {O : Ob} (w0 : World) (hO : Ok w0 O) (a : List Tag) (A1 : Option Addr) (n2 c3 : Nat) (hp4 : Sl kTag w0 (Fr O) (.slice A1 n2 c3) a) (Q : List Tag → Prop) (h : F70.E a Q) :
  Ret Tryz.prog 63 [.slice A1 n2 c3] w0 (fun v w' => ∃ (r0 : List Tag) (A0 : Option Addr) (n0 c0 : Nat), v = .slice A0 n0 c0 ∧ Q r0 ∧ Gr w0 w' none ∧ Ok w' ([bk A0] ++ O) ∧ (∀ b, some b ∈ [bk A0] → w0.heap.size ≤ b) ∧ Ow kTag 106 w' ([bk A0] ++ O) (.slice A0 n0 c0) r0) := by
 unfold F70.E at h
 have H := h
 clear h
 have hc0 := Ct.init hO
 refine Ret_enter Tryz.func63 rfl 23 rfl [.tmp 2] rfl rfl ?_
 refine W_seq (W_reg (L_as (.slice none 0 0) rfl (L_nil (W_seq (W_reg (L_mv (.slice A1 n2 c3) rfl ?_))))))
 have hl6 := hp4.le
 refine L_pu (P_len Tryz.underlying47 A1 n2 c3 hp4.len rfl) ?_
 obtain ⟨hb7, H⟩ := H
 refine L_make (kd := kTag) ei59 hc0 ((⟨([] : Str), ([] : Str)⟩ : Tag) : Tag) ((kTag.mk _ _ (⟨([] : Str), ([] : Str)⟩ : Tag) (by decide) (by decide))) (a.length : Int) rfl rfl hb7 fun w8 A9 aa ab bh hr13 ak au => ?_
 refine L_as (.slice A9 aa ab) rfl (L_nil (W_seq (W_seq (W_reg (L_as (vi 0) rfl (L_nil (W_block ?_)))))))
 obtain ⟨av, aw, ag, H⟩ := H
 refine W_loop (α := (List Tag) × Int) (fun (sv__ : (List Tag) × Int) t ad => match sv__ with | (xs2, i2) => av xs2 i2 ∧ Has t [(0, .slice A1 n2 c3), (3, .slice A9 aa ab), (4, vi i2)] ∧ Ct [] w0 ad [bk A9] O ∧ Sl kTag ad (Fr ([bk A9] ++ O)) (.slice A1 n2 c3) a ∧ Ow kTag 106 ad ([bk A9] ++ O) (.slice A9 aa ab) xs2) (fun (sv__ : (List Tag) × Int) => match sv__ with | (xs2, i2) => aw xs2 i2) ((List.replicate (a.length : Int).toNat ((⟨([] : Str), ([] : Str)⟩ : Tag) : Tag)), 0) ⟨ag, (hasI rfl), ak, (hp4.st ak.st), au⟩ ?_
 rintro ⟨xs2, i2⟩ _ ad ⟨ag, ax, ac, ae, al⟩
 obtain ⟨bi, rfl⟩ := Has.ins ax
 have H := H xs2 i2 ag
 refine W_seq (W_seq (W_reg (L_mv (vi i2) rfl (L_mv (.slice A1 n2 c3) rfl ?_))))
 have ay := ae.le
 refine L_pu (P_len Tryz.underlying47 A1 n2 c3 ae.len rfl) (L_pu (P_cmp i2 (a.length : Int) (decide (i2 < (a.length : Int))) rfl rfl rfl) (L_nil ?_))
 refine W_cond (decide (i2 < (a.length : Int))) rfl (fun af => ?_) (fun af => ?_)
 ·have H := ite_t H af
  refine W_skip (W_seq (W_block (W_reg (L_mv (.slice A9 aa ab) rfl (L_mv (vi i2) rfl (L_mv (.slice A1 n2 c3) rfl (L_mv (vi i2) rfl ?_)))))))
  obtain ⟨am, H⟩ := H
  obtain ⟨an, bj, az, bl, a0, a1⟩ := ae.get default (by decide) i2 am
  obtain ⟨rfl, a2, a3⟩ := kTag.op a0
  refine L_pu (P_ia Tryz.underlying47 se47 A1 an n2 c3 ae.len i2 rfl az rfl am) (L_pu (P_lda ag135 sz135 cL (an.add (i2.toNat * 2)) [vs ((nth a i2).Key), vs ((nth a i2).Val)] rfl rfl a1) ?_)
  refine L_call go98 [.agg #[vs ((nth a i2).Key), vs ((nth a i2).Val)]] rfl ((F103.calls ad ac.ok (nth a i2) a2 a3 _ H).mono ?_)
  rintro _ bm ⟨r, rfl, H, ah, a4, a5⟩
  have ao := ac.k0 ah
  obtain ⟨ai, H⟩ := H
  have aj := (al.sn ah)
  obtain ⟨ap, bn, aq, a6, a7⟩ := aj.get default (by decide) i2 ai
  obtain ⟨rfl, bo, bp⟩ := kTag.op a6
  refine L_pu (P_ia Tryz.underlying59 se59 A9 ap aa ab aj.len i2 rfl aq rfl ai) (L_ste0 A9 aa ab xs2 aj i2 ai ap aq 0 rfl [vs r.Key, vs r.Val] rfl sz106 rfl r [vs ((nth xs2 i2).Key), vs ((nth xs2 i2).Val)] [vs r.Key, vs r.Val] a7 rfl rfl (kTag.mk _ _ r a4 a5) fun bq ar a8 => ?_)
  have a9 := ao.wr 0 rfl ar
  refine L_nil (W_reg (L_mv (vi i2) rfl ?_))
  obtain ⟨ba, H⟩ := H
  have bb : I64 (i2 + 1) := i64_succ (of_decide_eq_true af) ay ba
  refine L_pu (P_add i2 1 rfl rfl bb) (L_as (vi (i2 + 1)) rfl (L_nil ?_))
  obtain ⟨bc, bd⟩ := H
  have be := ac.stn ah
  have bf := ao.stw 0 rfl ar
  have bg := ((ae.st be).st bf)
  exact ⟨((xs2.set i2.toNat r), i2 + 1), bd, bc, (hasI rfl), a9, bg, a8⟩
 have H := ite_f H af
 refine W_exit (xin_hit ?_)
 exact W_seq (W_reg (L_mv (.slice A9 aa ab) rfl (L_as (.slice A9 aa ab) rfl (L_nil (W_ret ⟨[.slice A9 aa ab], ⟨_, rfl, rfl⟩, xs2, A9, aa, ab, rfl, H, ac.gr.g0, ac.ok, ac.ge, al⟩)))))
end
section
open Go.RowKit
def F71.E (a : Feat) (Q : Feat → Prop) : Prop :=
 F51.E a.Shape (fun r => F70.E a.Tags (fun r2 => Q (⟨a.Id, r, r2⟩ : Feat)))
theorem F71.calls {O : Ob} (w0 : World) (hO : Ok w0 O) (a : Feat) (A2 : Option Addr) (n3 c4 : Nat) (A7 : Option Addr) (n8 c9 : Nat) (hs1 : Lim a.Id) (hp5 : Sl kPt w0 (Fr O) (.slice A2 n3 c4) a.Shape.Pts) (bb : Sl kTag w0 (Fr O) (.slice A7 n8 c9) a.Tags) (Q : Feat → Prop) (h : F71.E a Q) :
  Ret Tryz.prog 29 [.agg #[vs a.Id, vi a.Shape.Kind, .slice A2 n3 c4, .slice A7 n8 c9]] w0 (fun v w' => ∃ (r0 : Feat) (A0 : Option Addr) (n0 c0 : Nat) (A2 : Option Addr) (n2 c2 : Nat), v = .agg #[vs r0.Id, vi r0.Shape.Kind, .slice A0 n0 c0, .slice A2 n2 c2] ∧ Q r0 ∧ Gr w0 w' none ∧ Ok w' ([bk A0, bk A2] ++ O) ∧ (∀ b, some b ∈ [bk A0, bk A2] → w0.heap.size ≤ b) ∧ Lim r0.Id ∧ Ow kPt 114 w' ([bk A0, bk A2] ++ O) (.slice A0 n0 c0) r0.Shape.Pts ∧ Ow kTag 106 w' ([bk A0, bk A2] ++ O) (.slice A2 n2 c2) r0.Tags) := by
 unfold F71.E at h
 have H := h
 clear h
 have hc0 := Ct.init hO
 refine Ret_enter Tryz.func29 rfl 16 rfl [.cell 2 61] rfl rfl ?_
 refine W_seq (W_reg (L_box [vs a.Id, vi a.Shape.Kind, .slice A2 n3 c4, .slice A7 n8 c9] rfl fun ca ab bc hu16 bd be => ?_))
 have bf := Fb.mk hc0.ok bc be
 have a1 := hc0.k0 bd
 refine L_alloc [vs [], .int .i64 0, .slice none 0 0, .slice none 0 0] ze61 fun cb a2 a3 hu25 a4 bg => ?_
 have a5 := a1.own a4 (some a2) (oglt a3 hu25)
 refine L_nil (W_seq (W_reg (L_alloc [vs [], .int .i64 0, .slice none 0 0, .slice none 0 0] ze61 fun cc aa a6 hu33 au bh => ?_)))
 have av := a5.own au (some aa) (oglt a6 hu33)
 refine L_nil (W_seq (W_reg (L_pu (P_fa fa49_0 ⟨ab, 0, none⟩ ⟨ab, 0, none⟩ rfl rfl) ?_)))
 have bi := a1.stown _ a4 (oge a3)
 have bj := a5.stown _ au (oge a6)
 have a7 := ((bf.st bi).st bj)
 refine L_pu (P_ld ag9 cL ⟨ab, 0, none⟩ (vs a.Id) rfl (a7.cell rfl)) (L_pu (P_fa fa61_0 ⟨aa, 0, none⟩ ⟨aa, 0, none⟩ rfl rfl) (L_stb aa 0 [vs ([] : Str), vi 0, .slice none 0 0, .slice none 0 0] [vs a.Id] [vs a.Id, vi 0, .slice none 0 0, .slice none 0 0] rfl bh rfl sz9 rfl rfl rfl fun bl aw bn => ?_))
 have ai := av.wr 0 rfl aw
 refine L_nil (W_seq (W_reg (L_pu (P_fa fa49_1 ⟨ab, 0, none⟩ ⟨ab, 1, none⟩ rfl rfl) ?_)))
 have bo := av.stw 0 rfl aw
 have a8 := (a7.st bo)
 refine L_pu (P_lda ag46 sz46 cL ⟨ab, 1, none⟩ [vi a.Shape.Kind, .slice A2 n3 c4] rfl rfl (a8.cells (off := 1) rfl)) ?_
 refine L_call go62 [.agg #[vi a.Shape.Kind, .slice A2 n3 c4]] rfl ((F51.calls bl ai.ok a.Shape A2 n3 c4 (hp5.st ai.st) _ H).mono ?_)
 rintro _ cd ⟨r, ac, ad, ae, rfl, H, aj, bp, a9, bq⟩
 have ak := ai.owns aj bp a9
 refine L_pu (P_fa fa61_1 ⟨aa, 0, none⟩ ⟨aa, 1, none⟩ rfl rfl) ?_
 have br := (bn.k0 aj)
 refine L_stb aa 1 [vs a.Id, vi 0, .slice none 0 0, .slice none 0 0] [vi r.Kind, .slice ac ad ae] [vs a.Id, vi r.Kind, .slice ac ad ae, .slice none 0 0] rfl br rfl sz58 rfl rfl rfl fun bs al bt => ?_
 have ax := ak.wr 1 rfl al
 refine L_nil (W_seq (W_reg (L_pu (P_fa fa49_2 ⟨ab, 0, none⟩ ⟨ab, 3, none⟩ rfl rfl) ?_)))
 have bu := ai.stos aj a9
 have bv := ak.stw 1 rfl al
 have bw := ((a8.st bu).st bv)
 refine L_pu (P_ld ag47 cL ⟨ab, 3, none⟩ (.slice A7 n8 c9) rfl (bw.cell rfl)) ?_
 refine L_call go63 [.slice A7 n8 c9] rfl ((F70.calls bs ax.ok a.Tags A7 n8 c9 (bb.st ax.st) _ H).mono ?_)
 rintro _ ce ⟨r2, af, ag, ah, rfl, H, am, bx, ba, bz⟩
 have an := ax.owns am bx ba
 refine L_pu (P_fa fa61_2 ⟨aa, 0, none⟩ ⟨aa, 3, none⟩ rfl rfl) ?_
 have b0 := (bt.k0 am)
 refine L_stb aa 3 [vs a.Id, vi r.Kind, .slice ac ad ae, .slice none 0 0] [.slice af ag ah] [vs a.Id, vi r.Kind, .slice ac ad ae, .slice af ag ah] rfl b0 rfl sz59 rfl rfl rfl fun cf ao b1 => ?_
 have ay := an.wr 2 rfl ao
 refine L_nil (W_seq (W_reg (L_pu (P_lda ag61 sz61 cL ⟨aa, 0, none⟩ [vs a.Id, vi r.Kind, .slice ac ad ae, .slice af ag ah] rfl rfl (b1.cells (off := 0) rfl)) ?_)))
 have b2 := (an.bm ((ak.bm ((av.bm (bg.k0 au) 1 0 rfl rfl rfl aw).k0 aj) 2 1 rfl rfl rfl al).k0 am) 3 2 rfl rfl rfl ao)
 refine L_stb a2 0 [vs ([] : Str), vi 0, .slice none 0 0, .slice none 0 0] [vs a.Id, vi r.Kind, .slice ac ad ae, .slice af ag ah] [vs a.Id, vi r.Kind, .slice ac ad ae, .slice af ag ah] rfl b2 rfl sz61 rfl rfl rfl fun cg az b3 => ?_
 have ap := ay.wr 3 rfl az
 refine L_nil (W_ret ?_)
 have b4 := ap.bgv b3 3 rfl
 have aq := ap.drop 3 rfl
 have ar := aq.drop 2 rfl
 have a0 := ar.perm (.swap _ _ _)
 have b5 := aq.std 2 rfl
 have b6 := ar.stp (.swap _ _ _)
 have b7 := ((b4.st b5).st b6)
 have b8 := (ar.sp (aq.sd (ap.sd (ay.sw (an.sw ((ak.sw bq 0 1 rfl rfl rfl al).sos am ba) 1 2 rfl rfl rfl ao) 1 3 rfl rfl rfl az) 1 3 rfl rfl rfl) 1 2 rfl rfl rfl) (.swap _ _ _))
 have b9 := (ar.sp (aq.sd (ap.sd (ay.sw (an.sw bz 0 2 rfl rfl rfl ao) 0 3 rfl rfl rfl az) 0 3 rfl rfl rfl) 0 2 rfl rfl rfl) (.swap _ _ _))
 exact ⟨[.agg #[vs a.Id, vi r.Kind, .slice ac ad ae, .slice af ag ah]], ⟨_, _, rfl, b7.1.res rfl ag61 sz61, rfl⟩, (⟨a.Id, r, r2⟩ : Feat), ac, ad, ae, af, ag, ah, rfl, H, a0.gr.g0, a0.ok, a0.ge, hs1, b8, b9⟩
end
section
open Go.RowKit
def F52.E (a : List Feat) (Q : List Feat → Prop) : Prop :=
 ((0 : Int) ≤ (a.length : Int) ∧ (a.length : Int) ≤ (268435456 : Int)) ∧ (∃ (I62 : (List Feat) → Int → Prop) (mu63 : (List Feat) → Int → Nat), I62 (List.replicate (a.length : Int).toNat ((⟨([] : Str), (⟨0, []⟩ : Shape), []⟩ : Feat) : Feat)) 0 ∧ ∀ (xs2 : List Feat) (i2 : Int), I62 xs2 i2 → (if decide (i2 < (a.length : Int)) then ((0 : Int) ≤ i2 ∧ i2 < (a.length : Int)) ∧ F71.E (nth a i2) (fun r => ((0 : Int) ≤ i2 ∧ i2 < (xs2.length : Int)) ∧ (-9223372036854775808 ≤ i2) ∧ I62 (xs2.set i2.toNat r) (i2 + 1) ∧ mu63 (xs2.set i2.toNat r) (i2 + 1) < mu63 xs2 i2) else Q xs2))
theorem F52.calls {O : Ob} (w0 : World) (hO : Ok w0 O) (a : List Feat) (A1 : Option Addr) (n2 c3 : Nat) (hp4 : Sl kFeat w0 (Fr O) (.slice A1 n2 c3) a) (Q : List Feat → Prop) (h : F52.E a Q) :
  Ret Tryz.prog 8 [.slice A1 n2 c3] w0 (fun v w' => ∃ (r0 : List Feat) (A0 : Option Addr) (n0 c0 : Nat) (q0 : Ob) (ra0 : List (List Value)), v = .slice A0 n0 c0 ∧ Q r0 ∧ Gr w0 w' none ∧ Ok w' ((bk A0 :: (q0 ++ [])) ++ O) ∧ (∀ b, some b ∈ (bk A0 :: (q0 ++ [])) → w0.heap.size ≤ b) ∧ Ow (Kd.cells 4) 61 w' ((bk A0 :: (q0 ++ [])) ++ O) (.slice A0 n0 c0) ra0 ∧ DArr dFeat_61 w' q0 r0 ra0) := by
 unfold F52.E at h
 have H := h
 clear h
 have hc0 := Ct.init hO
 refine Ret_enter Tryz.func8 rfl 23 rfl [.tmp 2] rfl rfl ?_
 refine W_seq (W_reg (L_as (.slice none 0 0) rfl (L_nil (W_seq (W_reg (L_mv (.slice A1 n2 c3) rfl ?_))))))
 have hl6 := hp4.le
 refine L_pu (P_len Tryz.underlying22 A1 n2 c3 hp4.len rfl) ?_
 obtain ⟨hb7, H⟩ := H
 have bb : (dFeat_61).D w0 ([] ++ (([] ++ [none]) ++ [none])) (⟨([] : Str), (⟨0, []⟩ : Shape), []⟩ : Feat) [vs ([] : Str), vi 0, .slice none 0 0, .slice none 0 0] := (dFeat_61.mk _ (⟨([] : Str), (⟨0, []⟩ : Shape), []⟩ : Feat) (by decide) Ds.nil Ds.nil)
 have bq := DArr.rep bb (a.length : Int).toNat
 have ay := none_rep (qs := ([] ++ (([] ++ [none]) ++ [none]))) (by simp) (a.length : Int).toNat
 refine L_make (kd := Kd.cells 4) ei26 hc0 [vs ([] : Str), vi 0, .slice none 0 0, .slice none 0 0] (Dd.raw _ bb) (a.length : Int) rfl rfl hb7 fun br aa ad ae bs hr21 bt bu => ?_
 have az : ((List.replicate (a.length : Int).toNat ([] ++ (([] ++ [none]) ++ [none]))).flatten ++ ([bk aa] : Ob)).Perm (bk aa :: ((List.replicate (a.length : Int).toNat ([] ++ (([] ++ [none]) ++ [none]))).flatten ++ [])) := (pc fun a => by (try simp only [pca, pcc, pcn, Nat.add_zero, Nat.zero_add]); first | done | ac_rfl)
 have bc := bt.noned ay az
 have cx := St.noned br O ay az
 refine L_as (.slice aa ad ae) rfl (L_nil (W_seq (W_seq (W_reg (L_as (vi 0) rfl (L_nil (W_block ?_)))))))
 obtain ⟨bv, bw, a0, H⟩ := H
 have bx := (Ow.noned bu ay az)
 have bz := (bq.k0 bs)
 refine W_loop (α := (List Feat) × (List (List Value)) × Ob × Int) (fun (sv__ : (List Feat) × (List (List Value)) × Ob × Int) t ah => match sv__ with | (xs2, ag, af, i2) => bv xs2 i2 ∧ Has t [(0, .slice A1 n2 c3), (3, .slice aa ad ae), (4, vi i2)] ∧ Ct [] w0 ah (bk aa :: (af ++ [])) O ∧ Sl kFeat ah (Fr ((bk aa :: (af ++ [])) ++ O)) (.slice A1 n2 c3) a ∧ Ow (Kd.cells 4) 61 ah ((bk aa :: (af ++ [])) ++ O) (.slice aa ad ae) ag ∧ DArr dFeat_61 ah af xs2 ag) (fun (sv__ : (List Feat) × (List (List Value)) × Ob × Int) => match sv__ with | (xs2, _, _, i2) => bw xs2 i2) ((List.replicate (a.length : Int).toNat ((⟨([] : Str), (⟨0, []⟩ : Shape), []⟩ : Feat) : Feat)), (List.replicate (a.length : Int).toNat [vs ([] : Str), vi 0, .slice none 0 0, .slice none 0 0]), (List.replicate (a.length : Int).toNat ([] ++ (([] ++ [none]) ++ [none]))).flatten, 0) ⟨a0, (hasI rfl), bc, (hp4.st bc.st), bx, bz⟩ ?_
 rintro ⟨xs2, ag, af, i2⟩ _ ah ⟨a0, b0, ai, an, bd, be⟩
 obtain ⟨cy, rfl⟩ := Has.ins b0
 have H := H xs2 i2 a0
 refine W_seq (W_seq (W_reg (L_mv (vi i2) rfl (L_mv (.slice A1 n2 c3) rfl ?_))))
 have b1 := an.le
 refine L_pu (P_len Tryz.underlying22 A1 n2 c3 an.len rfl) (L_pu (P_cmp i2 (a.length : Int) (decide (i2 < (a.length : Int))) rfl rfl rfl) (L_nil ?_))
 refine W_cond (decide (i2 < (a.length : Int))) rfl (fun aq => ?_) (fun aq => ?_)
 ·have H := ite_t H aq
  refine W_skip (W_seq (W_block (W_reg (L_mv (.slice aa ad ae) rfl (L_mv (vi i2) rfl (L_mv (.slice A1 n2 c3) rfl (L_mv (vi i2) rfl ?_)))))))
  obtain ⟨bf, H⟩ := H
  obtain ⟨bg, cz, b2, c1, b3, b4⟩ := an.get default (by decide) i2 bf
  obtain ⟨a1, a2, a3, a4, a5, a6, rfl, b5, b6, b7⟩ := kFeat.op b3
  refine L_pu (P_ia Tryz.underlying22 se22 A1 bg n2 c3 an.len i2 rfl b2 rfl bf) (L_pu (P_lda ag49 sz49 cL (bg.add (i2.toNat * 4)) [vs ((nth a i2).Id), vi ((nth a i2).Shape.Kind), .slice a1 a2 a3, .slice a4 a5 a6] rfl rfl b4) ?_)
  refine L_call go29 [.agg #[vs ((nth a i2).Id), vi ((nth a i2).Shape.Kind), .slice a1 a2 a3, .slice a4 a5 a6]] rfl ((F71.calls ah ai.ok (nth a i2) a1 a2 a3 a4 a5 a6 b5 b6 b7 _ H).mono ?_)
  rintro _ b8 ⟨r, ab, aj, ak, ac, al, am, rfl, H, ar, b9, a7, bh, bi, bj⟩
  have ao := ai.owns ar b9 a7
  obtain ⟨au, H⟩ := H
  have av := (bd.sos ar a7)
  have aw := (be.k0 ar)
  have ca : (0 : Int) ≤ i2 ∧ i2 < (ag.length : Int) := by rw [aw.len]; exact au
  obtain ⟨bl, c2, a8, cb, c4⟩ := av.get default (by decide) i2 ca
  obtain rfl := Kd.cells.op cb
  refine L_pu (P_ia Tryz.underlying26 se26 aa bl ad ae (Dp.len av aw) i2 rfl a8 rfl au) ?_
  have cc : (dFeat_61).D b8 ([] ++ (([] ++ [bk ab]) ++ [bk ac])) r [vs r.Id, vi r.Shape.Kind, .slice ab aj ak, .slice ac al am] := (dFeat_61.mk _ r bh (Ds.ofOw kPt_flat bi) (Ds.ofOw kTag_flat bj))
  have bm : (0 : Int) ≤ i2 ∧ i2 < (ag.length : Int) := by rw [aw.len]; exact au
  obtain ⟨c5, bn, cd, ce, cf⟩ := av.get default (by decide) i2 bm
  obtain rfl := Option.some.inj (a8.symm.trans cd)
  have bo : bn.length = 4 := (Kd.cells 4).len ce
  refine L_ste0 (kd := Kd.cells 4) aa ad ae ag av i2 bm bl a8 0 rfl [vs r.Id, vi r.Shape.Kind, .slice ab aj ak, .slice ac al am] rfl sz61 rfl [vs r.Id, vi r.Shape.Kind, .slice ab aj ak, .slice ac al am] bn [vs r.Id, vi r.Shape.Kind, .slice ab aj ak, .slice ac al am] cf bo (whole_put bo) (Dd.raw _ cc) fun cg ap ch => ?_
  have bp := ao.wr 2 rfl ap
  have ci := (ao.sw bi 0 2 rfl rfl rfl ap)
  have cj := (ao.sw bj 1 2 rfl rfl rfl ap)
  have ck : (dFeat_61).D cg ([] ++ (([] ++ [bk ab]) ++ [bk ac])) r [vs r.Id, vi r.Shape.Kind, .slice ab aj ak, .slice ac al am] := (dFeat_61.mk _ r bh (Ds.ofOw kPt_flat ci) (Ds.ofOw kTag_flat cj))
  have cl := (DArr.sm (L := (bk ab :: bk ac :: bk aa :: (af ++ []))) (O := O) (i := 2) aw ao rfl (fun b hb => (List.mem_append_left _ hb)) ap)
  obtain ⟨ax, a9, cm, cn⟩ := DArr.put ck (Int.toNat i2) cl (by have := au; omega)
  have ba : ((bk ab :: bk ac :: bk aa :: (af ++ [])) : Ob).Perm (a9 ++ (bk aa :: (ax ++ []))) := (show ((bk ab :: bk ac :: bk aa :: (af ++ [])) : Ob).Perm ((af ++ ([] ++ (([] ++ [bk ab]) ++ [bk ac]))) ++ (bk aa :: [])) from (pc fun a => by (try simp only [pca, pcc, pcn, Nat.add_zero, Nat.zero_add]); first | done | ac_rfl)).trans ((cm.append_right (bk aa :: [])).trans (show ((a9 ++ ax) ++ (bk aa :: []) : Ob).Perm (a9 ++ (bk aa :: (ax ++ []))) from (pc fun a => by (try simp only [pca, pcc, pcn, Nat.add_zero, Nat.zero_add]); first | done | ac_rfl)))
  have co := bp.drops ba
  refine L_nil (W_reg (L_mv (vi i2) rfl ?_))
  obtain ⟨cp, H⟩ := H
  have cq : I64 (i2 + 1) := i64_succ (of_decide_eq_true aq) b1 cp
  refine L_pu (P_add i2 1 rfl rfl cq) (L_as (vi (i2 + 1)) rfl (L_nil ?_))
  obtain ⟨cr, cs⟩ := H
  have ct := ai.stos ar a7
  have cu := ao.stw 2 rfl ap
  have cv := (((an.st ct).st cu).st (St.drops _ O ba))
  have cw := (bp.odr ch ba 0 rfl)
  exact ⟨((xs2.set i2.toNat r), (ag.set i2.toNat [vs r.Id, vi r.Shape.Kind, .slice ab aj ak, .slice ac al am]), ax, i2 + 1), cs, cr, (hasI rfl), co, cv, cw, cn⟩
 have H := ite_f H aq
 refine W_exit (xin_hit ?_)
 exact W_seq (W_reg (L_mv (.slice aa ad ae) rfl (L_as (.slice aa ad ae) rfl (L_nil (W_ret ⟨[.slice aa ad ae], ⟨_, rfl, rfl⟩, xs2, aa, ad, ae, af, ag, rfl, H, ai.gr.g0, ai.ok, ai.ge, bd, be⟩)))))
end
end Go.Proofs.YtndjggncgpjolaaGreat