/- Operations that compute: assertions, comparisons, sums, slices, literals. -/
import Derived.Test.YtdgipcjigbagfaaGreatFwD
import Derived.Laws.Strings
namespace Go.Proofs.YtdgipcjigbagfaaGreat.AB
set_option linter.unusedSimpArgs false
set_option linter.unusedVariables false
variable {P : Program} {ti : Nat → TyI} {o : Oper} {ρ : Operand → AVal}

theorem not_iface (hti : TyOk P ti) {T : Nat} {d : TypeDesc} (hk : KdRel (ti T) d) (h1 : (ti T).kd ≠ .iface) : ∀ ms, d ≠ .interface ms := by
  intro ms e
  subst e
  unfold KdRel at hk
  split at hk <;> first | (exact absurd (by assumption) h1) | simp at hk

theorem zeroA_rel (hti : TyOk P ti) {T : Nat} (h2 : (ti T).kd ≠ .other) (hz : (ti T).zero.length = (ti T).size ∧ ((ti T).size = 1 ∨ (ti T).agg = true)) (w : World) (φ : Map) :
    ∃ z, (zeroValue T).run P w = .ok z w ∧ VRel φ (zeroA (ti T)) z := by
  obtain ⟨z, hz0, _, hz2⟩ := run_zero hti h2 w
  refine ⟨z, hz0, ?_⟩
  rcases hz2 φ hz.1 with h | ⟨ha, hb⟩
  · exact h
  · rcases hz.2 with h' | h'
    · exact absurd h' ha
    · rw [hb] at h'; cases h'

theorem impl_typeAssert_yes (hti : TyOk P ti) {x : Operand} {X T : TypeId} {v : AVal} {ok : Bool} (ho : o.op = .typeAssert x X T ok) (hx : ρ x = .iface T v) (h1 : (ti T).kd ≠ .iface) (h2 : (ti T).kd ≠ .other) :
    Impl P o ρ (.ret (bif ok then .tuple [v, .bool true] else v)) :=
  impl_ret fun φ a w h => by
    have hv := h x (by simp [ho, Op.operands])
    rw [hx] at hv
    simp only [VRel] at hv
    obtain ⟨u, he, hu⟩ := hv
    obtain ⟨d, hd, hk⟩ := und_of hti h2
    have hnot := not_iface hti hk h1
    refine ⟨if ok then .tuple #[u, .bool true] else u, ?_, ?_⟩
    · simp only [execOp, ho, Instr.typeAssert, Sem.run_bind, run_underlying hd, Result.andThen_ok, he]
      split <;> first | (rename_i e _; exact absurd rfl (hnot _)) | skip
      all_goals first | (simp_all; done) | (cases ok <;> simp_all)
    · cases ok
      · simpa using hu
      · simp only [cond_true, if_true, VRel, VRels]
        exact ⟨[u, .bool true], rfl, u, _, rfl, hu, _, _, rfl, by simp [VRel], rfl⟩

theorem impl_typeAssert_no (hti : TyOk P ti) {x : Operand} {X T t : TypeId} {v : AVal} (ho : o.op = .typeAssert x X T true) (hx : ρ x = .iface t v) (ht : t ≠ T) (h1 : (ti T).kd ≠ .iface) (h2 : (ti T).kd ≠ .other)
    (hz : (ti T).zero.length = (ti T).size ∧ ((ti T).size = 1 ∨ (ti T).agg = true)) : Impl P o ρ (.ret (.tuple [zeroA (ti T), .bool false])) :=
  impl_ret fun φ a w h => by
    have hv := h x (by simp [ho, Op.operands])
    rw [hx] at hv
    simp only [VRel] at hv
    obtain ⟨u, he, hu⟩ := hv
    obtain ⟨d, hd, hk⟩ := und_of hti h2
    have hnot := not_iface hti hk h1
    obtain ⟨z, hz0, hzr⟩ := zeroA_rel hti h2 hz w φ
    refine ⟨.tuple #[z, .bool false], ?_, ?_⟩
    · simp only [execOp, ho, Instr.typeAssert, Sem.run_bind, run_underlying hd, Result.andThen_ok, he]
      split <;> first | (rename_i e _; exact absurd rfl (hnot _)) | skip
      all_goals simp_all
    · simp only [VRel, VRels]
      exact ⟨[z, .bool false], rfl, z, _, rfl, hzr, _, _, rfl, by simp [VRel], rfl⟩

/-! whole numbers -/
theorem intK_some {R : Type} {op : BinOp} {kx ky : IntKind} {a b : Int} {k : AVal → Option R} {r : R} (h : intK op kx a ky b k = some r) :
    ∃ v, k v = some r ∧ ∃ cv, (∀ φ, VRel φ v cv) ∧ ∀ (P : Program) (T : TypeId) (w : World), (binOp op T (.int kx a) (.int ky b)).run P w = .ok cv w := by
  have same : ∀ {α : Type} {c : Option α} {r : α}, (bif sameK kx ky then c else none) = some r → kx = ky ∧ c = some r := by
    intro α c r h
    obtain ⟨h1, h2⟩ := of_cond h
    exact ⟨of_decide_eq_true h1, h2⟩
  have beq_dec : ∀ x y : Int, (x == y) = decide (x = y) := fun x y => by by_cases e : x = y <;> simp [e]
  unfold intK at h
  cases op <;> simp only [] at h
  case shl =>
    obtain ⟨h1, h2⟩ := of_cond' h
    have h1 := of_decide_eq_false h1
    exact ⟨_, h2, .int kx (kx.wrap (a * 2 ^ (min b.toNat kx.bits))), fun φ => by simp [VRel], fun P T w => by simp [binOp, Op.shift, h1]⟩
  case shr =>
    obtain ⟨h1, h2⟩ := of_cond' h
    have h1 := of_decide_eq_false h1
    exact ⟨_, h2, .int kx (a.fdiv (2 ^ (min b.toNat kx.bits))), fun φ => by simp [VRel], fun P T w => by simp [binOp, Op.shift, h1]⟩
  case quo =>
    obtain ⟨e0, h'⟩ := same h; subst e0
    obtain ⟨h1, h2⟩ := of_cond' h'
    have h1 := of_decide_eq_false h1
    exact ⟨_, h2, .int kx (kx.wrap (a.tdiv b)), fun φ => by simp [VRel], fun P T w => by simp [binOp, Op.intDiv, h1]⟩
  case rem =>
    obtain ⟨e0, h'⟩ := same h; subst e0
    obtain ⟨h1, h2⟩ := of_cond' h'
    have h1 := of_decide_eq_false h1
    exact ⟨_, h2, .int kx (a.tmod b), fun φ => by simp [VRel], fun P T w => by simp [binOp, Op.intDiv, h1]⟩
  case eql =>
    obtain ⟨e0, h'⟩ := same h; subst e0
    exact ⟨_, h', .bool (decide (a = b)), fun φ => by simp [VRel], fun P T w => by simp [binOp, Op.intCmp, beq_dec]⟩
  case neq =>
    obtain ⟨e0, h'⟩ := same h; subst e0
    exact ⟨_, h', .bool (!decide (a = b)), fun φ => by simp [VRel], fun P T w => by simp [binOp, Op.intCmp, bne, beq_dec]⟩
  case lss => obtain ⟨e0, h'⟩ := same h; subst e0; exact ⟨_, h', .bool (decide (a < b)), fun φ => by simp [VRel], fun P T w => by simp [binOp, Op.intCmp]⟩
  case leq => obtain ⟨e0, h'⟩ := same h; subst e0; exact ⟨_, h', .bool (decide (a ≤ b)), fun φ => by simp [VRel], fun P T w => by simp [binOp, Op.intCmp]⟩
  case gtr => obtain ⟨e0, h'⟩ := same h; subst e0; exact ⟨_, h', .bool (decide (b < a)), fun φ => by simp [VRel], fun P T w => by simp [binOp, Op.intCmp]⟩
  case geq => obtain ⟨e0, h'⟩ := same h; subst e0; exact ⟨_, h', .bool (decide (b ≤ a)), fun φ => by simp [VRel], fun P T w => by simp [binOp, Op.intCmp]⟩
  case add => obtain ⟨e0, h'⟩ := same h; subst e0; exact ⟨_, h', .int kx (kx.wrap (a + b)), fun φ => by simp [VRel], fun P T w => by simp [binOp, Op.intArith]⟩
  case sub => obtain ⟨e0, h'⟩ := same h; subst e0; exact ⟨_, h', .int kx (kx.wrap (a - b)), fun φ => by simp [VRel], fun P T w => by simp [binOp, Op.intArith]⟩
  case mul => obtain ⟨e0, h'⟩ := same h; subst e0; exact ⟨_, h', .int kx (kx.wrap (a * b)), fun φ => by simp [VRel], fun P T w => by simp [binOp, Op.intArith]⟩
  case and => obtain ⟨e0, h'⟩ := same h; subst e0; exact ⟨_, h', .int kx (bitsA .and kx a b), fun φ => by simp [VRel], fun P T w => by simp [binOp, Op.intBits, bitsA]⟩
  case or => obtain ⟨e0, h'⟩ := same h; subst e0; exact ⟨_, h', .int kx (bitsA .or kx a b), fun φ => by simp [VRel], fun P T w => by simp [binOp, Op.intBits, bitsA]⟩
  case xor => obtain ⟨e0, h'⟩ := same h; subst e0; exact ⟨_, h', .int kx (bitsA .xor kx a b), fun φ => by simp [VRel], fun P T w => by simp [binOp, Op.intBits, bitsA]⟩
  case andNot => obtain ⟨e0, h'⟩ := same h; subst e0; exact ⟨_, h', .int kx (bitsA .andNot kx a b), fun φ => by simp [VRel], fun P T w => by simp [binOp, Op.intBits, bitsA]⟩

theorem run_eqGuard_int (op : BinOp) (T : TypeId) (x y : Operand) (k : IntKind) (a : Int) (v : Value) : eqGuard op T x y (.int k a) v = pure () := by cases op <;> rfl
theorem run_eqGuard_bool (op : BinOp) (T : TypeId) (x y : Operand) (b : Bool) (v : Value) : eqGuard op T x y (.bool b) v = pure () := by cases op <;> rfl
theorem run_eqGuard_str (op : BinOp) (T : TypeId) (x y : Operand) (s : ByteArray) (v : Value) : eqGuard op T x y (.string s) v = pure () := by cases op <;> rfl
theorem run_eqGuard_ptr (op : BinOp) (T : TypeId) (x y : Operand) (s : Option Addr) (v : Value) : eqGuard op T x y (.pointer s) v = pure () := by cases op <;> rfl

theorem impl_bin {op : BinOp} {T U : TypeId} {x y : Operand} {v : AVal} (ho : o.op = .binOp op T x y U)
    (h : ∀ (φ : Map) (a : Act) (w : World), VRel φ (ρ x) (a.eval x) → VRel φ (ρ y) (a.eval y) →
      ∃ cv, (do eqGuard op T x y (a.eval x) (a.eval y); binOp op T (a.eval x) (a.eval y) : Sem Value).run P w = .ok cv w ∧ VRel φ v cv) : Impl P o ρ (.ret v) :=
  impl_ret fun φ a w hρ => by
    obtain ⟨cv, hr, hv⟩ := h φ a w (hρ x (by simp [ho, Op.operands])) (hρ y (by simp [ho, Op.operands]))
    refine ⟨cv, ?_, hv⟩
    simp only [Sem.run_bind] at hr
    simp only [execOp, ho, Sem.run_bind, hr, Result.andThen_ok, Sem.run_pure]

theorem impl_int {op : BinOp} {T U : TypeId} {x y : Operand} {kx ky : IntKind} {m n : Int} {v : AVal} {cv : Value} (ho : o.op = .binOp op T x y U) (hx : ρ x = .int kx m) (hy : ρ y = .int ky n)
    (hv : ∀ φ, VRel φ v cv) (hr : ∀ (P : Program) (T : TypeId) (w : World), (binOp op T (.int kx m) (.int ky n)).run P w = .ok cv w) : Impl P o ρ (.ret v) :=
  impl_bin ho fun φ a w h1 h2 => by
    rw [hx] at h1; rw [hy] at h2
    simp only [VRel] at h1 h2
    exact ⟨cv, by simp [h1, h2, run_eqGuard_int, hr], hv φ⟩

theorem equal_eq (T : TypeId) (x y : Value) : Op.equal T x y = Op.equalIn (9999 + 1) T x y := rfl

theorem run_equalIn_bool (d : Nat) {T : TypeId} (h : P.underlying T = some .bool) (a b : Bool) (w : World) : (Op.equalIn (d + 1) T (.bool a) (.bool b)).run P w = .ok (a == b) w := by
  simp only [Op.equalIn, Sem.run_bind, run_underlying h, Result.andThen_ok, Sem.run_pure]
theorem run_equalIn_int (d : Nat) {T : TypeId} {k : IntKind} (h : P.underlying T = some (.int k)) (i : IntKind) (a b : Int) (w : World) : (Op.equalIn (d + 1) T (.int i a) (.int i b)).run P w = .ok (a == b) w := by
  simp only [Op.equalIn, Sem.run_bind, run_underlying h, Result.andThen_ok, Sem.run_pure, if_true]
theorem run_equalIn_str (d : Nat) {T : TypeId} (h : P.underlying T = some .string) (a b : ByteArray) (w : World) : (Op.equalIn (d + 1) T (.string a) (.string b)).run P w = .ok (a == b) w := by
  simp only [Op.equalIn, Sem.run_bind, run_underlying h, Result.andThen_ok, Sem.run_pure]
theorem run_equalIn_ptr (d : Nat) {T e : TypeId} (h : P.underlying T = some (.pointer e)) (x y : Option Addr) (hn : x = none ∨ y = none) (w : World) :
    (Op.equalIn (d + 1) T (.pointer x) (.pointer y)).run P w = .ok (x.isNone && y.isNone) w := by
  rcases hn with rfl | rfl
  · simp only [Op.equalIn, Sem.run_bind, run_underlying h, Result.andThen_ok, Sem.run_pure, Option.isNone_none, Bool.true_and]
  · cases x with
    | none => simp only [Op.equalIn, Sem.run_bind, run_underlying h, Result.andThen_ok, Sem.run_pure, Option.isNone_none, Bool.true_and]
    | some x => simp only [Op.equalIn, Sem.run_bind, run_underlying h, Result.andThen_ok, Sem.run_pure, Option.isNone_some, Bool.false_and]

theorem binOp_eql_bool (T : TypeId) (a b : Bool) : binOp .eql T (.bool a) (.bool b) = (do pure (.bool (← Op.equal T (.bool a) (.bool b)))) := rfl
theorem binOp_neq_bool (T : TypeId) (a b : Bool) : binOp .neq T (.bool a) (.bool b) = (do pure (.bool (!(← Op.equal T (.bool a) (.bool b))))) := rfl
theorem binOp_eql_ptr (T : TypeId) (a b : Option Addr) : binOp .eql T (.pointer a) (.pointer b) = (do pure (.bool (← Op.equal T (.pointer a) (.pointer b)))) := rfl
theorem binOp_neq_ptr (T : TypeId) (a b : Option Addr) : binOp .neq T (.pointer a) (.pointer b) = (do pure (.bool (!(← Op.equal T (.pointer a) (.pointer b))))) := rfl
theorem binOp_eql_agg (T : TypeId) (a b : Array Value) : binOp .eql T (.agg a) (.agg b) = (do pure (.bool (← Op.equal T (.agg a) (.agg b)))) := rfl
theorem binOp_neq_agg (T : TypeId) (a b : Array Value) : binOp .neq T (.agg a) (.agg b) = (do pure (.bool (!(← Op.equal T (.agg a) (.agg b))))) := rfl

theorem impl_bool (hti : TyOk P ti) {op : BinOp} {T U : TypeId} {x y : Operand} {m n : Bool} (ho : o.op = .binOp op T x y U) (hk : (ti T).kd = .bool) (hx : ρ x = .bool m) (hy : ρ y = .bool n)
    (hop : op = .eql ∨ op = .neq) : Impl P o ρ (.ret (.bool (if op = .eql then m == n else !(m == n)))) :=
  impl_bin ho fun φ a w h1 h2 => by
    rw [hx] at h1; rw [hy] at h2
    simp only [VRel] at h1 h2
    rcases hop with rfl | rfl
    · exact ⟨.bool (m == n), by simp only [h1, h2, run_eqGuard_bool, binOp_eql_bool, equal_eq, Sem.run_bind, Sem.run_pure, Result.andThen_ok, run_equalIn_bool 9999 (und_bool hti hk)], by simp [VRel]⟩
    · exact ⟨.bool (!(m == n)), by simp only [h1, h2, run_eqGuard_bool, binOp_neq_bool, equal_eq, Sem.run_bind, Sem.run_pure, Result.andThen_ok, run_equalIn_bool 9999 (und_bool hti hk)], by simp [VRel]⟩

theorem impl_str {op : BinOp} {T U : TypeId} {x y : Operand} {m n : ByteArray} (ho : o.op = .binOp op T x y U) (hx : ρ x = .str m) (hy : ρ y = .str n)
    (hop : op = .eql ∨ op = .neq) : Impl P o ρ (.ret (.bool (if op = .eql then m.data.toList == n.data.toList else !(m.data.toList == n.data.toList)))) :=
  impl_bin ho fun φ a w h1 h2 => by
    rw [hx] at h1; rw [hy] at h2
    simp only [VRel] at h1 h2
    rcases hop with rfl | rfl
    · exact ⟨.bool (m.data.toList == n.data.toList), by simp [h1, h2, run_eqGuard_str, binOp, Op.stringOp, Go.ByteArray.toList_eq], by simp [VRel]⟩
    · exact ⟨.bool (!(m.data.toList == n.data.toList)), by simp [h1, h2, run_eqGuard_str, binOp, Op.stringOp, Go.ByteArray.toList_eq], by simp [VRel]⟩

theorem impl_ptr_nil (hti : TyOk P ti) {op : BinOp} {T U : TypeId} {x y : Operand} (ho : o.op = .binOp op T x y U) (hk : (ti T).kd = .ptr)
    (hop : op = .eql ∨ op = .neq) (same : Bool) (hs : (same = true ∧ ρ x = .nilp ∧ ρ y = .nilp) ∨ (same = false ∧ ((ρ x = .nilp ∧ ∃ b i j, ρ y = .ptr b i j) ∨ (ρ y = .nilp ∧ ∃ b i j, ρ x = .ptr b i j)))) :
    Impl P o ρ (.ret (.bool (if op = .eql then same else !same))) :=
  impl_bin ho fun φ a w h1 h2 => by
    obtain ⟨e, he⟩ := und_ptr hti hk
    have key : ∃ p q : Option Addr, a.eval x = .pointer p ∧ a.eval y = .pointer q ∧ (p = none ∨ q = none) ∧ (p.isNone && q.isNone) = same := by
      rcases hs with ⟨rfl, hx, hy⟩ | ⟨rfl, ⟨hx, b, i, j, hy⟩ | ⟨hy, b, i, j, hx⟩⟩ <;> rw [hx] at h1 <;> rw [hy] at h2 <;> simp only [VRel] at h1 h2
      · exact ⟨none, none, h1, h2, .inl rfl, rfl⟩
      · obtain ⟨L, _, h2⟩ := h2; exact ⟨none, _, h1, h2, .inl rfl, rfl⟩
      · obtain ⟨L, _, h1⟩ := h1; exact ⟨_, none, h1, h2, .inr rfl, rfl⟩
    obtain ⟨p, q, hp, hq, hn, rfl⟩ := key
    rcases hop with rfl | rfl
    · exact ⟨.bool (p.isNone && q.isNone), by simp only [hp, hq, run_eqGuard_ptr, binOp_eql_ptr, equal_eq, Sem.run_bind, Sem.run_pure, Result.andThen_ok, run_equalIn_ptr 9999 he p q hn], by simp [VRel]⟩
    · exact ⟨.bool (!(p.isNone && q.isNone)), by simp only [hp, hq, run_eqGuard_ptr, binOp_neq_ptr, equal_eq, Sem.run_bind, Sem.run_pure, Result.andThen_ok, run_equalIn_ptr 9999 he p q hn], by simp [VRel]⟩

/-! structs compared -/
theorem eqCell_run (hti : TyOk P ti) (d : Nat) {T : Nat} {x y : AVal} {u v : Value} {r : Bool} {φ : Map} (hx : VRel φ x u) (hy : VRel φ y v) (h : eqCell x y = some r)
    (hfit : fitCell (ti T).kd x = true) (w : World) : (Op.equalIn (d + 1) T u v).run P w = .ok r w := by
  unfold eqCell at h
  split at h
  · rename_i k a k' b
    simp only [VRel] at hx hy; subst hx; subst hy
    cases hkd : (ti T).kd <;> simp [hkd, fitCell] at hfit
    obtain ⟨h1, h2⟩ := of_cond h
    have e := of_decide_eq_true h1
    subst e
    injection h2 with h2; subst h2
    rw [run_equalIn_int d (und_int hti hkd) k a b w]
    congr 1
  · rename_i a b
    simp only [VRel] at hx hy; subst hx; subst hy
    cases hkd : (ti T).kd <;> simp [hkd, fitCell] at hfit
    injection h with h; subst h; exact run_equalIn_bool d (und_bool hti hkd) a b w
  · rename_i a b
    simp only [VRel] at hx hy; subst hx; subst hy
    cases hkd : (ti T).kd <;> simp [hkd, fitCell] at hfit
    injection h with h; subst h
    rw [run_equalIn_str d (und_str hti hkd) a b w]
    congr 1
    cases a with
    | mk a => cases b with
      | mk b =>
        show (a == b) = (a.toList == b.toList)
        by_cases e : a = b
        · subst e; simp
        · have hne : a.toList ≠ b.toList := fun h => e (Array.ext' h)
          rw [beq_eq_false_iff_ne.mpr e, beq_eq_false_iff_ne.mpr hne]
  · cases h

theorem eqFields (hti : TyOk P ti) (d : Nat) {φ : Map} (xs ys : Array Value) (w : World) :
    ∀ (fs : List Field) (flds : List (Nat × Nat)) (n : Nat) (as bs : List AVal) (us vs : List Value) (r : Bool), fldCheck flds fs = true → fs.all (fun f => !(f.name == "_")) = true →
      fits ti n flds as = true → VRels φ as us → VRels φ bs vs → eqCells as bs = some r →
      (∀ j u, us[j]? = some u → xs[n + j]? = some u) → (∀ j u, vs[j]? = some u → ys[n + j]? = some u) →
      (forIn fs ((none : Option Bool), ()) fun f (__s : Option Bool × Unit) =>
            if f.name ≠ "_" then do
              let __do_lift ← part f.type xs f.offset
              let __do_lift_1 ← part f.type ys f.offset
              let __do_lift ← Op.equalIn (d + 1) f.type __do_lift __do_lift_1
              if (!__do_lift) = true then pure (ForInStep.done (some false, ())) else pure (ForInStep.yield ((none : Option Bool), ()))
            else pure (ForInStep.yield (none, ())) : Sem (Option Bool × Unit)).run P w = .ok ((if r then none else some false), ()) w
  | [], [], n, [], bs, us, vs, r, _, _, _, hx, hy, he, _, _ => by
    cases bs with
    | nil => simp [eqCells] at he; subst he; simp
    | cons b bs => simp [eqCells] at he
  | [], [], n, a :: as, bs, us, vs, r, _, _, hf, _, _, _, _, _ => by simp [fits] at hf
  | [], _ :: _, n, as, bs, us, vs, r, hc, _, _, _, _, _, _, _ => by simp [fldCheck] at hc
  | _ :: _, [], n, as, bs, us, vs, r, hc, _, _, _, _, _, _, _ => by simp [fldCheck] at hc
  | f :: fs, (t, off) :: flds, n, as, bs, us, vs, r, hc, hn, hf, hx, hy, he, hxs, hys => by
    cases as with
    | nil => simp [fits] at hf
    | cons x as =>
      cases bs with
      | nil => simp [eqCells] at he
      | cons y bs =>
        simp only [fits, Bool.and_eq_true] at hf
        obtain ⟨⟨hfit, hoff⟩, hf⟩ := hf
        have hoff := Nat.eq_of_beq_eq_true hoff
        simp only [fldCheck, Bool.and_eq_true] at hc
        obtain ⟨⟨ht, ho⟩, hc⟩ := hc
        have ht := Nat.eq_of_beq_eq_true ht
        have ho := Nat.eq_of_beq_eq_true ho
        simp only [List.all_cons, Bool.and_eq_true] at hn
        obtain ⟨hn1, hn⟩ := hn
        simp only [VRels] at hx hy
        obtain ⟨u, us', rfl, hu, hx⟩ := hx
        obtain ⟨v, vs', rfl, hv, hy⟩ := hy
        simp only [eqCells] at he
        split at he
        · rename_i r1 r2 h1 h2
          injection he with he; subst he
          have hkd : (ti t).kd ≠ .other := by intro e; rw [e] at hfit; cases x <;> simp [fitCell] at hfit
          have hagg : (ti t).agg = false := by
            unfold TyI.agg
            split
            · rename_i e; rw [e] at hfit; cases x <;> simp [fitCell] at hfit
            · rename_i e; rw [e] at hfit; cases x <;> simp [fitCell] at hfit
            · rfl
          have p1 : (part t xs off).run P w = .ok u w := by
            unfold part
            have : xs[off]? = some u := by have := hxs 0 u rfl; simpa [hoff] using this
            simp [run_isAgg hti hkd, hagg, this]
          have p2 : (part t ys off).run P w = .ok v w := by
            unfold part
            have : ys[off]? = some v := by have := hys 0 v rfl; simpa [hoff] using this
            simp [run_isAgg hti hkd, hagg, this]
          have p3 := eqCell_run hti d hu hv h1 hfit w
          have hname : f.name ≠ "_" := by simpa using hn1
          have ih := eqFields hti d xs ys w fs flds (n + 1) as bs us' vs' r2 hc hn hf hx hy h2
            (fun j u hj => by have := hxs (j + 1) u (by simpa using hj); rwa [show n + (j + 1) = n + 1 + j by omega] at this)
            (fun j u hj => by have := hys (j + 1) u (by simpa using hj); rwa [show n + (j + 1) = n + 1 + j by omega] at this)
          rw [List.forIn_cons]
          simp only [Sem.run_bind, ne_eq, hname, not_false_eq_true, if_true, ht, ho, p1, p2, p3, Result.andThen_ok]
          cases r1
          · simp
          · simp only [Bool.not_true, Bool.false_eq_true, if_false, Sem.run_pure, Result.andThen_ok, Bool.true_and]
            exact ih
        · cases he

theorem run_equalIn_struct (hti : TyOk P ti) (d d' : Nat) (hd : d' = d + 1) {T : Nat} {φ : Map} (hk : (ti T).kd = .struct) (heq : (ti T).eq = true) {as bs : List AVal} {us vs : List Value} {r : Bool}
    (hf : fits ti 0 (ti T).flds as = true) (hx : VRels φ as us) (hy : VRels φ bs vs) (he : eqCells as bs = some r) (w : World) :
    (Op.equalIn (d' + 1) T (.agg us.toArray) (.agg vs.toArray)).run P w = .ok r w := by
  obtain ⟨i, dd, z, t⟩ := hti T (by rw [hk]; simp)
  obtain ⟨hs, _, ⟨fs, rfl, hn⟩, _⟩ := t.eq heq
  have hc := t.kd
  simp only [KdRel, hk] at hc
  obtain ⟨fs', e, hc⟩ := hc
  injection e with e; subst e
  have key := eqFields hti d us.toArray vs.toArray w fs.toList (ti T).flds 0 as bs us vs r hc hn hf hx hy he (fun j u hj => by simpa using hj) (fun j u hj => by simpa using hj)
  have hfor : ∀ (f : Field → Option Bool × Unit → Sem (ForInStep (Option Bool × Unit))), forIn fs ((none : Option Bool), ()) f = forIn fs.toList ((none : Option Bool), ()) f := by
    intro f; exact (Array.forIn_toList (xs := fs)).symm
  simp only [Op.equalIn, Sem.run_bind, run_underlying t.und, Result.andThen_ok, run_program, hs, Bool.false_eq_true, if_false, hfor]
  rw [← hd] at key
  rw [key]
  cases r <;> simp

theorem run_eqGuard_agg (hti : TyOk P ti) {T : Nat} (hk : (ti T).kd = .struct) (heq : (ti T).eq = true) (op : BinOp) (x y : Operand) (u v : Array Value) (w : World) :
    (eqGuard op T x y (.agg u) (.agg v)).run P w = .ok () w := by
  obtain ⟨i, dd, z, t⟩ := hti T (by rw [hk]; simp)
  obtain ⟨_, hg, _⟩ := t.eq heq
  unfold eqGuard
  cases op <;> simp [hg]

theorem impl_struct_eq (hti : TyOk P ti) {op : BinOp} {T U : TypeId} {x y : Operand} {as bs : List AVal} {r : Bool} (ho : o.op = .binOp op T x y U) (hk : (ti T).kd = .struct) (heq : (ti T).eq = true)
    (hx : ρ x = .agg as) (hy : ρ y = .agg bs) (hf : fits ti 0 (ti T).flds as = true) (he : eqCells as bs = some r) (hop : op = .eql ∨ op = .neq) : Impl P o ρ (.ret (.bool (if op = .eql then r else !r))) :=
  impl_bin ho fun φ a w h1 h2 => by
    rw [hx] at h1; rw [hy] at h2
    simp only [VRel] at h1 h2
    obtain ⟨us, hu, hus⟩ := h1
    obtain ⟨vs, hv, hvs⟩ := h2
    have key := run_equalIn_struct hti 9998 9999 rfl hk heq hf hus hvs he w
    rcases hop with rfl | rfl
    · exact ⟨.bool r, by simp only [hu, hv, Sem.run_bind, run_eqGuard_agg hti hk heq, binOp_eql_agg, equal_eq, Sem.run_pure, Result.andThen_ok, key], by simp [VRel]⟩
    · exact ⟨.bool (!r), by simp only [hu, hv, Sem.run_bind, run_eqGuard_agg hti hk heq, binOp_neq_agg, equal_eq, Sem.run_pure, Result.andThen_ok, key], by simp [VRel]⟩
end Go.Proofs.YtdgipcjigbagfaaGreat.AB
