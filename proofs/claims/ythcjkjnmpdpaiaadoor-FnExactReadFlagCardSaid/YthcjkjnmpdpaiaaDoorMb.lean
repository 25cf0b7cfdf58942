/- The symbolic machine: places and parts of slices. -/
import Derived.Test.YthcjkjnmpdpaiaaDoorMa
import Derived.Laws.BytesArg
import Derived.LoopN
import Derived.Orders
namespace Vm
open Go
set_option linter.unusedVariables false
set_option linter.unusedSimpArgs false

section
variable {P : Program} {Γ : Glob} {A : Dom Γ} {base : Nat} {loc : List Loc} {hp hp' : HP} {w w' : World} {a : Act} {o : Oper} {u : Value} {v : AV} {ok : Nat → Prop}

theorem loOf_val {lo : Option AV} {l : Int} (h : loOf lo = some l) : lo = none ∧ l = 0 ∨ ∃ k, lo = some (.int k l) := by
  unfold loOf at h
  split at h
  · simp only [Option.some.injEq] at h; exact .inl ⟨rfl, h.symm⟩
  · simp only [Option.some.injEq] at h; subst h; exact .inr ⟨_, rfl⟩
  · cases h
theorem hiOf_val {hi : Option AV} {n h' : Int} (h : hiOf n hi = some h') : hi = none ∧ h' = n ∨ ∃ k, hi = some (.int k h') := by
  unfold hiOf at h
  split at h
  · simp only [Option.some.injEq] at h; exact .inl ⟨rfl, h.symm⟩
  · simp only [Option.some.injEq] at h; subst h; exact .inr ⟨_, rfl⟩
  · cases h

theorem cut_run {known : Bool} {lo hi n : Int} {x : T (AV × HP)} {r : AV × HP} (h : (cut known lo hi n x).run = some r) : 0 ≤ lo ∧ lo ≤ hi ∧ hi ≤ n ∧ x.run = some r := by
  unfold cut at h
  obtain ⟨h1, h⟩ := T.run_tst_fail h
  obtain ⟨h2, h⟩ := T.run_ite_fail h
  obtain ⟨h3, h⟩ := T.run_ite_fail h
  exact ⟨of_decide_eq_true h1, of_decide_eq_true h2, of_decide_eq_true h3, h⟩

theorem run_bound {k : IntKind} {i : Int} {y : Nat} {c : BoundsCode} (h0 : 0 ≤ i) (h1 : i ≤ y) : (Instr.sliceBound (.int k i) y c).run P w = .ok i.toNat w := by
  simp [Instr.sliceBound, asIntOf, h0, h1]

/-- The bounds of a slice expression without a third one. -/
theorem run_bounds {isS : Bool} {len cap : Nat} {lo hi : Option AV} {vlo vhi : Option Value} {l h : Int} (hlo : loOf lo = some l) (hhi : hiOf (len : Int) hi = some h)
    (rlo : ∀ k n, lo = some (.int k n) → vlo = some (.int k n)) (nlo : lo = none → vlo = none) (rhi : ∀ k n, hi = some (.int k n) → vhi = some (.int k n)) (nhi : hi = none → vhi = none)
    (h0 : 0 ≤ l) (h1 : l ≤ h) (h2 : h ≤ len) (hc : len ≤ cap) : (Instr.sliceBounds isS len cap vlo vhi none).run P w = .ok (l.toNat, h.toNat, cap) w := by
  rcases loOf_val hlo with ⟨rfl, rfl⟩ | ⟨k, rfl⟩ <;> rcases hiOf_val hhi with ⟨rfl, rfl⟩ | ⟨k', rfl⟩
  · simp [Instr.sliceBounds, nlo rfl, nhi rfl]
  · have e : (h.toNat : Int) = h := Int.toNat_of_nonneg (by omega)
    simp only [Instr.sliceBounds, nlo rfl, rhi _ _ rfl, Sem.run_bind, Sem.run_pure, Result.andThen_ok]
    rw [run_bound (by omega) (by omega)]
    simp
  · simp only [Instr.sliceBounds, rlo _ _ rfl, nhi rfl, Sem.run_bind, Sem.run_pure, Result.andThen_ok]
    rw [run_bound (by omega) (by omega)]
    simp
  · simp only [Instr.sliceBounds, rlo _ _ rfl, rhi _ _ rfl, Sem.run_bind, Sem.run_pure, Result.andThen_ok]
    rw [run_bound (by omega) (by omega)]
    simp only [Result.andThen_ok]
    rw [run_bound (by omega) (by omega)]
    simp

/-- With a third one. -/
theorem run_bounds3 {isS : Bool} {len cap : Nat} {lo hi : Option AV} {vlo vhi : Option Value} {k3 : IntKind} {l h m : Int} (hlo : loOf lo = some l) (hhi : ∃ k, hi = some (.int k h))
    (rlo : ∀ k n, lo = some (.int k n) → vlo = some (.int k n)) (nlo : lo = none → vlo = none) (rhi : ∀ k n, hi = some (.int k n) → vhi = some (.int k n))
    (h0 : 0 ≤ l) (h1 : l ≤ h) (h2 : h ≤ len) (hc : len ≤ cap) (hm : m = h) : (Instr.sliceBounds isS len cap vlo vhi (some (.int k3 m))).run P w = .ok (l.toNat, h.toNat, m.toNat) w := by
  subst hm
  obtain ⟨k', rfl⟩ := hhi
  rcases loOf_val hlo with ⟨rfl, rfl⟩ | ⟨k, rfl⟩
  · simp only [Instr.sliceBounds, nlo rfl, rhi _ _ rfl, Sem.run_bind, Sem.run_pure, Result.andThen_ok]
    rw [run_bound (by omega) (by omega)]
    simp only [Result.andThen_ok]
    rw [run_bound (by omega) (by omega)]
    simp
  · simp only [Instr.sliceBounds, rlo _ _ rfl, rhi _ _ rfl, Sem.run_bind, Sem.run_pure, Result.andThen_ok]
    rw [run_bound (by omega) (by omega)]
    simp only [Result.andThen_ok]
    rw [run_bound (by omega) (by omega)]
    simp only [Result.andThen_ok]
    rw [run_bound (by omega) (by omega)]
    simp

theorem row_part {t : Ty} {B : Option Addr} {xs : List t.den} (h : RowAt ok w t.size (Enc ok w t) B xs) {l h' : Nat} (hl : l ≤ h') (hh : h' ≤ xs.length) {B' : Option Addr} (hB : l < h' → B' = B.map (·.add (l * t.size))) :
    RowAt ok w t.size (Enc ok w t) B' ((xs.take h').drop l) ∧ ((xs.take h').drop l).length = h' - l := by
  have hlen : ((xs.take h').drop l).length = h' - l := by rw [List.length_drop, List.length_take]; omega
  refine ⟨?_, hlen⟩
  by_cases hlt : l < h'
  · rcases h with h | ⟨b, off, e, hok, hbl, h⟩
    · subst h; simp at hh; omega
    · refine .inr ⟨b, off + l * t.size, by rw [hB hlt, e]; simp [Addr.add_mid], hok, hbl, fun i x hx => ?_⟩
      have hx' : xs[l + i]? = some x := by
        rw [List.getElem?_drop, List.getElem?_take] at hx
        split at hx
        · exact hx
        · cases hx
      obtain ⟨cs, h1, h2⟩ := h _ _ hx'
      refine ⟨cs, h1, fun j u hu => ?_⟩
      rw [← h2 j u hu, Nat.add_mul]
      congr 2
      omega
  · left
    apply List.eq_nil_of_length_eq_zero
    omega

theorem run_sliceAt {t : TypeId} {d : TypeDesc} (hd : P.underlying t = some d) (hn : isAggD d = false) {x : Value} {lo hi mx : Option Value} : (Instr.sliceAt t x lo hi mx).run P w = (Instr.slice t x lo hi mx).run P w := by
  unfold Instr.sliceAt
  rw [Sem.run_bind, run_underlying hd]
  cases d <;> simp_all [isAggD]

/-- What stands for an optional bound. -/
theorem opt_val {ρ : Operand → AV} {ev : Operand → Value} (hρ : ∀ x, RV loc ok w (ρ x) (ev x)) (lo : Option Operand) :
    (∀ k n, lo.map ρ = some (.int k n) → lo.map ev = some (.int k n)) ∧ (lo.map ρ = none → lo.map ev = none) := by
  cases lo with
  | none => exact ⟨(fun k n h => by cases h), (fun _ => rfl)⟩
  | some x =>
    refine ⟨fun k n h => ?_, (fun h => by cases h)⟩
    simp only [Option.map_some, Option.some.injEq] at h ⊢
    have := hρ x
    rw [h] at this
    exact int_inj this

theorem slice_sound {E : Env} (hE : ∀ t i, look t E.ti = some i → TIok P t i) (hi : Inv A base loc hp w) {t : TypeId} {known : Bool} {x : AV} {ux : Value} {lo hi' mx : Option Operand} {ρ : Operand → AV} {ev : Operand → Value}
    (hρ : ∀ x, RV loc (okk A base loc hp) w (ρ x) (ev x)) (hx : RV loc (okk A base loc hp) w x ux) (h : (evSlice E t known x (lo.map ρ) (hi'.map ρ) (mx.map ρ) hp).run = some (v, hp')) :
    ∃ u, (Instr.sliceAt t ux (lo.map ev) (hi'.map ev) (mx.map ev)).run P w = .ok u w ∧ RV loc (okk A base loc hp) w v u ∧ hp' = hp := by
  unfold evSlice at h
  split at h
  · cases h
  rename_i i hi1
  split at h
  · cases h
  rename_i n hn
  split at h
  case h_2 => cases h
  rename_i l hh hlo hhi
  have hT := hE _ _ hi1
  obtain ⟨inf, d, z, g1, g2, g3, g4, g5, g6, g7, g7b, g8, g9, g10⟩ := hT.ex
  obtain ⟨rlo, nlo⟩ := opt_val hρ lo
  obtain ⟨rhi, nhi⟩ := opt_val hρ hi'
  obtain ⟨rmx, nmx⟩ := opt_val hρ mx
  split at h
  · -- a string
    rename_i hk
    have hd : d = .string := by cases d <;> simp only [DescOk, hk, reduceCtorEq, and_false] at g10; rfl
    subst hd
    split at h
    case h_2 => cases h
    rename_i s hm
    obtain ⟨h0, h1, h2, h⟩ := cut_run h
    simp only [T.run, Option.some.injEq, Prod.mk.injEq] at h
    obtain ⟨rfl, rfl⟩ := h
    cases hx
    simp only [lenOf, Option.some.injEq] at hn
    subst hn
    have hm' : mx.map ev = none := nmx hm
    refine ⟨_, ?_, .str _, rfl⟩
    rw [run_sliceAt g2 rfl, hm']
    simp only [Instr.slice, Sem.run_bind, run_underlying g2, Result.andThen_ok, Option.isSome_none, Bool.false_eq_true, if_false, Sem.run_pure]
    rw [run_bounds hlo hhi rlo nlo rhi nhi h0 h1 h2 (Nat.le_refl _)]
    rfl
  · -- a slice
    rename_i hk
    have hS := hT.slice hk
    rw [hS] at g2
    simp only [Option.some.injEq] at g2
    subst g2
    split at h
    · cases h
    rename_i ei hi2
    have hsz := (hE _ _ hi2).size w
    split at h
    · rename_i hm
      have hm' : mx.map ev = none := nmx hm
      split at h
      · -- data
        rename_i e' t' c' xs
        split at h
        case h_2 => cases h
        rename_i he
        have he := Nat.eq_of_beq_eq_true he
        obtain ⟨h0, h1, h2, h⟩ := cut_run h
        simp only [T.run, Option.some.injEq, Prod.mk.injEq] at h
        obtain ⟨rfl, rfl⟩ := h
        simp only [lenOf, Option.some.injEq] at hn
        subst hn
        cases hx with
        | @sl _ _ _ _ B cap hc hl hR =>
          obtain ⟨hR', hlen⟩ := row_part hR (l := l.toNat) (h' := hh.toNat) (by omega) (by omega) (B' := if cap = l.toNat then B else B.map (·.add (l.toNat * ei.size))) (fun hlt => by rw [if_neg (by omega), he])
          refine ⟨.slice (if cap = l.toNat then B else B.map (·.add (l.toNat * ei.size))) (hh.toNat - l.toNat) (cap - l.toNat), ?_, ?_, rfl⟩
          · rw [run_sliceAt hS rfl, hm']
            simp only [Instr.slice, Sem.run_bind, run_underlying hS, Result.andThen_ok]
            rw [run_bounds hlo hhi rlo nlo rhi nhi h0 h1 h2 hl]
            simp [hsz]
          · rw [← hlen]
            exact .sl (fun h => by cases h) (by rw [hlen]; omega) hR'
      · -- a row of the machine's own
        rename_i r
        split at h
        case h_2 => cases h
        rename_i e' t' xs hr
        split at h
        case h_2 => cases h
        rename_i he
        have he := Nat.eq_of_beq_eq_true he
        obtain ⟨h0, h1, h2, h⟩ := cut_run h
        simp only [T.run, Option.some.injEq, Prod.mk.injEq] at h
        obtain ⟨rfl, rfl⟩ := h
        simp only [lenOf, hr, Option.some.injEq] at hn
        subst hn
        cases hx with
        | @own _ size n' cap B hl =>
          obtain ⟨hsz3, ds, h11, h12⟩ := hi.obj r _ _ hl hr
          obtain ⟨B2, c2, h13, h14, _⟩ := own_read h11 h12
          cases h13
          refine ⟨.slice (if cap = l.toNat then B else B.map (·.add (l.toNat * ei.size))) (hh.toNat - l.toNat) (cap - l.toNat), ?_, ?_, rfl⟩
          · rw [run_sliceAt hS rfl, hm']
            simp only [Instr.slice, Sem.run_bind, run_underlying hS, Result.andThen_ok]
            rw [run_bounds hlo hhi rlo nlo rhi nhi h0 h1 h2 h14]
            simp [hsz]
          · have : hh.toNat - l.toNat = (hh - l).toNat := by omega
            rw [this]
            exact .sub hl h0 h1 h2 (fun hlt => by rw [if_neg (by omega), hsz3, he]) (by omega)
      · rename_i r lo' hi2'
        split at h
        case h_2 => cases h
        rename_i e' t' xs hr
        split at h
        case h_2 => cases h
        rename_i he
        have he := Nat.eq_of_beq_eq_true he
        obtain ⟨h0, h1, h2, h⟩ := cut_run h
        simp only [T.run, Option.some.injEq, Prod.mk.injEq] at h
        obtain ⟨rfl, rfl⟩ := h
        simp only [lenOf, Option.some.injEq] at hn
        subst hn
        cases hx with
        | @sub _ size n' cap c _ _ B B' hl h01 h02 h03 hA hc =>
          obtain ⟨hsz3, ds, h11, h12⟩ := hi.obj r _ _ hl hr
          have e1 : ((hi2' - lo').toNat : Int) = hi2' - lo' := Int.toNat_of_nonneg (by omega)
          refine ⟨.slice (if c = l.toNat then B' else B'.map (·.add (l.toNat * ei.size))) (hh.toNat - l.toNat) (c - l.toNat), ?_, ?_, rfl⟩
          · rw [run_sliceAt hS rfl, hm']
            simp only [Instr.slice, Sem.run_bind, run_underlying hS, Result.andThen_ok]
            rw [run_bounds hlo (by rw [e1]; exact hhi) rlo nlo rhi nhi h0 h1 (by omega) hc]
            simp [hsz]
          · have : hh.toNat - l.toNat = (lo' + hh - (lo' + l)).toNat := by omega
            rw [this]
            refine .sub hl (by omega) (by omega) (by omega) (fun hlt => ?_) (by omega)
            rw [if_neg (by omega), hA (by omega), hsz3, he, Option.map_map]
            have e2 : (lo' + l).toNat * ei.size = lo'.toNat * ei.size + l.toNat * ei.size := by
              rw [Int.toNat_add h01 h0, Nat.add_mul]
            cases B with
            | none => rfl
            | some p =>
              simp only [Option.map_some, Function.comp, Option.some.injEq]
              rw [e2]
              unfold Addr.add
              by_cases q1 : lo'.toNat * ei.size = 0 <;> by_cases q2 : l.toNat * ei.size = 0 <;> simp [q1, q2, Nat.add_assoc]
      · cases h
    · -- a third bound
      rename_i k3 m hm
      have hm' : mx.map ev = some (.int k3 m) := rmx _ _ hm
      split at h
      · rename_i e' t' c' xs hv0 hhv
        split at h
        case h_2 => cases h
        rename_i he
        have he := Nat.eq_of_beq_eq_true he
        obtain ⟨h0, h1, h2, h⟩ := cut_run h
        obtain ⟨hmh, h⟩ := T.run_ite_fail h
        have hmh := of_decide_eq_true hmh
        simp only [T.run, Option.some.injEq, Prod.mk.injEq] at h
        obtain ⟨rfl, rfl⟩ := h
        simp only [lenOf, Option.some.injEq] at hn
        subst hn
        cases hx with
        | @sl _ _ _ _ B cap hc hl hR =>
          obtain ⟨hR', hlen⟩ := row_part hR (l := l.toNat) (h' := hh.toNat) (by omega) (by omega) (B' := if m.toNat = l.toNat then B else B.map (·.add (l.toNat * ei.size))) (fun hlt => by rw [if_neg (by omega), he])
          rcases hiOf_val hhi with ⟨hn0, _⟩ | hhk
          · rw [hn0] at hhv; cases hhv
          · refine ⟨.slice (if m.toNat = l.toNat then B else B.map (·.add (l.toNat * ei.size))) (hh.toNat - l.toNat) (m.toNat - l.toNat), ?_, ?_, rfl⟩
            · rw [run_sliceAt hS rfl, hm']
              simp only [Instr.slice, Sem.run_bind, run_underlying hS, Result.andThen_ok]
              rw [run_bounds3 hlo hhk rlo nlo rhi h0 h1 h2 hl hmh]
              simp [hsz]
            · rw [← hlen]
              exact .sl (fun _ => by rw [hlen]; omega) (by rw [hlen]; omega) hR'
      · rename_i hv0 hhv
        obtain ⟨h0, h1, h2, h⟩ := cut_run h
        obtain ⟨hmh, h⟩ := T.run_ite_fail h
        have hmh := of_decide_eq_true hmh
        simp only [T.run, Option.some.injEq, Prod.mk.injEq] at h
        obtain ⟨rfl, rfl⟩ := h
        simp only [lenOf, Option.some.injEq] at hn
        subst hn
        cases hx
        rcases hiOf_val hhi with ⟨hn0, _⟩ | hhk
        · rw [hn0] at hhv; cases hhv
        · have el : l = 0 := by omega
          have eh : hh = 0 := by omega
          have em : m = 0 := by omega
          refine ⟨.slice none 0 0, ?_, .nils, rfl⟩
          rw [run_sliceAt hS rfl, hm']
          simp only [Instr.slice, Sem.run_bind, run_underlying hS, Result.andThen_ok]
          rw [run_bounds3 hlo hhk rlo nlo rhi h0 h1 h2 (Nat.le_refl _) hmh]
          simp [hsz, el, eh, em]
      · cases h
    · cases h
  · cases h
end
end Vm
/- The symbolic machine: each operation is the model's. -/
namespace Vm
open Go
set_option linter.unusedVariables false
set_option linter.unusedSimpArgs false

/-- Equality of structs: cell by cell. -/
def EqOk (P : Program) (t : TypeId) (ks : List KD) : Prop :=
  ∀ (loc : List Loc) (ok : Nat → Prop) (w : World) (xs ys : List AV) (us vs : List Value) (r : Bool), fitK ks xs = true → fitK ks ys = true → eqCells xs ys = some r → RVs loc ok w xs us → RVs loc ok w ys vs →
    (Op.equal t (.agg us.toArray) (.agg vs.toArray)).run P w = .ok r w ∧ P.eqGuardType P.depth t = false

def CallOk (Γ : Glob) (P : Program) (F : FuncId → List AV → HP → T (AV × HP)) : Prop :=
  ∀ (f : FuncId) (args : List AV) (hp : HP) (v : AV) (hp' : HP), (F f args hp).run = some (v, hp') →
    ∀ (A : Dom Γ) (base : Nat) (loc : List Loc) (w : World) (vals : List Value), Inv A base loc hp w → RVs loc (okk A base loc hp) w args vals →
      Calls P f vals.toArray w (fun e w' => ∃ u, e = .returned u ∧ Res A base loc hp w v hp' u w')

structure EnvOk (Γ : Glob) (P : Program) (E : Env) : Prop where
  ti : ∀ t i, look t E.ti = some i → TIok P t i
  eqs : ∀ t n, look t E.eqs = some n → EqOk P t n
  boolT : P.underlying E.boolT = some .bool
  mixed : P.follows .mixedOrders = true
  call : CallOk Γ P (callF E)
  body : ∀ f args hp v hp', (callF E f args hp).run = some (v, hp') → ∃ fn, P.funcs[f]? = some fn ∧ fn.body.isSome = true ∧ fn.name ≠ "runtime.NumGoroutine"

section
variable {P : Program} {Γ : Glob} {A : Dom Γ} {base : Nat} {loc : List Loc} {hp hp' : HP} {w w' : World} {a : Act} {o : Oper} {u : Value} {v : AV} {ok : Nat → Prop}

theorem offG_proj : ∀ (n j : Nat) (t : Ty) {x : t.den} {s : Ty} {z : s.den} {cs : List Value}, projG n j t x = some ⟨s, z⟩ → Enc ok w t x cs →
    ∃ ds, Enc ok w s z ds ∧ ∀ k u, ds[k]? = some u → cs[offG n j t + k]? = some u
  | 0, j, t, x, s, z, cs, h, he => by cases j <;> cases t <;> simp [projG] at h
  | 1, 0, t, x, s, z, cs, h, he => by
    have h' : (⟨t, x⟩ : Σ s : Ty, s.den) = ⟨s, z⟩ := by cases t <;> simpa [projG] using h
    cases h'
    exact ⟨cs, he, fun k u hu => by simpa [offG] using hu⟩
  | 1, j + 1, t, x, s, z, cs, h, he => by cases t <;> simp [projG] at h
  | n + 2, 0, t, x, s, z, cs, h, he => by
    cases t <;> simp only [projG, reduceCtorEq, Option.some.injEq] at h
    rename_i a b
    cases h
    obtain ⟨c1, c2, rfl, h1, h2⟩ := he
    exact ⟨c1, h1, fun k u hu => by
      simp only [offG, Nat.zero_add]
      rw [List.getElem?_append_left (List.getElem?_eq_some_iff.1 hu).1]
      exact hu⟩
  | n + 2, j + 1, t, x, s, z, cs, h, he => by
    cases t <;> simp only [projG, reduceCtorEq] at h
    rename_i a b
    obtain ⟨c1, c2, rfl, h1, h2⟩ := he
    obtain ⟨ds, h3, h4⟩ := offG_proj (n + 1) j b h h2
    refine ⟨ds, h3, fun k u hu => ?_⟩
    simp only [offG]
    rw [List.getElem?_append_right (by rw [h1.len]; omega), h1.len, ← h4 k u hu]
    congr 1
    omega
theorem offF_proj (n j : Nat) (t : Ty) {x : t.den} {s : Ty} {z : s.den} {cs : List Value} (h : projF n j t x = some ⟨s, z⟩) (he : Enc ok w t x cs) :
    ∃ ds, Enc ok w s z ds ∧ ∀ k u, ds[k]? = some u → cs[offF n j t + k]? = some u := by
  unfold projF at h
  split at h
  · rename_i a b y
    simp only [Option.some.injEq] at h
    cases h
    obtain ⟨c1, c2, rfl, h1, h2⟩ := he
    have : c2 = [] := h2
    subst this
    exact ⟨c1, h1, fun k u hu => by simpa [offF] using hu⟩
  · obtain ⟨ds, h1, h2⟩ := offG_proj _ _ _ h he
    exact ⟨ds, h1, fun k u hu => by simpa [offF] using h2 k u hu⟩
  · cases h

theorem rptr_part {t s : Ty} {x : t.den} {z : s.den} {n j : Nat} {b off : Nat} (h : projF n j t x = some ⟨s, z⟩) (hp1 : RV loc ok w (.rptr t x) (.pointer (some ⟨b, off, none⟩))) :
    RV loc ok w (.rptr s z) (.pointer (some ⟨b, off + offF n j t, none⟩)) := by
  cases hp1 with
  | rptr he hb hlt hc =>
    obtain ⟨ds, h1, h2⟩ := offF_proj n j t h he
    exact .rptr h1 hb hlt (fun k u hu => by rw [Nat.add_assoc]; exact hc _ _ (h2 k u hu))

theorem rptr_at {t : Ty} {x : t.den} (h : RV loc ok w (.rptr t x) u) : ∃ b off, u = .pointer (some ⟨b, off, none⟩) := by cases h; exact ⟨_, _, rfl⟩
theorem ptr_at {r off : Nat} (h : RV loc ok w (.ptr r off) u) : ∃ b o, u = .pointer (some ⟨b, o + off, none⟩) ∧ nth loc r = some (.rng b o) := by cases h with | ptr h => exact ⟨_, _, rfl, h⟩

theorem run_fieldAt {t : TypeId} {fs : Array Field} {f : Field} {fi : FI} {inf : TypeInfo} {j b off : Nat} (hd : P.underlying t = some (.struct fs)) (hf : fs.toList[j]? = some f) (hi : P.info? f.type = some inf) (hs : inf.size = fi.size) (hpos : 0 < fi.size) :
    (Instr.fieldAt t (.pointer (some ⟨b, off, none⟩)) j).run P w = .ok (.pointer (some ⟨b, off + f.offset, none⟩)) w := by
  have hf' : fs[j]? = some f := by rw [← Array.getElem?_toList]; exact hf
  have hne : ¬ inf.size = 0 := by omega
  simp [Instr.fieldAt, Sem.run_bind, run_underlying hd, hf', Instr.sureAddr, fieldPlace, Go.sizeOf, typeInfo, hi, hne, Addr.add_mid]

theorem struct_of {t : TypeId} {i : TI} (hT : TIok P t i) (hk : i.kd = .st) {j : Nat} {fi : FI} (hj : nth i.fields j = some fi) : ∃ fs f inf d, P.underlying t = some (.struct fs) ∧ fs.toList[j]? = some f ∧ fi.off = f.offset ∧ 0 < fi.size ∧
    P.info? f.type = some inf ∧ P.underlying f.type = some d ∧ inf.size = fi.size ∧ isAggD d = fi.agg := by
  obtain ⟨inf, d, z, g1, g2, g3, g4, g5, g6, g7, g7b, g8, g9, g10⟩ := hT.ex
  cases d <;> simp only [DescOk, hk, reduceCtorEq, and_false] at g10
  rename_i fs
  obtain ⟨f, h1, h2, h3, inf', d', h4, h5, h6, h7⟩ := fields_nth g10.1 hj
  exact ⟨fs, f, inf', d', g2, h1, h2, h3, h4, h5, h6, h7⟩
theorem array_of {t : TypeId} {i : TI} (hT : TIok P t i) (hk : i.kd = .arr) : P.underlying t = some (.array i.alen i.elem) := by
  obtain ⟨inf, d, z, g1, g2, g3, g4, g5, g6, g7, g7b, g8, g9, g10⟩ := hT.ex
  cases d <;> simp only [DescOk, hk, reduceCtorEq, and_false] at g10
  rw [g2, g10.2.1, g10.2.2.1]
theorem string_of {t : TypeId} {i : TI} (hT : TIok P t i) (hk : i.kd = .str) : P.underlying t = some .string := by
  obtain ⟨inf, d, z, g1, g2, g3, g4, g5, g6, g7, g7b, g8, g9, g10⟩ := hT.ex
  cases d <;> simp only [DescOk, hk, reduceCtorEq, and_false] at g10
  exact g2
theorem int_of {t : TypeId} {i : TI} {k : IntKind} (hT : TIok P t i) (hk : i.kd = .int k) : P.underlying t = some (.int k) := by
  obtain ⟨inf, d, z, g1, g2, g3, g4, g5, g6, g7, g7b, g8, g9, g10⟩ := hT.ex
  cases d <;> simp only [DescOk, hk, reduceCtorEq, and_false, KD.int.injEq] at g10
  rw [g2, g10]

/-- A part of a struct or an array value. -/
theorem part_agg {t : TypeId} {d : TypeDesc} {inf : TypeInfo} (hi : P.info? t = some inf) (hd : P.underlying t = some d) {cs : List AV} {vs : List Value} (h : RVs loc ok w cs vs) (h1 : ∀ x ∈ vs, x.oneCell' = true) {off size : Nat}
    (hs : inf.size = size) (hle : off + size ≤ cs.length) (hv : ofCells (isAggD d) (sliceL cs off size) = some v) : ∃ u, (part t vs.toArray off).run P w = .ok u w ∧ RV loc ok w v u := by
  have hsl := h.sliceL off size
  unfold ofCells at hv
  split at hv
  · rename_i ha
    simp only [Option.some.injEq] at hv
    subst hv
    refine ⟨.agg (vs.toArray.extract off (off + size)), ?_, ?_⟩
    · simp [part, Sem.run_bind, isAgg_run hd, ha, Go.sizeOf, typeInfo, hi, hs]
    · have : vs.toArray.extract off (off + size) = ((vs.drop off).take size).toArray := by
        apply Array.ext'
        simp [List.drop_take]
      rw [this]
      exact .agg hsl (fun x hx => h1 x (List.mem_of_mem_drop (List.mem_of_mem_take hx)))
  · rename_i v' ha hcs
    simp only [Option.some.injEq] at hv
    have hcs' : (cs.drop off).take size = [v] := by rw [← hv]; exact hcs
    have hlen := congrArg List.length hcs'
    simp only [List.length_take, List.length_drop, List.length_cons, List.length_nil] at hlen
    have hx : nth cs off = some v := by
      have : ((cs.drop off).take size)[0]? = some v := by rw [hcs']; rfl
      rw [List.getElem?_take, if_pos (by omega), List.getElem?_drop] at this
      rw [nth_eq]
      simpa using this
    obtain ⟨y, hy, hr⟩ := h.get hx
    refine ⟨y, ?_, hr⟩
    simp [part, Sem.run_bind, isAgg_run hd, ha, hy]
  · cases hv

theorem inB_run {known : Bool} {i n : Int} {x : T (AV × HP)} {r : AV × HP} (h : (inB known i n x).run = some r) : 0 ≤ i ∧ i < n ∧ x.run = some r := by
  unfold inB at h
  obtain ⟨h1, h⟩ := T.run_tst_fail h
  obtain ⟨h2, h⟩ := T.run_ite_fail h
  exact ⟨of_decide_eq_true h1, of_decide_eq_true h2, h⟩

theorem run_indexAt_sl {t e : TypeId} {size : Nat} (ht : P.underlying t = some (.slice e)) (hs : (Go.sizeOf e).run P w = .ok size w) {k : IntKind} {i : Int} {p : Addr} {len cap : Nat} (h0 : 0 ≤ i) (h1 : i < len) :
    (Instr.indexAt t (.slice (some p) len cap) (.int k i)).run P w = .ok (.pointer (some (p.add (i.toNat * size)))) w := by
  simp [Instr.indexAt, asIntOf, Sem.run_bind, run_underlying ht, h0, h1, hs]
theorem run_indexAt_arr {t e : TypeId} {n size : Nat} (ht : P.underlying t = some (.array n e)) (hs : (Go.sizeOf e).run P w = .ok size w) {k : IntKind} {i : Int} {p : Addr} (h0 : 0 ≤ i) (h1 : i < n) :
    (Instr.indexAt t (.pointer (some p)) (.int k i)).run P w = .ok (.pointer (some (p.add (i.toNat * size)))) w := by
  simp [Instr.indexAt, asIntOf, Sem.run_bind, run_underlying ht, h0, h1, hs, Instr.sureAddr]

theorem bt_get {s : ByteArray} {n : Int} (h0 : 0 ≤ n) (h1 : n < s.size) : ∃ h : n.toNat < s.size, bt s n = ((s[n.toNat]'h).toNat : Int) := by
  have h : n.toNat < s.size := by omega
  exact ⟨h, by unfold bt; rw [dif_pos h]⟩
end
end Vm
/- The symbolic machine: each operation is the model's (2). -/
namespace Vm
open Go
set_option linter.unusedVariables false
set_option linter.unusedSimpArgs false

section
variable {P : Program} {E : Env} {Γ : Glob} {A : Dom Γ} {base : Nat} {loc : List Loc} {hp hp' : HP} {w w' : World} {a : Act} {o : Oper} {u : Value} {v : AV} {ok : Nat → Prop} {ρ : Operand → AV}

theorem run_ret {x y : AV × HP} (h : (T.ret x).run = some y) : x = y := by simpa [T.run] using h
theorem run_fail {α : Type} {y : α} (h : (T.fail : T α).run = some y) : False := by simp [T.run] at h

theorem load_sound (hE : EnvOk Γ P E) (hi : Inv A base loc hp w) (hρ : ∀ x, RV loc (okk A base loc hp) w (ρ x) (a.eval x)) {t : TypeId} {x : Operand} (ho : o.op = .load t x)
    (h : (evOp E ρ (.load t x) hp).run = some (v, hp')) : OpGo P o a w (Res A base loc hp w v hp') := by
  have hx := hρ x
  simp only [evOp] at h
  split at h
  · exact (run_fail h).elim
  rename_i i hi1
  have hT := hE.ti _ _ hi1
  have fin : ∀ u', (Instr.loadAt t (a.eval x)).run P w = .ok u' w → (execOp a.eval o).run P w = .ok (.value u') w := by
    intro u' hu
    unfold execOp
    simp only [ho]
    exact run_v hu
  split at h
  · rename_i r off e1
    rw [e1] at hx
    split at h
    case h_2 => exact (run_fail h).elim
    rename_i cs hr
    split at h
    case h_2 => exact (run_fail h).elim
    rename_i v' hb hv
    cases run_ret h
    obtain ⟨u', h1, h2⟩ := load_ptr hi hT hr (Nat.le_of_ble_eq_true hb) hv hx
    exact .value (fin _ h1) (Res.same hi h2)
  · rename_i t' y e1
    rw [e1] at hx
    split at h
    case h_2 => exact (run_fail h).elim
    rename_i v' hb hv
    cases run_ret h
    obtain ⟨u', h1, h2⟩ := load_rptr hT (Nat.eq_of_beq_eq_true hb) hv hx
    exact .value (fin _ h1) (Res.same hi h2)
  · rename_i r j off e1
    rw [e1] at hx
    split at h
    case h_2 => exact (run_fail h).elim
    rename_i e' t' xs hr
    split at h
    case h_2 => exact (run_fail h).elim
    rename_i v' hb hv
    cases run_ret h
    obtain ⟨u', h1, h2⟩ := load_eptr hi hT hr (Nat.le_of_ble_eq_true hb) hv hx
    exact .value (fin _ h1) (Res.same hi h2)
  · exact (run_fail h).elim

theorem store_sound (hE : EnvOk Γ P E) (hi : Inv A base loc hp w) (hρ : ∀ x, RV loc (okk A base loc hp) w (ρ x) (a.eval x)) {t : TypeId} {x y : Operand} (ho : o.op = .store t x y)
    (h : (evOp E ρ (.store t x y) hp).run = some (v, hp')) : OpGo P o a w (Res A base loc hp w v hp') := by
  have hx := hρ x
  have hy := hρ y
  simp only [evOp] at h
  split at h
  case h_2 => exact (run_fail h).elim
  rename_i i cv hi1 hcv
  have hT := hE.ti _ _ hi1
  obtain ⟨h1, h2⟩ := avCells_rv hy hcv
  split at h
  · exact (run_fail h).elim
  rename_i hb
  have hl := Nat.eq_of_beq_eq_true hb
  have fin : ∀ w', (Instr.storeAt t (a.eval x) (a.eval y)).run P w = .ok () w' → (execOp a.eval o).run P w = .ok .skip w' := by
    intro w' hu
    unfold execOp
    simp only [ho]
    exact run_u hu
  split at h
  · rename_i r off e1
    rw [e1] at hx
    split at h
    case h_2 => exact (run_fail h).elim
    rename_i cs hr
    split at h
    case h_2 => exact (run_fail h).elim
    rename_i hb2
    cases run_ret h
    obtain ⟨w', h3, h4⟩ := store_ptr hi hT hr (Nat.le_of_ble_eq_true hb2) h1 h2 hl hx
    exact .inr (.inl ⟨w', fin _ h3, h4⟩)
  · rename_i r j off e1
    rw [e1] at hx
    split at h
    case h_2 => exact (run_fail h).elim
    rename_i e' t' xs hr
    split at h
    case h_2 => exact (run_fail h).elim
    rename_i z hpx hb2 hpk
    cases run_ret h
    obtain ⟨w', h3, h4⟩ := store_eptr hi hT hr (Nat.le_of_ble_eq_true hb2) hpk h1 h2 hl hx
    exact .inr (.inl ⟨w', fin _ h3, h4⟩)
  · exact (run_fail h).elim

theorem binOp_sound (hE : EnvOk Γ P E) (hi : Inv A base loc hp w) (hρ : ∀ x, RV loc (okk A base loc hp) w (ρ x) (a.eval x)) {op : BinOp} {xT yT : TypeId} {x y : Operand} (ho : o.op = .binOp op xT x y yT)
    (h : (evOp E ρ (.binOp op xT x y yT) hp).run = some (v, hp')) : OpGo P o a w (Res A base loc hp w v hp') := by
  have hx := hρ x
  have hy := hρ y
  simp only [evOp] at h
  split at h
  · rename_i l1 l2 e1 e2
    rw [e1] at hx
    rw [e2] at hy
    split at h
    case h_3 => exact (run_fail h).elim
    all_goals
      rename_i r hb0 hr
      have hb1 : ∃ n, look xT E.eqs = some n ∧ fitK n l1 = true ∧ fitK n l2 = true := by
        unfold eqFit at hb0
        split at hb0
        · rename_i n hn
          simp only [Bool.and_eq_true] at hb0
          exact ⟨n, hn, hb0⟩
        · cases hb0
      obtain ⟨n, hb, hf1, hf2⟩ := hb1
      cases run_ret h
      generalize hu1 : a.eval x = u1 at hx
      generalize hu2 : a.eval y = u2 at hy
      cases hx with
      | agg q1 q1' =>
        cases hy with
        | agg q2 q2' =>
          obtain ⟨q3, q4⟩ := hE.eqs _ _ hb _ _ _ _ _ _ _ _ hf1 hf2 hr q1 q2
          have q5 : ∀ (p : BinOp) (c d : Array Value), (eqGuard p xT x y (.agg c) (.agg d)).run P w = .ok () w := by
            intro p c d
            unfold eqGuard
            cases p <;> simp [q4]
          refine .value ?_ (Res.same hi (.bool _))
          unfold execOp
          simp only [ho, hu1, hu2]
          refine run_v ?_
          rw [Sem.run_bind, q5]
          simp [binOp, q3]
  · rename_i e1
    obtain ⟨z, h1, h2⟩ := T.run_some_bind h
    cases run_ret h2
    obtain ⟨h3, u, h4, h5⟩ := evBin_sound (P := P) h1 hx hy xT (fun hb => by rw [Nat.eq_of_beq_eq_true hb]; exact hE.boolT)
    refine .value ?_ (Res.same hi h5)
    unfold execOp
    simp only [ho]
    refine run_v ?_
    rw [Sem.run_bind, run_eqGuard h3]
    exact h4

theorem indexAddr_sound (hE : EnvOk Γ P E) (hi : Inv A base loc hp w) (hρ : ∀ x, RV loc (okk A base loc hp) w (ρ x) (a.eval x)) {t : TypeId} {x j : Operand} (ho : o.op = .indexAddr t x j)
    (h : (evOp E ρ (.indexAddr t x j) hp).run = some (v, hp')) : OpGo P o a w (Res A base loc hp w v hp') := by
  have hx := hρ x
  have hj := hρ j
  simp only [evOp] at h
  split at h
  case h_2 => exact (run_fail h).elim
  rename_i k n i ej hi1
  rw [ej] at hj
  have hj' := int_inj hj
  have hT := hE.ti _ _ hi1
  have fin : ∀ u', (Instr.indexAt t (a.eval x) (a.eval j)).run P w = .ok u' w → (execOp a.eval o).run P w = .ok (.value u') w := by
    intro u' hu
    unfold execOp
    simp only [ho]
    exact run_v hu
  rw [hj'] at fin
  split at h
  · rename_i ei hk hi2
    have hS := hT.slice hk
    have hsz := (hE.ti _ _ hi2).size w
    split at h
    · rename_i e' t' c' xs e1
      rw [e1] at hx
      split at h
      case h_2 => exact (run_fail h).elim
      rename_i he
      have he := Nat.eq_of_beq_eq_true he
      obtain ⟨h0, h1, h⟩ := inB_run h
      cases run_ret h
      generalize hu : a.eval x = ux at hx fin
      cases hx with
      | sl hc hl hR =>
        obtain ⟨b, off, ds, rfl, hok, hlt, henc, hcell⟩ := hR.get (getD_some (n := n.toNat) (by omega) t'.dflt)
        refine .value (fin _ (run_indexAt_sl hS hsz h0 (by omega))) (Res.same hi ?_)
        rw [Addr.add_mid, ← he]
        exact .rptr henc hok hlt hcell
    · rename_i r e1
      rw [e1] at hx
      split at h
      case h_2 => exact (run_fail h).elim
      rename_i e' t' xs hr
      split at h
      case h_2 => exact (run_fail h).elim
      rename_i he
      have he := Nat.eq_of_beq_eq_true he
      obtain ⟨h0, h1, h⟩ := inB_run h
      cases run_ret h
      generalize hu : a.eval x = ux at hx fin
      cases hx with
      | own hl =>
        obtain ⟨hsz3, ds, h11, h12⟩ := hi.obj r _ _ hl hr
        rcases h11.2 with ⟨h13, h14⟩ | ⟨g, cap, cur, h13, h14⟩
        · cases h13; omega
        · cases h13
          refine .value (fin _ (run_indexAt_sl hS hsz h0 (by omega))) (Res.same hi ?_)
          rw [Addr.add_mid, ← he, ← hsz3]
          simpa using RV.eptr (off := 0) hl h0 (by omega)
    · rename_i r lo hi2' e1
      rw [e1] at hx
      split at h
      case h_2 => exact (run_fail h).elim
      rename_i e' t' xs hr
      split at h
      case h_2 => exact (run_fail h).elim
      rename_i he
      have he := Nat.eq_of_beq_eq_true he
      obtain ⟨h0, h1, h⟩ := inB_run h
      cases run_ret h
      generalize hu : a.eval x = ux at hx fin
      cases hx with
      | @sub _ size n' cap c _ _ B B' hl h01 h02 h03 hA hc =>
        obtain ⟨hsz3, ds, h11, h12⟩ := hi.obj r _ _ hl hr
        rcases h11.2 with ⟨h13, h14⟩ | ⟨g, cap, cur, h13, h14⟩
        · cases h13; omega
        · cases h13
          rw [hA (by omega)] at fin
          simp only [Option.map_some] at fin
          refine .value (fin _ (run_indexAt_sl hS hsz h0 (by omega))) (Res.same hi ?_)
          rw [Addr.add_mid, Addr.add_mid, ← he, ← hsz3]
          have e2 : (lo + n).toNat * size = lo.toNat * size + n.toNat * size := by rw [Int.toNat_add h01 h0, Nat.add_mul]
          have := RV.eptr (off := 0) (ok := okk A base loc hp) (w := w) (i := lo + n) hl (by omega) (by omega)
          rw [e2] at this
          simpa using this
    · exact (run_fail h).elim
  · rename_i ei hk hi2
    have hS := array_of hT hk
    have hsz := (hE.ti _ _ hi2).size w
    split at h
    · rename_i r off e1
      rw [e1] at hx
      split at h
      case h_2 => exact (run_fail h).elim
      rename_i m hK
      split at h
      case h_2 => exact (run_fail h).elim
      rename_i hb
      have hb := Nat.le_of_ble_eq_true hb
      cases run_ret h
      obtain ⟨b, o', e3, hl⟩ := ptr_at hx
      rw [e3] at fin
      refine .value (fin _ (run_indexAt_arr hS hsz (by simp) (by simp; omega))) (Res.same hi ?_)
      rw [Addr.add_mid, Nat.add_assoc]
      exact .ptr hl
    · rename_i r kk off e1
      rw [e1] at hx
      split at h
      case h_2 => exact (run_fail h).elim
      rename_i m hK
      split at h
      case h_2 => exact (run_fail h).elim
      rename_i hb
      have hb := Nat.le_of_ble_eq_true hb
      cases run_ret h
      generalize hu : a.eval x = ux at hx fin
      cases hx with
      | eptr hl h0 h1 =>
        refine .value (fin _ (run_indexAt_arr hS hsz (by simp) (by simp; omega))) (Res.same hi ?_)
        rw [Addr.add_mid, Nat.add_assoc]
        exact .eptr hl h0 h1
    · rename_i t' y e1
      rw [e1] at hx
      split at h
      case h_2 => exact (run_fail h).elim
      rename_i m hK
      split at h
      case h_2 => exact (run_fail h).elim
      rename_i s z hb hpj
      simp only [Bool.and_eq_true] at hb
      have hb1 := Nat.le_of_ble_eq_true hb.1
      have hb2 := Nat.eq_of_beq_eq_true hb.2
      cases run_ret h
      obtain ⟨b, o', e3⟩ := rptr_at hx
      rw [e3] at fin hx
      refine .value (fin _ (run_indexAt_arr hS hsz (by simp) (by simp; omega))) (Res.same hi ?_)
      rw [Addr.add_mid]
      have := rptr_part hpj hx
      rw [hb2] at this
      exact this
    · exact (run_fail h).elim
  · exact (run_fail h).elim

theorem index_sound (hE : EnvOk Γ P E) (hi : Inv A base loc hp w) (hρ : ∀ x, RV loc (okk A base loc hp) w (ρ x) (a.eval x)) {t : TypeId} {x j : Operand} (ho : o.op = .index t x j)
    (h : (evOp E ρ (.index t x j) hp).run = some (v, hp')) : OpGo P o a w (Res A base loc hp w v hp') := by
  have hx := hρ x
  have hj := hρ j
  simp only [evOp] at h
  split at h
  case h_2 => exact (run_fail h).elim
  rename_i k n i ej hi1
  rw [ej] at hj
  have hj' := int_inj hj
  have hT := hE.ti _ _ hi1
  have fin : ∀ u', (Instr.index t (a.eval x) (a.eval j)).run P w = .ok u' w → (execOp a.eval o).run P w = .ok (.value u') w := by
    intro u' hu
    unfold execOp
    simp only [ho]
    exact run_v hu
  rw [hj'] at fin
  split at h
  · rename_i s hk e1
    rw [e1] at hx
    have hS := string_of hT hk
    obtain ⟨h0, h1, h⟩ := inB_run h
    cases run_ret h
    rw [str_inj hx] at fin
    obtain ⟨hlt, e2⟩ := bt_get h0 h1
    refine .value (fin (.int .u8 (bt s n)) ?_) (Res.same hi (.int _ _))
    have e3 : s[n.toNat]? = some (s[n.toNat]'hlt) := by simp [hlt]
    simp [Instr.index, asIntOf, Sem.run_bind, run_underlying hS, h0, e3, e2]
  · rename_i cs hk e1
    rw [e1] at hx
    have hS := array_of hT hk
    split at h
    case h_2 => exact (run_fail h).elim
    rename_i ei m hi2 hK
    split at h
    case h_2 => exact (run_fail h).elim
    rename_i v' hb hv
    simp only [Bool.and_eq_true] at hb
    have hb1 := Nat.le_of_ble_eq_true hb.1
    have hb2 := Nat.le_of_ble_eq_true hb.2
    cases run_ret h
    obtain ⟨inf, d, z, g1, g2, g3, g4, g5, _⟩ := (hE.ti _ _ hi2).ex
    generalize hu : a.eval x = ux at hx fin
    cases hx with
    | agg q1 q2 =>
      rw [← g5] at hv
      obtain ⟨u', h3, h4⟩ := part_agg g1 g2 q1 q2 g3 hb2 hv
      refine .value (fin u' ?_) (Res.same hi h4)
      have hsz := (hE.ti _ _ hi2).size w
      have h5 : ((0 : Int) ≤ (Int.ofNat m) ∧ (Int.ofNat m) < (i.alen : Int)) := ⟨by simp, by simp; omega⟩
      simp only [Instr.index, asIntOf, Sem.run_bind, Sem.run_pure, Result.andThen_ok, run_underlying hS, if_pos h5, hsz]
      exact h3
  · exact (run_fail h).elim
end
end Vm
/- The symbolic machine: each operation is the model's (3): all of them. -/
namespace Vm
open Go
set_option linter.unusedVariables false
set_option linter.unusedSimpArgs false

section
variable {P : Program} {E : Env} {Γ : Glob} {A : Dom Γ} {base : Nat} {loc : List Loc} {hp hp' : HP} {w w' : World} {a : Act} {o : Oper} {u : Value} {v : AV} {ok : Nat → Prop} {ρ : Operand → AV}

theorem arr_one {α : Type} {x : Array α} {y : α} (h : x.toList = [y]) : x = #[y] := by rw [← Array.toList_inj, h]
theorem arr_two {α : Type} {x : Array α} {y z : α} (h : x.toList = [y, z]) : x = #[y, z] := by rw [← Array.toList_inj, h]

theorem RVs.map {ev : Operand → Value} (hρ : ∀ x, RV loc ok w (ρ x) (ev x)) : ∀ l : List Operand, RVs loc ok w (l.map ρ) (l.map ev)
  | [] => .nil
  | x :: l => .cons (hρ x) (RVs.map hρ l)

theorem call_sound (hE : EnvOk Γ P E) (hi : Inv A base loc hp w) (hρ : ∀ x, RV loc (okk A base loc hp) w (ρ x) (a.eval x)) {c : Call} (ho : o.op = .call c)
    (h : (evOp E ρ (.call c) hp).run = some (v, hp')) : OpGo P o a w (Res A base loc hp w v hp') := by
  obtain ⟨callee, args, argTypes⟩ := c
  cases callee with
  | invoke r m => exact (run_fail h).elim
  | value g =>
    simp only [evOp] at h
    split at h
    case h_2 => exact (run_fail h).elim
    rename_i f fs cs eg
    have hg := hρ g
    rw [eg] at hg
    generalize hu : a.eval g = ug at hg
    cases hg with
    | @fn _ _ _ va vc ha hc =>
      obtain ⟨fn, h1, h2, h3⟩ := hE.body _ _ _ _ _ h
      have hargs : RVs loc (okk A base loc hp) w (fs ++ args.toList.map ρ ++ cs) (va ++ args.toList.map a.eval ++ vc) := (ha.append (RVs.map hρ _)).append hc
      have hcall := hE.call f _ _ _ _ h A base loc w _ hi hargs
      refine .inr (.inr ⟨f, (va ++ args.toList.map a.eval ++ vc).toArray, w, ?_, hcall⟩)
      unfold execOp
      simp only [ho, resolve, hu, Deferred.ofValue, Sem.run_bind, Sem.run_pure, Result.andThen_ok, invoke, callFunc, run_program, h1]
      have e1 : (fn.name == "runtime.NumGoroutine") = false := by simpa using h3
      have e2 : fn.body.isNone = false := by cases hb : fn.body <;> simp_all
      simp only [e1, e2, Bool.false_eq_true, if_false, Sem.run_pure]
      congr 2
      apply Array.ext'
      simp
  | builtin b =>
    have fin : ∀ (s : Sem Value) u' w', (∀ cs, builtin b argTypes o.type cs (args.map a.eval) = (do pure (Next.value (← s)))) → s.run P w = .ok u' w' → (execOp a.eval o).run P w = .ok (.value u') w' := by
      intro s u' w' hs hr
      unfold execOp
      simp only [ho, resolve, Sem.run_bind, Sem.run_pure, Result.andThen_ok, invoke]
      rw [hs]
      exact run_v hr
    cases b with
    | len =>
      simp only [evOp] at h
      split at h
      case h_2 => exact (run_fail h).elim
      rename_i x t hx ht
      cases arr_one hx
      cases arr_one ht
      split at h
      case h_2 => exact (run_fail h).elim
      rename_i i hi1
      have hT := hE.ti _ _ hi1
      have hv := hρ x
      split at h
      · rename_i s hk e1
        rw [e1] at hv
        cases run_ret h
        have hS := string_of hT hk
        refine .value (fin _ _ _ (fun _ => rfl) ?_) (Res.same hi (.int _ _))
        simp [Builtin.len_, str_inj hv, run_underlying hS, goInt]
      · exact (run_fail h).elim
      · rename_i hk hns
        have hS := hT.slice hk
        split at h
        case h_2 => exact (run_fail h).elim
        rename_i n hn
        cases run_ret h
        have : ∃ B k c, a.eval x = .slice B k c ∧ (k : Int) = n := by
          unfold lenOf at hn
          split at hn
          · rename_i e; exact (hns _ e).elim
          · rename_i e
            rw [e] at hv
            simp only [Option.some.injEq] at hn
            subst hn
            generalize a.eval x = ux at hv
            cases hv
            exact ⟨_, _, _, rfl, rfl⟩
          · rename_i e
            rw [e] at hv
            simp only [Option.some.injEq] at hn
            subst hn
            generalize a.eval x = ux at hv
            cases hv
            exact ⟨_, _, _, rfl, rfl⟩
          · rename_i r e
            rw [e] at hv
            split at hn
            · rename_i e' t' xs hr
              simp only [Option.some.injEq] at hn
              subst hn
              generalize a.eval x = ux at hv
              cases hv with
              | own hl =>
                obtain ⟨_, ds, h11, h12⟩ := hi.obj r _ _ hl hr
                obtain ⟨B, c, h13, _⟩ := own_read h11 h12
                exact ⟨_, _, _, h13, rfl⟩
            · cases hn
          · rename_i r lo hi' e
            rw [e] at hv
            simp only [Option.some.injEq] at hn
            subst hn
            generalize a.eval x = ux at hv
            cases hv with
            | sub hl h0 h1 h2 hA hc => exact ⟨_, _, _, rfl, Int.toNat_of_nonneg (by omega)⟩
          · cases hn
        obtain ⟨B, k, c, e1, e2⟩ := this
        refine .value (fin _ _ _ (fun _ => rfl) ?_) (Res.same hi (.int _ _))
        simp [Builtin.len_, e1, run_underlying hS, goInt, e2]
      · exact (run_fail h).elim
    | append =>
      simp only [evOp] at h
      split at h
      case h_2 => exact (run_fail h).elim
      rename_i s x sT xT hx ht
      cases arr_two hx
      cases arr_two ht
      split at h
      case h_2 => exact (run_fail h).elim
      rename_i he
      cases Nat.eq_of_beq_eq_true he
      obtain ⟨u', w', h1, h2⟩ := append_sound (ty := o.type) hE.ti hi h (hρ s) (hρ x)
      exact .value (fin _ _ _ (fun _ => rfl) (by simpa using h1)) h2
    | min =>
      simp only [evOp] at h
      split at h
      case h_2 => exact (run_fail h).elim
      rename_i k a1 k' b1 hl
      split at h
      case isFalse => exact (run_fail h).elim
      rename_i hk
      subst hk
      cases run_ret h
      cases hargs : args.toList with
      | nil => rw [hargs] at hl; simp at hl
      | cons x r =>
        rw [hargs] at hl
        cases r with
        | nil => simp at hl
        | cons y r =>
          cases r with
          | cons z r => simp at hl
          | nil =>
            simp only [List.map_cons, List.map_nil, List.cons.injEq, and_true] at hl
            have hx := hρ x
            have hy := hρ y
            rw [hl.1] at hx
            rw [hl.2] at hy
            cases arr_two hargs
            refine .value (fin _ _ _ (fun _ => rfl) ?_) (Res.same hi (.int _ _))
            simp [Builtin.min_, Builtin.min2, int_inj hx, int_inj hy]
    | max =>
      simp only [evOp] at h
      split at h
      case h_2 => exact (run_fail h).elim
      rename_i k a1 k' b1 hl
      split at h
      case isFalse => exact (run_fail h).elim
      rename_i hk
      subst hk
      cases run_ret h
      cases hargs : args.toList with
      | nil => rw [hargs] at hl; simp at hl
      | cons x r =>
        rw [hargs] at hl
        cases r with
        | nil => simp at hl
        | cons y r =>
          cases r with
          | cons z r => simp at hl
          | nil =>
            simp only [List.map_cons, List.map_nil, List.cons.injEq, and_true] at hl
            have hx := hρ x
            have hy := hρ y
            rw [hl.1] at hx
            rw [hl.2] at hy
            cases arr_two hargs
            refine .value (fin _ _ _ (fun _ => rfl) ?_) (Res.same hi (.int _ _))
            simp [Builtin.max_, Builtin.max2, int_inj hx, int_inj hy]
    | _ => exact (run_fail h).elim

theorem op_sound (hE : EnvOk Γ P E) (hi : Inv A base loc hp w) (hρ : ∀ x, RV loc (okk A base loc hp) w (ρ x) (a.eval x)) (h : (evOp E ρ o.op hp).run = some (v, hp')) :
    OpGo P o a w (Res A base loc hp w v hp') := by
  generalize ho : o.op = op at h
  cases op with
  | move x =>
    cases run_ret h
    exact .value (u := a.eval x) (by unfold execOp; simp only [ho]; rfl) (Res.same hi (hρ x))
  | assign x =>
    cases run_ret h
    exact .value (u := a.eval x) (by unfold execOp; simp only [ho]; rfl) (Res.same hi (hρ x))
  | pick c x y =>
    have hc := hρ c
    simp only [evOp] at h
    split at h
    · rename_i e
      rw [e] at hc
      cases run_ret h
      refine .value (u := a.eval x) ?_ (Res.same hi (hρ x))
      unfold execOp
      simp [ho, bool_inj (b := true) rfl hc, asBool]
    · rename_i e
      rw [e] at hc
      cases run_ret h
      refine .value (u := a.eval y) ?_ (Res.same hi (hρ y))
      unfold execOp
      simp [ho, bool_inj (b := false) rfl hc, asBool]
    · exact (run_fail h).elim
  | alloc t =>
    simp only [evOp] at h
    split at h
    case h_2 => exact (run_fail h).elim
    rename_i i hi1
    cases run_ret h
    obtain ⟨z, h1, h2, h3, h4⟩ := (hE.ti _ _ hi1).zero w
    refine .value ?_ (new_cells hi (h2 _ _ _) h3 (t := t))
    unfold execOp
    simp only [ho]
    refine run_v ?_
    unfold Instr.alloc
    simp only [Sem.run_bind, h1, Result.andThen_ok]
    rfl
  | box t x =>
    simp only [evOp] at h
    split at h
    case h_2 => exact (run_fail h).elim
    rename_i i hi1
    split at h
    case h_2 => exact (run_fail h).elim
    rename_i cs hcs
    split at h
    case h_2 => exact (run_fail h).elim
    cases run_ret h
    obtain ⟨h1, h2⟩ := avCells_rv (hρ x) hcs
    refine .value ?_ (new_cells hi h1 h2 (t := t))
    unfold execOp
    simp only [ho]
    exact run_v rfl
  | build t parts =>
    simp only [evOp] at h
    split at h
    case h_2 => exact (run_fail h).elim
    rename_i i hi1
    split at h
    case h_2 => exact (run_fail h).elim
    rename_i cs hb hf
    simp only [Bool.and_eq_true] at hb
    cases run_ret h
    obtain ⟨u', h1, h2⟩ := build_sound hE.ti hi1 hρ hf hb.1 hb.2
    refine .value ?_ (Res.same hi h2)
    unfold execOp
    simp only [ho]
    exact run_v h1
  | buildSlice t n parts =>
    simp only [evOp] at h
    split at h
    case h_2 => exact (run_fail h).elim
    rename_i i hi1
    split at h
    case h_2 => exact (run_fail h).elim
    rename_i ei hi2 hk
    split at h
    case h_2 => exact (run_fail h).elim
    rename_i cs hb hf
    simp only [Bool.and_eq_true, Nat.blt_eq] at hb
    split at h
    case h_2 => exact (run_fail h).elim
    rename_i xs hp1 hpk
    cases run_ret h
    obtain ⟨u', w', h1, h2⟩ := buildSlice_sound hE.ti hi hi1 hi2 hk hρ (Nat.le_of_ble_eq_true hb.1) hb.2 hf hpk
    refine .value ?_ h2
    unfold execOp
    simp only [ho]
    exact run_v h1
  | load t x => exact load_sound hE hi hρ ho h
  | store t x y => exact store_sound hE hi hρ ho h
  | nilCheck x =>
    have hx := hρ x
    simp only [evOp] at h
    split at h
    all_goals first | exact (run_fail h).elim | skip
    all_goals
      rename_i e
      rw [e] at hx
      cases run_ret h
      refine .value (u := a.eval x) ?_ (Res.same hi hx)
      unfold execOp
      simp only [ho]
      generalize a.eval x = ux at hx
      cases hx
      rfl
  | binOp op t x y t' => exact binOp_sound hE hi hρ ho h
  | unOp op t x =>
    simp only [evOp] at h
    obtain ⟨z, h1, h2⟩ := T.run_some_bind h
    cases run_ret h2
    obtain ⟨u', h3, h4⟩ := evUn_sound (P := P) h1 (hρ x)
    refine .value ?_ (Res.same hi h4)
    unfold execOp
    simp only [ho]
    exact run_v h3
  | convert s d x =>
    have hx := hρ x
    simp only [evOp] at h
    split at h
    case h_2 => exact (run_fail h).elim
    rename_i i j hi1 hi2
    obtain ⟨inf, d0, z, g1, g2, _⟩ := (hE.ti _ _ hi2).ex
    split at h
    · rename_i k k' n hk e
      rw [e] at hx
      cases run_ret h
      have hS := int_of (hE.ti _ _ hi1) hk
      refine .value ?_ (Res.same hi (.int _ _))
      unfold execOp
      simp only [ho, int_inj hx]
      refine run_v ?_
      unfold convert
      simp only [Sem.run_bind, run_underlying g2, run_underlying hS, Result.andThen_ok]
      rfl
    · rename_i s' hk e
      rw [e] at hx
      cases run_ret h
      have hS := string_of (hE.ti _ _ hi1) hk
      refine .value ?_ (Res.same hi (.str _))
      unfold execOp
      simp only [ho, str_inj hx]
      refine run_v ?_
      unfold convert
      simp only [Sem.run_bind, run_underlying g2, run_underlying hS, Result.andThen_ok]
      rfl
    · rename_i r hk e
      rw [e] at hx
      split at h
      case h_2 => exact (run_fail h).elim
      rename_i ei e' xs hks hei hr
      split at h
      case h_2 => exact (run_fail h).elim
      rename_i hke
      cases run_ret h
      have hS := string_of (hE.ti _ _ hi1) hk
      have hs := (hE.ti _ _ hi2).slice hks
      have he := int_of (hE.ti _ _ hei) hke
      have hw : (convert s d (a.eval x)).run P w = .ok (.string (bytesOf xs)) w := by
        generalize a.eval x = ux at hx
        cases hx with
        | own hl =>
          obtain ⟨hsz3, ds, h11, h12⟩ := hi.obj r _ _ hl hr
          rcases h11.2 with ⟨h13, h14⟩ | ⟨g, cap, cur, h13, h14⟩
          · cases h13
            cases xs with
            | cons y ys => cases h14
            | nil => exact run_convert_bytes_nil w s j.elem hs he 0 0 d hS
          · cases h13
            obtain ⟨_, _, cs, _, _, h2⟩ := elem_of hi hl hr
            refine run_convert_bytes_arg w s j.elem hs he g 0 xs.length _ xs rfl (fun q hq => ?_) d hS
            obtain ⟨ds', h3, _, h4⟩ := h2 q _ (getD_some hq (0 : Int))
            have h3' : ds' = [.int .u8 (xs.getD q 0)] := h3
            subst h3'
            have := h4 0 _ rfl
            simpa [Ty.size] using this
      refine .value ?_ (Res.same hi (.str _))
      unfold execOp
      simp only [ho]
      exact run_v hw
    · exact (run_fail h).elim
  | makeFunc f x y =>
    cases run_ret h
    refine .value (u := .func f (x.map a.eval) (y.map a.eval)) ?_ (Res.same hi ?_)
    · unfold execOp
      simp only [ho]
      exact run_v rfl
    · have e1 : x.map a.eval = (x.toList.map a.eval).toArray := by apply Array.ext'; simp
      have e2 : y.map a.eval = (y.toList.map a.eval).toArray := by apply Array.ext'; simp
      rw [e1, e2]
      exact RV.fn (f := f) (RVs.map hρ x.toList) (RVs.map hρ y.toList)
  | slice t x lo hi' mx =>
    simp only [evOp] at h
    obtain ⟨u', h1, h2, rfl⟩ := slice_sound hE.ti hi hρ (hρ x) h
    refine .value ?_ (Res.same hi h2)
    unfold execOp
    simp only [ho]
    exact run_v h1
  | fieldAddr t x j =>
    have hx := hρ x
    simp only [evOp] at h
    split at h
    · exact (run_fail h).elim
    rename_i i hi1
    split at h
    case h_2 => exact (run_fail h).elim
    rename_i fi hk hj
    obtain ⟨fs, f, inf, d, g1, g2, g3, g4, g5, g6, g7, g8⟩ := struct_of (hE.ti _ _ hi1) hk hj
    have fin : ∀ b off, a.eval x = .pointer (some ⟨b, off, none⟩) → (execOp a.eval o).run P w = .ok (.value (.pointer (some ⟨b, off + fi.off, none⟩))) w := by
      intro b off e
      unfold execOp
      simp only [ho, e]
      rw [g3]
      exact run_v (run_fieldAt g1 g2 g5 g7 g4)
    split at h
    · rename_i r off e
      rw [e] at hx
      cases run_ret h
      obtain ⟨b, o', e3, hl⟩ := ptr_at hx
      refine .value (fin _ _ e3) (Res.same hi ?_)
      rw [Nat.add_assoc]
      exact .ptr hl
    · rename_i r k off e
      rw [e] at hx
      cases run_ret h
      generalize hu : a.eval x = ux at hx fin
      cases hx with
      | eptr hl h0 h1 =>
        refine .value (fin _ _ rfl) (Res.same hi ?_)
        rw [Nat.add_assoc]
        exact .eptr hl h0 h1
    · rename_i t' y e
      rw [e] at hx
      split at h
      case h_2 => exact (run_fail h).elim
      rename_i s z hb hpj
      cases run_ret h
      obtain ⟨b, o', e3⟩ := rptr_at hx
      rw [e3] at hx
      refine .value (fin _ _ e3) (Res.same hi ?_)
      have := rptr_part hpj hx
      rw [Nat.eq_of_beq_eq_true hb] at this
      exact this
    · exact (run_fail h).elim
  | field t x j =>
    have hx := hρ x
    simp only [evOp] at h
    split at h
    · exact (run_fail h).elim
    rename_i i hi1
    split at h
    case h_2 => exact (run_fail h).elim
    rename_i fi hk hj
    obtain ⟨fs, f, inf, d, g1, g2, g3, g4, g5, g6, g7, g8⟩ := struct_of (hE.ti _ _ hi1) hk hj
    split at h
    case h_2 => exact (run_fail h).elim
    rename_i cs e
    rw [e] at hx
    split at h
    case h_2 => exact (run_fail h).elim
    rename_i v' hb hv
    cases run_ret h
    generalize hu : a.eval x = ux at hx
    cases hx with
    | agg q1 q2 =>
      rw [← g8] at hv
      obtain ⟨u', h3, h4⟩ := part_agg g5 g6 q1 q2 g7 (Nat.le_of_ble_eq_true hb) hv
      refine .value (u := u') ?_ (Res.same hi h4)
      unfold execOp
      simp only [ho, hu]
      refine run_v ?_
      have hf' : fs[j]? = some f := by rw [← Array.getElem?_toList]; exact g2
      simp only [Instr.field, Sem.run_bind, run_underlying g1, Result.andThen_ok, hf', asAgg, Sem.run_pure]
      rw [← g3]
      exact h3
  | indexAddr t x j => exact indexAddr_sound hE hi hρ ho h
  | index t x j => exact index_sound hE hi hρ ho h
  | extract x j =>
    have hx := hρ x
    simp only [evOp] at h
    split at h
    case h_2 => exact (run_fail h).elim
    rename_i vs e
    rw [e] at hx
    split at h
    case h_2 => exact (run_fail h).elim
    rename_i v' hv
    cases run_ret h
    generalize hu : a.eval x = ux at hx
    cases hx with
    | tup q =>
      obtain ⟨y, h1, h2⟩ := q.get hv
      refine .value (u := y) ?_ (Res.same hi h2)
      unfold execOp
      simp only [ho, hu]
      refine run_v ?_
      simp [Instr.extract, h1]
  | makeSlice t n c =>
    have hn := hρ n
    have hc := hρ c
    simp only [evOp] at h
    split at h
    case h_2 => exact (run_fail h).elim
    rename_i i k1 n' k2 c' hi1 e1 e2
    rw [e1] at hn
    rw [e2] at hc
    split at h
    case h_2 => exact (run_fail h).elim
    rename_i ei hi2 hk
    split at h
    case h_2 => exact (run_fail h).elim
    rename_i z hpx hb hpk
    simp only [Bool.and_eq_true, Nat.blt_eq] at hb
    obtain ⟨h0, h⟩ := T.run_ite_fail h
    obtain ⟨h1, h⟩ := T.run_ite_fail h
    obtain ⟨h2, h⟩ := T.run_ite_fail h
    cases run_ret h
    obtain ⟨u', w', h3, h4⟩ := makeSlice_sound (k1 := k1) (k2 := k2) hE.ti hi hi1 hi2 hk hb.1 hb.2 hpk (of_decide_eq_true h0) (of_decide_eq_true h1) (of_decide_eq_true h2)
    refine .value ?_ h4
    unfold execOp
    simp only [ho, int_inj hn, int_inj hc]
    exact run_v h3
  | call c => exact call_sound hE hi hρ ho h
  | _ => exact (run_fail h).elim
end
end Vm
/- The symbolic machine: regions and code. -/
namespace Vm
open Go
set_option linter.unusedVariables false
set_option linter.unusedSimpArgs false

structure SRel {Γ : Glob} (A : Dom Γ) (base : Nat) (loc : List Loc) (σ : St) (a : Act) (w : World) : Prop where
  fr : RVs loc (okk A base loc σ.hp) w σ.fr a.tmps.toList
  df : a.defers = []
  inv : Inv A base loc σ.hp w

/-- How things stand behind some code: the first q places are where they were. -/
structure Aft (q : Nat) {Γ : Glob} (A : Dom Γ) (base : Nat) (loc : List Loc) (hp : HP) (w : World) (loc' : List Loc) (hp' : HP) (w' : World) : Prop where
  ext : ∀ r l, r < q → nth loc r = some l → nth loc' r = some l
  step : Step (MB loc hp) w w'
  sub : ∀ k, k < w.heap.size → MB loc' hp' k → MB loc hp k

section
variable {P : Program} {E : Env} {Γ : Glob} {A : Dom Γ} {base q : Nat} {loc loc' loc2 : List Loc} {hp hp' hp2 : HP} {w w' w2 : World} {a : Act} {o : Oper} {u : Value} {v : AV} {σ σ' : St}

theorem After.aft (h : After A base loc hp w loc' hp' w') : Aft q A base loc hp w loc' hp' w' := ⟨fun r l _ hl => h.ext r l hl, h.step, h.sub⟩
theorem Aft.refl : Aft q A base loc hp w loc hp w := ⟨fun _ _ _ h => h, Step.refl _ _, fun _ _ h => h⟩
theorem Aft.trans (h : Aft q A base loc hp w loc' hp' w') (h' : Aft q A base loc' hp' w' loc2 hp2 w2) : Aft q A base loc hp w loc2 hp2 w2 :=
  ⟨fun r l hr hl => h'.ext r l hr (h.ext r l hr hl), h.step.trans h'.step (fun k hk hm => h.sub k hk hm),
    fun k hk hm => h.sub k hk (h'.sub k (Nat.lt_of_lt_of_le hk h.step.size) hm)⟩

theorem SRel.ev (h : SRel A base loc σ a w) (x : Operand) : RV loc (okk A base loc σ.hp) w (σ.ev x) (a.eval x) := by
  cases x with
  | tmp t =>
    simp only [St.ev, Act.eval]
    cases ht : nth σ.fr t with
    | none => exact .undef _
    | some v =>
      obtain ⟨u, h1, h2⟩ := h.fr.get ht
      have : a.tmps[t]? = some u := by rw [← Array.getElem?_toList]; exact h1
      rw [Array.getD_eq_getD_getElem?, this]
      exact h2
  | const v =>
    have h1 : ∀ v : Value, RV loc (okk A base loc σ.hp) w (ofV1 v) v := by
      intro v
      unfold ofV1
      split
      · exact .bk _
      · exact .int _ _
      · exact .str _
      · exact .nils
      · exact .nilp
      · exact .undef _
    have hm : ∀ l : List Value, RVs loc (okk A base loc σ.hp) w (l.map ofV1) l := by
      intro l
      induction l with
      | nil => exact .nil
      | cons x l ih => exact .cons (h1 x) ih
    show RV _ _ _ (ofV v) v
    unfold ofV
    split
    · rename_i cs
      split
      · rename_i hall
        have := RV.agg (hm cs.toList) (fun u hu => List.all_eq_true.1 hall u hu)
        simpa using this
      · exact .undef _
    · exact h1 v
  | global g => exact .undef _
  | func f => exact .fn .nil .nil

theorem SRel.put (h : SRel A base loc σ a w) {loc' : List Loc} {hp' : HP} {w' : World} (ha : After A base loc σ.hp w loc' hp' w') (dst : Option Tmp) {v : AV} {u : Value} (hv : RV loc' (okk A base loc' hp') w' v u) :
    SRel A base loc' ⟨putD σ.fr dst v, hp'⟩ (a.put dst u) w' := by
  have hf := ha.rvs h.fr
  cases dst with
  | none => exact ⟨hf, h.df, ha.inv⟩
  | some d =>
    refine ⟨?_, h.df, ha.inv⟩
    show RVs _ _ _ (setNth σ.fr d v) (a.tmps.setIfInBounds d u).toList
    rw [Array.toList_setIfInBounds]
    exact hf.set d hv

/-- A slot whose bool has become known. -/
theorem SRel.know (h : SRel A base loc σ a w) {t : Nat} {b : Bool} (ht : nth σ.fr t = some (.bool b)) : SRel A base loc ⟨setNth σ.fr t (.bk b), σ.hp⟩ a w := by
  refine ⟨?_, h.df, h.inv⟩
  obtain ⟨u, h1, h2⟩ := h.fr.get ht
  cases h2
  have := h.fr.set t (RV.bk (loc := loc) (ok := okk A base loc σ.hp) (w := w) b)
  have e : a.tmps.toList.set t (.bool b) = a.tmps.toList := by
    apply List.ext_getElem?
    intro i
    by_cases hi : t = i
    · subst hi
      rw [List.getElem?_set_self (List.getElem?_eq_some_iff.1 h1).1, h1]
    · rw [List.getElem?_set_ne hi]
  rw [e] at this
  exact this

/-- What a guard's slot holds. -/
theorem yield_of (h : SRel A base loc σ a w) {ops : Array Oper} {j t : Nat} (hj : (ops[j]?).bind (·.dst) = some t) :
    (∀ b, nth σ.fr t = some (.bk b) ∨ nth σ.fr t = some (.bool b) → yielded ops a.tmps j = some b) ∧ (nth σ.fr t = some .nov → yielded ops a.tmps j = none) := by
  refine ⟨fun b hb => ?_, fun hb => ?_⟩
  · rcases hb with hb | hb
    all_goals
      obtain ⟨u, h1, h2⟩ := h.fr.get hb
      cases h2
      have : a.tmps[t]? = some (.bool b) := by rw [← Array.getElem?_toList]; exact h1
      simp [yielded, hj, this]
  · obtain ⟨u, h1, h2⟩ := h.fr.get hb
    cases h2
    have : a.tmps[t]? = some Go.undef := by rw [← Array.getElem?_toList]; exact h1
    simp [yielded, hj, this, Go.undef]

/-- One operation, guard and all. -/
theorem oper_sound (hE : EnvOk Γ P E) {ops : Array Oper} {o : Oper} {p : List AV × HP} (h : (evOper E ops.toList o σ).run = some p) (hs : SRel A base loc σ a w) :
    (Region.wanted o (yielded ops a.tmps) = true ∧ OpGo P o a w (fun u w' => ∃ loc', SRel A base loc' ⟨p.1, p.2⟩ (a.put o.dst u) w' ∧ After A base loc σ.hp w loc' p.2 w')) ∨
    (Region.wanted o (yielded ops a.tmps) = false ∧ SRel A base loc ⟨p.1, p.2⟩ (a.put o.dst Go.undef) w ∧ p.2 = σ.hp) := by
  have yes : ∀ σ1 : St, σ1.hp = σ.hp → SRel A base loc σ1 a w → ((evOp E σ1.ev o.op σ1.hp).bind fun p => .ret (putD σ1.fr o.dst p.1, p.2)).run = some p → Region.wanted o (yielded ops a.tmps) = true →
      (Region.wanted o (yielded ops a.tmps) = true ∧ OpGo P o a w (fun u w' => ∃ loc', SRel A base loc' ⟨p.1, p.2⟩ (a.put o.dst u) w' ∧ After A base loc σ.hp w loc' p.2 w')) := by
    intro σ1 hh hs1 h1 hw
    obtain ⟨⟨v, hp'⟩, h2, h3⟩ := T.run_some_bind h1
    simp only [T.run, Option.some.injEq] at h3
    subst h3
    refine ⟨hw, (op_sound hE hs1.inv (fun x => hs1.ev x) h2).mono (fun u w' ⟨loc', h4, h5⟩ => ⟨loc', ?_, ?_⟩)⟩
    · exact hs1.put h5 o.dst h4
    · rw [← hh]; exact h5
  have no : ∀ σ1 : St, σ1.hp = σ.hp → SRel A base loc σ1 a w → (T.ret (putD σ1.fr o.dst .nov, σ1.hp)).run = some p → SRel A base loc ⟨p.1, p.2⟩ (a.put o.dst Go.undef) w ∧ p.2 = σ.hp := by
    intro σ1 hh hs1 h1
    simp only [T.run, Option.some.injEq] at h1
    subst h1
    exact ⟨hs1.put (After.refl hs1.inv) o.dst .nov, hh⟩
  unfold evOper evGuard at h
  split at h
  · rename_i hg
    exact .inl (yes σ rfl hs h (by simp [Region.wanted, hg]))
  · rename_i j want hg
    have hwant : Region.wanted o (yielded ops a.tmps) = (yielded ops a.tmps j == some want) := by simp [Region.wanted, hg]
    rw [nth_eq, Array.getElem?_toList] at h
    split at h
    · rename_i hj
      refine .inr ⟨?_, no σ rfl hs h⟩
      rw [hwant]
      simp [yielded, hj]
    · rename_i t hj
      obtain ⟨y1, y2⟩ := yield_of hs hj
      have getD : ∀ x : AV, x ≠ .undef → (nth σ.fr t).getD .undef = x → nth σ.fr t = some x := by
        intro x hx hh
        cases hn : nth σ.fr t with
        | none => rw [hn] at hh; exact absurd hh.symm hx
        | some y => rw [hn] at hh; simp only [Option.getD_some] at hh; rw [hh]
      split at h
      · rename_i e
        refine .inr ⟨?_, no σ rfl hs h⟩
        rw [hwant, y2 (getD _ (by simp) e)]
        rfl
      · rename_i b e
        have hy := y1 b (.inl (getD _ (by simp) e))
        rw [hy] at hwant
        split at h
        · exact .inl (yes σ rfl hs h (by rw [hwant]; rfl))
        · exact .inl (yes σ rfl hs h (by rw [hwant]; rfl))
        · rename_i h1 h2
          refine .inr ⟨?_, no σ rfl hs h⟩
          rw [hwant]
          cases b <;> cases want <;> simp_all
      · rename_i b e
        have hb := getD _ (by simp) e
        have hy := y1 b (.inr hb)
        have hk := hs.know hb
        rw [hy] at hwant
        simp only [T.run] at h
        cases b <;> cases want <;> simp only [cond_true, cond_false] at h
        · exact .inl (yes ⟨setNth σ.fr t (.bk false), σ.hp⟩ rfl hk h (by rw [hwant]; rfl))
        · exact .inr ⟨by rw [hwant]; rfl, no ⟨setNth σ.fr t (.bk false), σ.hp⟩ rfl hk h⟩
        · exact .inr ⟨by rw [hwant]; rfl, no ⟨setNth σ.fr t (.bk true), σ.hp⟩ rfl hk h⟩
        · exact .inl (yes ⟨setNth σ.fr t (.bk true), σ.hp⟩ rfl hk h (by rw [hwant]; rfl))
      · exact (run_fail h).elim

/-- The operations of a region, in the order of the text. -/
theorem ops_sound (hE : EnvOk Γ P E) {ops : Array Oper} {Q : Exit → Act → World → Prop} : ∀ {l : List Oper} {σ : St} {a : Act} {w : World} {loc : List Loc}, (evOps E ops.toList l σ).run = some σ' → SRel A base loc σ a w →
    (∀ loc' a' w', SRel A base loc' σ' a' w' → After A base loc σ.hp w loc' σ'.hp w' → Q .normal a' w') → wpList P ops Q l a w
  | [], σ, a, w, loc, h, hs, hQ => by
    simp only [evOps, T.run, Option.some.injEq] at h
    subst h
    exact hQ _ _ _ hs (After.refl hs.inv)
  | o :: rest, σ, a, w, loc, h, hs, hQ => by
    simp only [evOps] at h
    obtain ⟨p, h1, h2⟩ := T.run_some_bind h
    simp only [wpList]
    rcases oper_sound hE h1 hs with ⟨hw, hgo⟩ | ⟨hw, hs', hh⟩
    · rw [hw, if_pos rfl]
      refine .inl (hgo.wp (fun u w' ⟨loc', h3, h4⟩ => ?_))
      exact ops_sound hE h2 h3 (fun loc2 a2 w2 h5 h6 => hQ _ _ _ h5 (h4.trans h6))
    · rw [hw, if_neg (by simp)]
      refine ops_sound hE h2 hs' (fun loc2 a2 w2 h5 h6 => hQ _ _ _ h5 ?_)
      simp only [hh] at h6
      exact h6
end
end Vm
/- The symbolic machine: what an operation touches. -/
namespace Vm
open Go
set_option linter.unusedVariables false
set_option linter.unusedSimpArgs false

section
variable {E : Env} {ρ ρ' : Operand → AV} {hp hp' hp2 : HP} {v : AV}

theorem slOf_keep {m : Mo} (hm : m ≠ .give) {t : Ty} {a : AV} {xs : List t.den} (h : slOf m hp t a = some (xs, hp')) : hp' = hp := by
  have hg : ∀ r, gone m hp r = hp := by intro r; cases m <;> first | rfl | exact absurd rfl hm
  unfold slOf at h
  split at h
  · split at h
    · simp only [Option.some.injEq, Prod.mk.injEq] at h; exact h.2.symm
    · cases h
  · simp only [Option.some.injEq, Prod.mk.injEq] at h; exact h.2.symm
  · split at h
    · simp only [Option.some.injEq, Prod.mk.injEq, hg] at h; exact h.2.symm
    · cases h
  · split at h
    · simp only [Option.some.injEq, Prod.mk.injEq, hg] at h; exact h.2.symm
    · cases h
  · cases h

theorem pack_keep {m : Mo} (hm : m ≠ .give) : ∀ (t : Ty) {hp hp' : HP} {aq rest : List AV} {x : t.den}, pack m t hp aq = some (x, rest, hp') → hp' = hp := by
  intro t
  induction t with
  | int k => intro hp hp' aq rest x h; cases aq with
    | nil => simp [pack] at h
    | cons b r => cases b <;> simp [pack] at h <;> simp [h]
  | bool => intro hp hp' aq rest x h; cases aq with
    | nil => simp [pack] at h
    | cons b r => cases b <;> simp [pack] at h <;> simp [h]
  | str => intro hp hp' aq rest x h; cases aq with
    | nil => simp [pack] at h
    | cons b r => cases b <;> simp [pack] at h <;> simp [h]
  | unit => intro hp hp' aq rest x h; simp [pack] at h; simp [h]
  | pair a b iha ihb =>
    intro hp hp' aq rest x h
    simp only [pack] at h
    split at h
    · rename_i e1
      split at h
      · rename_i e2
        simp only [Option.some.injEq, Prod.mk.injEq] at h
        rw [← h.2.2, ihb e2, iha e1]
      · cases h
    · cases h
  | sl e t ih =>
    intro hp hp' aq rest x h
    cases aq with
    | nil => simp [pack] at h
    | cons b r =>
      simp only [pack] at h
      split at h
      · rename_i e1
        simp only [Option.some.injEq, Prod.mk.injEq] at h
        rw [← h.2.2]
        exact slOf_keep hm e1
      · cases h

/-- Data without slices are read off alike by every way, and nothing is given away. -/
theorem pack_any {m : Mo} : ∀ (t : Ty) {hp hp' : HP} {aq rest : List AV} {x : t.den}, noSl t = true → pack m t hp aq = some (x, rest, hp') → hp' = hp ∧ ∀ m2 hp2, pack m2 t hp2 aq = some (x, rest, hp2) := by
  intro t
  induction t with
  | int k => intro hp hp' aq rest x hn h; cases aq with
    | nil => simp [pack] at h
    | cons b r =>
      cases b <;> simp [pack] at h
      obtain ⟨rfl, h1, h2, h3⟩ := h
      exact ⟨h3.symm, fun m2 hp2 => by simp [pack, h1, h2]⟩
  | bool => intro hp hp' aq rest x hn h; cases aq with
    | nil => simp [pack] at h
    | cons b r =>
      cases b <;> simp [pack] at h
      all_goals
        obtain ⟨h1, h2, h3⟩ := h
        exact ⟨h3.symm, fun m2 hp2 => by simp [pack, h1, h2]⟩
  | str => intro hp hp' aq rest x hn h; cases aq with
    | nil => simp [pack] at h
    | cons b r =>
      cases b <;> simp [pack] at h
      obtain ⟨h1, h2, h3⟩ := h
      exact ⟨h3.symm, fun m2 hp2 => by simp [pack, h1, h2]⟩
  | unit => intro hp hp' aq rest x hn h; simp [pack] at h; exact ⟨h.2.symm, fun m2 hp2 => by simp [pack, h.1]⟩
  | pair a b iha ihb =>
    intro hp hp' aq rest x hn h
    simp only [noSl, Bool.and_eq_true] at hn
    simp only [pack] at h
    split at h
    · rename_i e1
      split at h
      · rename_i e2
        simp only [Option.some.injEq, Prod.mk.injEq] at h
        obtain ⟨rfl, rfl, rfl⟩ := h
        obtain ⟨rfl, g1⟩ := iha hn.1 e1
        obtain ⟨rfl, g2⟩ := ihb hn.2 e2
        exact ⟨rfl, fun m2 hp2 => by simp [pack, g1 m2 hp2, g2 m2 hp2]⟩
      · cases h
    · cases h
  | sl e t ih => intro hp hp' aq rest x hn h; simp [noSl] at hn

theorem pack_strict_any : ∀ (t : Ty) {hp hp' : HP} {aq rest : List AV} {x : t.den}, pack .strict t hp aq = some (x, rest, hp') → ∀ hp2, pack .strict t hp2 aq = some (x, rest, hp2) := by
  intro t
  induction t with
  | int k => intro hp hp' aq rest x h hp2; exact (pack_any _ rfl h).2 _ _
  | bool => intro hp hp' aq rest x h hp2; exact (pack_any _ rfl h).2 _ _
  | str => intro hp hp' aq rest x h hp2; exact (pack_any _ rfl h).2 _ _
  | unit => intro hp hp' aq rest x h hp2; exact (pack_any _ rfl h).2 _ _
  | pair a b iha ihb =>
    intro hp hp' aq rest x h hp2
    simp only [pack] at h
    split at h
    · rename_i e1
      split at h
      · rename_i e2
        simp only [Option.some.injEq, Prod.mk.injEq] at h
        obtain ⟨rfl, rfl, rfl⟩ := h
        simp [pack, iha e1 hp2, ihb e2 hp2]
      · cases h
    · cases h
  | sl e t ih =>
    intro hp hp' aq rest x h hp2
    cases aq with
    | nil => simp [pack] at h
    | cons b r =>
      simp only [pack] at h
      split at h
      · rename_i ys hp1 e1
        have : slOf .strict hp2 t b = some (ys, hp2) := by
          unfold slOf at e1 ⊢
          split at e1
          · split at e1
            · rename_i h'
              simp only [Option.some.injEq, Prod.mk.injEq] at e1
              simp only [h', dite_true]
              rw [e1.1]
            · cases e1
          · simp only [Option.some.injEq, Prod.mk.injEq] at e1
            rw [← e1.1]
          · simp [arrAt] at e1
          · simp [arrAt] at e1
          · cases e1
        simp only [Option.some.injEq, Prod.mk.injEq] at h
        obtain ⟨rfl, rfl, rfl⟩ := h
        simp [pack, this]
      · cases h

theorem packAll_keep {m : Mo} (hm : m ≠ .give) {t : Ty} {aq : List AV} {x : t.den} (h : packAll m hp t aq = some (x, hp')) : hp' = hp := by
  unfold packAll at h
  split at h
  · rename_i e1
    simp only [Option.some.injEq, Prod.mk.injEq] at h
    rw [← h.2]
    exact pack_keep hm t e1
  · cases h
theorem packAll_strict_any {t : Ty} {aq : List AV} {x : t.den} (h : packAll .strict hp t aq = some (x, hp')) (hp2 : HP) : packAll .strict hp2 t aq = some (x, hp2) := by
  unfold packAll at h ⊢
  split at h
  · rename_i e1
    simp only [Option.some.injEq, Prod.mk.injEq] at h
    rw [pack_strict_any t e1 hp2]
    simp [h.1]
  · cases h
theorem packAll_any {m : Mo} {t : Ty} (hn : noSl t = true) {aq : List AV} {x : t.den} (h : packAll m hp t aq = some (x, hp')) : hp' = hp ∧ ∀ m2 hp2, packAll m2 hp2 t aq = some (x, hp2) := by
  unfold packAll at h ⊢
  split at h
  · rename_i e1
    simp only [Option.some.injEq, Prod.mk.injEq] at h
    obtain ⟨g1, g2⟩ := pack_any t hn e1
    exact ⟨h.2.symm.trans g1, fun m2 hp2 => by rw [g2 m2 hp2]; simp [h.1]⟩
  · cases h

theorem decP_keep {m : Mo} (hm : m ≠ .give) : ∀ (ps : List PT) {hp hp' : HP} {aq : List AV} {x : denP ps}, decP m ps hp aq = some (x, hp') → hp' = hp
  | [], hp, hp', aq, x, h => by
    cases aq with
    | nil => simp only [decP, Option.some.injEq, Prod.mk.injEq] at h; exact h.2.symm
    | cons _ _ => simp [decP] at h
  | .d t :: ps, hp, hp', aq, x, h => by
    cases aq with
    | nil => simp [decP] at h
    | cons a aq =>
      simp only [decP] at h
      split at h
      case h_2 => cases h
      split at h
      case h_2 => cases h
      rename_i y hp1 hpk
      split at h
      case h_2 => cases h
      rename_i r hp2 hd
      simp only [Option.some.injEq, Prod.mk.injEq] at h
      rw [← h.2, decP_keep hm ps hd, packAll_keep hm hpk]
  | .rp t :: ps, hp, hp', aq, x, h => by
    cases aq with
    | nil => simp [decP] at h
    | cons a aq =>
      simp only [decP] at h
      split at h
      case h_2 => cases h
      split at h
      case h_2 => cases h
      rename_i r hp2 hd
      simp only [Option.some.injEq, Prod.mk.injEq] at h
      rw [← h.2, decP_keep hm ps hd]

theorem ptrData_kill {m : Mo} {t : Ty} {x : t.den} {a : AV} (h : ptrData m hp t a = some x) : m ≠ .lend → ∃ y, a = .rptr t y ∧ x = y := by
  intro hm
  unfold ptrData at h
  split at h
  · split at h
    · rename_i e
      subst e
      simp only [Option.some.injEq] at h
      exact ⟨_, rfl, h.symm⟩
    · cases h
  · split at h
    · exact absurd rfl hm
    · cases h
  · cases h

theorem ptrData_any {m : Mo} (hm : m ≠ .lend) {t : Ty} {a : AV} {x : t.den} (h : ptrData m hp t a = some x) (m2 : Mo) (hp2 : HP) : ptrData m2 hp2 t a = some x := by
  obtain ⟨y, rfl, rfl⟩ := ptrData_kill h hm
  simp [ptrData]

theorem decPD_any {m : Mo} : ∀ (ps : List PT) {hp hp' : HP} {aq : List AV} {x : denP ps}, noSlD ps = true → decP m ps hp aq = some (x, hp') → hp' = hp ∧ ∀ m2 hp2, decP m2 ps hp2 aq = some (x, hp2)
  | [], hp, hp', aq, x, hn, h => by
    cases aq with
    | nil => simp only [decP, Option.some.injEq, Prod.mk.injEq] at h; exact ⟨h.2.symm, fun m2 hp2 => by simp [decP]⟩
    | cons _ _ => simp [decP] at h
  | .d t :: ps, hp, hp', aq, x, hn, h => by
    simp only [noSlD, Bool.and_eq_true] at hn
    cases aq with
    | nil => simp [decP] at h
    | cons a aq =>
      simp only [decP] at h
      split at h
      case h_2 => cases h
      rename_i cs h1 h2
      split at h
      case h_2 => cases h
      rename_i y hp1 hpk
      split at h
      case h_2 => cases h
      rename_i r hp2 hd
      simp only [Option.some.injEq, Prod.mk.injEq] at h
      obtain ⟨rfl, rfl⟩ := h
      obtain ⟨rfl, g1⟩ := packAll_any hn.1 hpk
      obtain ⟨rfl, g2⟩ := decPD_any ps hn.2 hd
      exact ⟨rfl, fun m2 hp2 => by simp [decP, h1, h2, g1 m2 hp2, g2 m2 hp2]⟩
  | .rp t :: ps, hp, hp', aq, x, hn, h => by cases hn
theorem decP_any {m : Mo} (hm : m ≠ .lend) : ∀ (ps : List PT) {hp hp' : HP} {aq : List AV} {x : denP ps}, noSlP ps = true → decP m ps hp aq = some (x, hp') → hp' = hp ∧ ∀ m2 hp2, decP m2 ps hp2 aq = some (x, hp2)
  | [], hp, hp', aq, x, hn, h => by
    cases aq with
    | nil => simp only [decP, Option.some.injEq, Prod.mk.injEq] at h; exact ⟨h.2.symm, fun m2 hp2 => by simp [decP]⟩
    | cons _ _ => simp [decP] at h
  | .d t :: ps, hp, hp', aq, x, hn, h => by
    simp only [noSlP, Bool.and_eq_true] at hn
    cases aq with
    | nil => simp [decP] at h
    | cons a aq =>
      simp only [decP] at h
      split at h
      case h_2 => cases h
      rename_i cs h1 h2
      split at h
      case h_2 => cases h
      rename_i y hp1 hpk
      split at h
      case h_2 => cases h
      rename_i r hp2 hd
      simp only [Option.some.injEq, Prod.mk.injEq] at h
      obtain ⟨rfl, rfl⟩ := h
      obtain ⟨rfl, g1⟩ := packAll_any hn.1 hpk
      obtain ⟨rfl, g2⟩ := decP_any hm ps hn.2 hd
      exact ⟨rfl, fun m2 hp2 => by simp [decP, h1, h2, g1 m2 hp2, g2 m2 hp2]⟩
  | .rp t :: ps, hp, hp', aq, x, hn, h => by
    simp only [noSlP] at hn
    cases aq with
    | nil => simp [decP] at h
    | cons a aq =>
      simp only [decP] at h
      split at h
      case h_2 => cases h
      rename_i y hpd
      split at h
      case h_2 => cases h
      rename_i r hp2 hd
      simp only [Option.some.injEq, Prod.mk.injEq] at h
      obtain ⟨rfl, rfl⟩ := h
      obtain ⟨rfl, g2⟩ := decP_any hm ps hn hd
      exact ⟨rfl, fun m2 hp2 => by simp [decP, ptrData_any hm hpd m2 hp2, g2 m2 hp2]⟩
end
end Vm
/- The symbolic machine: what an operation touches (2). -/
namespace Vm
open Go
set_option linter.unusedVariables false
set_option linter.unusedSimpArgs false

section
variable {E : Env} {ρ ρ' : Operand → AV} {hp hp' hp2 : HP} {v : AV}

def Same0 (E : Env) (ρ : Operand → AV) (op : Op) (hp : HP) (v : AV) (hp' : HP) : Prop := hp' = hp ∧ ∀ hp2, (evOp E ρ op hp2).run = some (v, hp2)
def Same1 (E : Env) (ρ : Operand → AV) (op : Op) (r : Nat) (hp : HP) (v : AV) (hp' : HP) : Prop := hp' = hp ∧ ∀ hp2, nth hp2 r = nth hp r → (evOp E ρ op hp2).run = some (v, hp2)

theorem run_inB_mk {known : Bool} {i n : Int} {x : T (AV × HP)} {r : AV × HP} (h0 : 0 ≤ i) (h1 : i < n) (h : x.run = some r) : (inB known i n x).run = some r := by
  unfold inB T.tst
  cases known <;> simp [T.run, h0, h1, h]
theorem run_cut {known : Bool} {lo hi n : Int} {x : T (AV × HP)} {r : AV × HP} (h : (cut known lo hi n x).run = some r) : (0 ≤ lo ∧ lo ≤ hi ∧ hi ≤ n) ∧ x.run = some r := by
  unfold cut at h
  obtain ⟨h1, h⟩ := T.run_tst_fail h
  obtain ⟨h2, h⟩ := T.run_ite_fail h
  obtain ⟨h3, h⟩ := T.run_ite_fail h
  exact ⟨⟨of_decide_eq_true h1, of_decide_eq_true h2, of_decide_eq_true h3⟩, h⟩
theorem run_cut_mk {known : Bool} {lo hi n : Int} {x : T (AV × HP)} {r : AV × HP} (h0 : 0 ≤ lo ∧ lo ≤ hi ∧ hi ≤ n) (h : x.run = some r) : (cut known lo hi n x).run = some r := by
  unfold cut T.tst
  cases known <;> simp [T.run, h0, h]

theorem s0_bind {x : T AV} {op : Op} (he : ∀ hp, evOp E ρ op hp = x.bind fun z => .ret (z, hp)) (h : (evOp E ρ op hp).run = some (v, hp')) : Same0 E ρ op hp v hp' := by
  rw [he] at h
  obtain ⟨z, h1, h2⟩ := T.run_some_bind h
  simp only [T.run, Option.some.injEq, Prod.mk.injEq] at h2
  obtain ⟨rfl, rfl⟩ := h2
  exact ⟨rfl, fun hp2 => by rw [he]; simp [T.run_bind, h1, T.run]⟩
theorem s0_ret {x : T AV} {op : Op} (he : ∀ hp, evOp E ρ op hp = x.bind fun z => .ret (z, hp)) (h : (evOp E ρ op hp).run = some (v, hp')) : Same0 E ρ op hp v hp' := s0_bind he h

theorem ret_of {a b : AV × HP} (h : (T.ret a).run = some b) : a = b := by simpa [T.run] using h

theorem k0_move {x : Operand} (h : (evOp E ρ (.move x) hp).run = some (v, hp')) : Same0 E ρ (.move x) hp v hp' := s0_bind (x := .ret (ρ x)) (fun _ => rfl) h
theorem k0_assign {x : Operand} (h : (evOp E ρ (.assign x) hp).run = some (v, hp')) : Same0 E ρ (.assign x) hp v hp' := s0_bind (x := .ret (ρ x)) (fun _ => rfl) h
theorem k0_makeFunc {f : Fn} {a b : Array Operand} (h : (evOp E ρ (.makeFunc f a b) hp).run = some (v, hp')) : Same0 E ρ (.makeFunc f a b) hp v hp' := s0_bind (x := .ret (.fn f (a.toList.map ρ) (b.toList.map ρ))) (fun _ => rfl) h
theorem k0_unOp {o : UnOp} {t : TypeId} {x : Operand} (h : (evOp E ρ (.unOp o t x) hp).run = some (v, hp')) : Same0 E ρ (.unOp o t x) hp v hp' := s0_bind (x := evUn o (ρ x)) (fun _ => rfl) h

/-- An operation that only gives back a value. -/
theorem s0_of {op : Op} (h : (evOp E ρ op hp).run = some (v, hp')) (hs : (evOp E ρ op hp).run = some (v, hp') → hp' = hp) (hi : ∀ hp2, (evOp E ρ op hp2).run = some (v, hp2)) : Same0 E ρ op hp v hp' := ⟨hs h, hi⟩

theorem k0_pick {c x y : Operand} (h : (evOp E ρ (.pick c x y) hp).run = some (v, hp')) : Same0 E ρ (.pick c x y) hp v hp' := by
  simp only [evOp] at h
  split at h
  · rename_i e; cases ret_of h; exact ⟨rfl, fun hp2 => by simp [evOp, e, T.run]⟩
  · rename_i e; cases ret_of h; exact ⟨rfl, fun hp2 => by simp [evOp, e, T.run]⟩
  · exact (run_fail h).elim
theorem k0_nilCheck {x : Operand} (h : (evOp E ρ (.nilCheck x) hp).run = some (v, hp')) : Same0 E ρ (.nilCheck x) hp v hp' := by
  simp only [evOp] at h
  split at h
  all_goals first | exact (run_fail h).elim | (rename_i e; cases ret_of h; exact ⟨rfl, fun hp2 => by simp [evOp, e, T.run]⟩)
theorem k0_extract {x : Operand} {j : Nat} (h : (evOp E ρ (.extract x j) hp).run = some (v, hp')) : Same0 E ρ (.extract x j) hp v hp' := by
  simp only [evOp] at h
  split at h
  case h_2 => exact (run_fail h).elim
  rename_i e
  split at h
  case h_2 => exact (run_fail h).elim
  rename_i e2
  cases ret_of h; exact ⟨rfl, fun hp2 => by simp [evOp, e, e2, T.run]⟩
theorem k0_binOp {o : BinOp} {t s : TypeId} {x y : Operand} (h : (evOp E ρ (.binOp o t x y s) hp).run = some (v, hp')) : Same0 E ρ (.binOp o t x y s) hp v hp' := by
  simp only [evOp] at h
  split at h
  · rename_i e1 e2
    split at h
    · rename_i q1 q2 q3; cases ret_of h; exact ⟨rfl, fun hp2 => by simp only [evOp, e1, e2, q2, q3, T.run]⟩
    · rename_i q1 q2 q3; cases ret_of h; exact ⟨rfl, fun hp2 => by simp only [evOp, e1, e2, q2, q3, T.run]⟩
    · exact (run_fail h).elim
  · rename_i hne
    obtain ⟨z, h1, h2⟩ := T.run_some_bind h
    cases ret_of h2
    refine ⟨rfl, fun hp2 => ?_⟩
    simp only [evOp]
    simp [T.run_bind, h1, T.run]
theorem s1_convert {s d : TypeId} {x : Operand} {r : Nat} (hr : fpOf E ρ (.convert s d x) = .k1 r ∨ fpOf E ρ (.convert s d x) = .k0) (h : (evOp E ρ (.convert s d x) hp).run = some (v, hp')) :
    hp' = hp ∧ ∀ hp2, (fpOf E ρ (.convert s d x) = .k1 r → nth hp2 r = nth hp r) → (evOp E ρ (.convert s d x) hp2).run = some (v, hp2) := by
  simp only [evOp] at h
  split at h
  case h_2 => exact (run_fail h).elim
  rename_i e1 e2
  split at h
  · rename_i q1 q2; cases ret_of h; exact ⟨rfl, fun hp2 hh => by simp [evOp, e1, e2, q1, q2, T.run]⟩
  · rename_i q1 q2; cases ret_of h; exact ⟨rfl, fun hp2 hh => by simp [evOp, e1, e2, q1, q2, T.run]⟩
  · rename_i r' q1 q2
    split at h
    case h_2 => exact (run_fail h).elim
    rename_i ei e' xs q3 q4 q5
    split at h
    case h_2 => exact (run_fail h).elim
    rename_i q6
    simp only [fpOf, q2] at hr ⊢
    simp only [FP.k1.injEq, reduceCtorEq, or_false] at hr
    subst hr
    cases ret_of h; exact ⟨rfl, fun hp2 hh => by simp only [evOp, e1, e2, q1, q2, q3, q4, hh rfl, q5, q6, T.run]⟩
  · exact (run_fail h).elim
theorem k0_build {t : TypeId} {ps : Array (Nat × Operand)} (h : (evOp E ρ (.build t ps) hp).run = some (v, hp')) : Same0 E ρ (.build t ps) hp v hp' := by
  simp only [evOp] at h
  split at h
  case h_2 => exact (run_fail h).elim
  rename_i i e1
  split at h
  case h_2 => exact (run_fail h).elim
  rename_i cs q1 q2
  cases ret_of h; exact ⟨rfl, fun hp2 => by simp only [evOp, e1, q1, q2, T.run]⟩
theorem k0_fieldAddr {t : TypeId} {x : Operand} {j : Nat} (h : (evOp E ρ (.fieldAddr t x j) hp).run = some (v, hp')) : Same0 E ρ (.fieldAddr t x j) hp v hp' := by
  simp only [evOp] at h
  split at h
  · exact (run_fail h).elim
  rename_i i e1
  split at h
  case h_2 => exact (run_fail h).elim
  rename_i f q1 q2
  split at h
  · rename_i e; cases ret_of h; exact ⟨rfl, fun hp2 => by simp only [evOp, e1, q1, q2, e, T.run]⟩
  · rename_i e; cases ret_of h; exact ⟨rfl, fun hp2 => by simp only [evOp, e1, q1, q2, e, T.run]⟩
  · rename_i e
    split at h
    · rename_i g1 g2; cases ret_of h; exact ⟨rfl, fun hp2 => by simp only [evOp, e1, q1, q2, e, g1, g2, T.run]⟩
    · exact (run_fail h).elim
  · exact (run_fail h).elim
theorem k0_field {t : TypeId} {x : Operand} {j : Nat} (h : (evOp E ρ (.field t x j) hp).run = some (v, hp')) : Same0 E ρ (.field t x j) hp v hp' := by
  simp only [evOp] at h
  split at h
  · exact (run_fail h).elim
  rename_i i e1
  split at h
  case h_2 => exact (run_fail h).elim
  rename_i f q1 q2
  split at h
  case h_2 => exact (run_fail h).elim
  rename_i cs e
  split at h
  case h_2 => exact (run_fail h).elim
  rename_i g1 g2
  cases ret_of h; exact ⟨rfl, fun hp2 => by simp only [evOp, e1, q1, q2, e, g1, g2, T.run]⟩
theorem k0_index {t : TypeId} {x j : Operand} (h : (evOp E ρ (.index t x j) hp).run = some (v, hp')) : Same0 E ρ (.index t x j) hp v hp' := by
  simp only [evOp] at h
  split at h
  case h_2 => exact (run_fail h).elim
  rename_i k n i e1 e2
  split at h
  case h_3 => exact (run_fail h).elim
  · rename_i s q1 q2
    obtain ⟨h0, h1, h2⟩ := inB_run h
    cases ret_of h2; exact ⟨rfl, fun hp2 => by simp only [evOp, e1, e2, q1, q2]; exact run_inB_mk h0 h1 rfl⟩
  · rename_i cs q1 q2
    split at h
    case h_2 => exact (run_fail h).elim
    rename_i ei m g1 g2
    split at h
    case h_2 => exact (run_fail h).elim
    rename_i v' g4 g5
    cases ret_of h; exact ⟨rfl, fun hp2 => by simp only [evOp, e1, e2, q1, q2, g1, g2, g4, g5, T.run]⟩

theorem s1_load {t : TypeId} {x : Operand} {r : Nat} (hr : fpOf E ρ (.load t x) = .k1 r ∨ fpOf E ρ (.load t x) = .k0) (h : (evOp E ρ (.load t x) hp).run = some (v, hp')) :
    hp' = hp ∧ ∀ hp2, (fpOf E ρ (.load t x) = .k1 r → nth hp2 r = nth hp r) → (evOp E ρ (.load t x) hp2).run = some (v, hp2) := by
  simp only [evOp] at h
  split at h
  · exact (run_fail h).elim
  rename_i i e1
  split at h
  · rename_i r' off e
    split at h
    case h_2 => exact (run_fail h).elim
    rename_i cs e2
    split at h
    case h_2 => exact (run_fail h).elim
    rename_i g1 g2
    simp only [fpOf, e] at hr ⊢
    simp only [FP.k1.injEq, reduceCtorEq, or_false] at hr
    subst hr
    cases ret_of h; exact ⟨rfl, fun hp2 hh => by simp only [evOp, e1, e, hh rfl, e2, g1, g2, T.run]⟩
  · rename_i t' y e
    split at h
    case h_2 => exact (run_fail h).elim
    rename_i g1 g2
    cases ret_of h; exact ⟨rfl, fun hp2 hh => by simp only [evOp, e1, e, g1, g2, T.run]⟩
  · rename_i r' j off e
    split at h
    case h_2 => exact (run_fail h).elim
    rename_i e' t' xs e2
    split at h
    case h_2 => exact (run_fail h).elim
    rename_i g1 g2
    simp only [fpOf, e] at hr ⊢
    simp only [FP.k1.injEq, reduceCtorEq, or_false] at hr
    subst hr
    cases ret_of h; exact ⟨rfl, fun hp2 hh => by simp only [evOp, e1, e, hh rfl, e2, g1, g2, T.run]⟩
  · exact (run_fail h).elim

theorem s1_indexAddr {t : TypeId} {x j : Operand} {r : Nat} (hr : fpOf E ρ (.indexAddr t x j) = .k1 r ∨ fpOf E ρ (.indexAddr t x j) = .k0) (h : (evOp E ρ (.indexAddr t x j) hp).run = some (v, hp')) :
    hp' = hp ∧ ∀ hp2, (fpOf E ρ (.indexAddr t x j) = .k1 r → nth hp2 r = nth hp r) → (evOp E ρ (.indexAddr t x j) hp2).run = some (v, hp2) := by
  simp only [evOp] at h
  split at h
  case h_2 => exact (run_fail h).elim
  rename_i k n i e1 e2
  split at h
  case h_3 => exact (run_fail h).elim
  · rename_i ei q1 q2
    split at h
    case h_4 => exact (run_fail h).elim
    · rename_i e t' c xs e3
      split at h
      case h_2 => exact (run_fail h).elim
      rename_i g1
      obtain ⟨h0, h1, h2⟩ := inB_run h
      cases ret_of h2; exact ⟨rfl, fun hp2 hh => by simp only [evOp, e1, e2, q1, q2, e3, g1]; exact run_inB_mk h0 h1 rfl⟩
    · rename_i r' e3
      split at h
      case h_2 => exact (run_fail h).elim
      rename_i e' t' xs e4
      split at h
      case h_2 => exact (run_fail h).elim
      rename_i g1
      obtain ⟨h0, h1, h2⟩ := inB_run h
      simp only [fpOf, e3] at hr ⊢
      simp only [FP.k1.injEq, reduceCtorEq, or_false] at hr
      subst hr
      cases ret_of h2; exact ⟨rfl, fun hp2 hh => by simp only [evOp, e1, e2, q1, q2, e3, hh rfl, e4, g1]; exact run_inB_mk h0 h1 rfl⟩
    · rename_i r' lo hi e3
      split at h
      case h_2 => exact (run_fail h).elim
      rename_i e' t' xs e4
      split at h
      case h_2 => exact (run_fail h).elim
      rename_i g1
      obtain ⟨h0, h1, h2⟩ := inB_run h
      simp only [fpOf, e3] at hr ⊢
      simp only [FP.k1.injEq, reduceCtorEq, or_false] at hr
      subst hr
      cases ret_of h2; exact ⟨rfl, fun hp2 hh => by simp only [evOp, e1, e2, q1, q2, e3, hh rfl, e4, g1]; exact run_inB_mk h0 h1 rfl⟩
  · rename_i ei q1 q2
    split at h
    case h_4 => exact (run_fail h).elim
    · rename_i r' off e3
      split at h
      case h_2 => exact (run_fail h).elim
      rename_i m g1
      split at h
      case h_2 => exact (run_fail h).elim
      rename_i g3
      cases ret_of h; exact ⟨rfl, fun hp2 hh => by simp only [evOp, e1, e2, q1, q2, e3, g1, g3, T.run]⟩
    · rename_i r' kk off e3
      split at h
      case h_2 => exact (run_fail h).elim
      rename_i m g1
      split at h
      case h_2 => exact (run_fail h).elim
      rename_i g3
      cases ret_of h; exact ⟨rfl, fun hp2 hh => by simp only [evOp, e1, e2, q1, q2, e3, g1, g3, T.run]⟩
    · rename_i t' y e3
      split at h
      case h_2 => exact (run_fail h).elim
      rename_i m g1
      split at h
      case h_2 => exact (run_fail h).elim
      rename_i s z g3 g4
      cases ret_of h; exact ⟨rfl, fun hp2 hh => by simp only [evOp, e1, e2, q1, q2, e3, g1, g3, g4, T.run]⟩

theorem s1_slice {t : TypeId} {x : Operand} {lo hi mx : Option Operand} {r : Nat} (hr : fpOf E ρ (.slice t x lo hi mx) = .k1 r ∨ fpOf E ρ (.slice t x lo hi mx) = .k0) (h : (evOp E ρ (.slice t x lo hi mx) hp).run = some (v, hp')) :
    hp' = hp ∧ ∀ hp2, (fpOf E ρ (.slice t x lo hi mx) = .k1 r → nth hp2 r = nth hp r) → (evOp E ρ (.slice t x lo hi mx) hp2).run = some (v, hp2) := by
  simp only [evOp, evSlice] at h
  split at h
  · exact (run_fail h).elim
  rename_i i e1
  split at h
  · exact (run_fail h).elim
  rename_i n en
  split at h
  case h_2 => exact (run_fail h).elim
  rename_i l hh e2 e3
  have hlen : ∀ hp2, (fpOf E ρ (.slice t x lo hi mx) = .k1 r → nth hp2 r = nth hp r) → lenOf hp2 (ρ x) = some n := by
    intro hp2 hq
    rw [← en]
    simp only [fpOf] at hr hq
    unfold lenOf at en ⊢
    split at en <;> rename_i e <;> simp only [e] at hr hq ⊢
    · simp only [FP.k1.injEq, reduceCtorEq, or_false] at hr
      subst hr
      rw [hq rfl]
  split at h
  case h_3 => exact (run_fail h).elim
  · rename_i q1
    split at h
    case h_2 => exact (run_fail h).elim
    rename_i s q2 q3
    obtain ⟨h0, h1⟩ := run_cut h
    cases ret_of h1
    exact ⟨rfl, fun hp2 hq => by have hl := hlen hp2 hq; rw [q2] at hl; simp only [evOp, evSlice, e1, hl, e2, e3, q1, q2, q3]; refine run_cut_mk h0 ?_; rfl⟩
  · rename_i q1
    split at h
    · exact (run_fail h).elim
    rename_i ei e4
    split at h
    · rename_i q0
      split at h
      case h_4 => exact (run_fail h).elim
      · rename_i e t' c xs q2
        split at h
        case h_2 => exact (run_fail h).elim
        rename_i g1
        obtain ⟨h0, h1⟩ := run_cut h
        cases ret_of h1
        exact ⟨rfl, fun hp2 hq => by have hl := hlen hp2 hq; rw [q2] at hl; simp only [evOp, evSlice, e1, hl, e2, e3, e4, q0, q1, q2, g1]; refine run_cut_mk h0 ?_; rfl⟩
      · rename_i r' q2
        split at h
        case h_2 => exact (run_fail h).elim
        rename_i e' t' xs e5
        split at h
        case h_2 => exact (run_fail h).elim
        rename_i g1
        obtain ⟨h0, h1⟩ := run_cut h
        cases ret_of h1
        refine ⟨rfl, fun hp2 hq => ?_⟩
        have hl := hlen hp2 hq
        simp only [fpOf, q2] at hr hq
        simp only [FP.k1.injEq, reduceCtorEq, or_false] at hr
        subst hr
        rw [q2] at hl
        simp only [evOp, evSlice, e1, hl, e2, e3, e4, q0, q1, q2, hq rfl, e5, g1]
        exact run_cut_mk h0 rfl
      · rename_i r' lo' hi' q2
        split at h
        case h_2 => exact (run_fail h).elim
        rename_i e' t' xs e5
        split at h
        case h_2 => exact (run_fail h).elim
        rename_i g1
        obtain ⟨h0, h1⟩ := run_cut h
        cases ret_of h1
        refine ⟨rfl, fun hp2 hq => ?_⟩
        have hl := hlen hp2 hq
        simp only [fpOf, q2] at hr hq
        simp only [FP.k1.injEq, reduceCtorEq, or_false] at hr
        subst hr
        rw [q2] at hl
        simp only [evOp, evSlice, e1, hl, e2, e3, e4, q0, q1, q2, hq rfl, e5, g1]
        exact run_cut_mk h0 rfl
    · rename_i k m q0
      split at h
      case h_3 => exact (run_fail h).elim
      · rename_i e t' c xs o q2 q3
        split at h
        case h_2 => exact (run_fail h).elim
        rename_i g1
        obtain ⟨h0, h1⟩ := run_cut h
        obtain ⟨h2, h3⟩ := T.run_ite_fail h1
        cases ret_of h3
        exact ⟨rfl, fun hp2 hq => by have hl := hlen hp2 hq; rw [q2] at hl; rw [q3] at e3; simp only [evOp, evSlice, e1, hl, e2, e3, e4, q0, q1, q2, q3, g1]; refine run_cut_mk h0 ?_; simp [T.run, h2]⟩
      · rename_i o q2 q3
        obtain ⟨h0, h1⟩ := run_cut h
        obtain ⟨h2, h3⟩ := T.run_ite_fail h1
        cases ret_of h3
        exact ⟨rfl, fun hp2 hq => by have hl := hlen hp2 hq; rw [q2] at hl; rw [q3] at e3; simp only [evOp, evSlice, e1, hl, e2, e3, e4, q0, q1, q2, q3]; refine run_cut_mk h0 ?_; simp [T.run, h2]⟩
    · exact (run_fail h).elim

theorem s2_store {t : TypeId} {x y : Operand} {b : Nat} (hr : fpOf E ρ (.store t x y) = .k2 b) (h : (evOp E ρ (.store t x y) hp).run = some (v, hp')) :
    ∃ ob, hp' = setNth hp b ob ∧ ∀ hp2, nth hp2 b = nth hp b → (evOp E ρ (.store t x y) hp2).run = some (v, setNth hp2 b ob) := by
  simp only [evOp] at h
  split at h
  case h_2 => exact (run_fail h).elim
  rename_i i cv e1 e2
  split at h
  · exact (run_fail h).elim
  rename_i e3
  split at h
  case h_3 => exact (run_fail h).elim
  · rename_i r' off e4
    split at h
    case h_2 => exact (run_fail h).elim
    rename_i cs e5
    split at h
    case h_2 => exact (run_fail h).elim
    rename_i g1
    simp only [fpOf, e4, FP.k2.injEq] at hr
    subst hr
    cases ret_of h
    refine ⟨_, rfl, fun hp2 hh => ?_⟩
    simp only [evOp, e1, e2, e3, e4, hh, e5, g1, T.run]
  · rename_i r' j off e4
    split at h
    case h_2 => exact (run_fail h).elim
    rename_i e t' xs e5
    split at h
    case h_2 => exact (run_fail h).elim
    rename_i y' hpy g1 g2
    simp only [fpOf, e4, FP.k2.injEq] at hr
    subst hr
    cases ret_of h
    refine ⟨_, rfl, fun hp2 hh => ?_⟩
    simp only [evOp, e1, e2, e3, e4, hh, e5, g1, packAll_strict_any g2 hp2, T.run]

theorem encRs0 : ∀ (rs : List RT) {x : denR rs} {hp : HP}, ownsR rs = 0 → (encRs rs x hp).2 = hp ∧ ∀ hp2, (encRs rs x hp2).1 = (encRs rs x hp).1
  | [], x, hp, _ => ⟨rfl, fun _ => rfl⟩
  | .d t :: rs, x, hp, h0 => by
    obtain ⟨h1, h2⟩ := encRs0 rs (x := tlR (.d t) rs x) (hp := hp) h0
    exact ⟨h1, fun hp2 => by simp only [encRs]; rw [h2 hp2]⟩
  | .own e t :: rs, x, hp, h0 => by simp [ownsR] at h0

theorem call_kr {f : FuncId} {args : List AV} (hf : fpCall E f args = .kr) (h : (callF E f args hp).run = some (v, hp')) : hp' = hp := by
  unfold fpCall at hf
  unfold callF at h
  split at hf
  · rename_i ps rs g hl
    split at hf
    case h_2 => cases hf
    rename_i hq
    split at hf
    · cases hf
    simp only [Bool.and_eq_true] at hq
    have h0 := Nat.eq_of_beq_eq_true hq.2
    rw [hl] at h
    simp only [callEnt] at h
    split at h
    case h_2 => exact (run_fail h).elim
    rename_i x hp1 hrs hin
    simp only [T.run] at h
    obtain ⟨r, hr, h⟩ := Option.bind_eq_some_iff.1 h
    simp only [Option.some.injEq, Prod.mk.injEq] at h
    obtain ⟨_, rfl⟩ := h
    rw [(encRs0 rs h0).1]
    unfold argsIn at hin
    rw [hq.1] at hin
    split at hin
    · rename_i p hd
      simp only [Option.some.injEq] at hin
      subst hin
      exact decP_keep (by simp) ps hd
    · exact decP_keep (by simp) ps hin
  · split at hf <;> cases hf
  · cases hf

theorem call_k0 {f : FuncId} {args : List AV} (hf : fpCall E f args = .k0) (h : (callF E f args hp).run = some (v, hp')) : hp' = hp ∧ ∀ hp2, (callF E f args hp2).run = some (v, hp2) := by
  unfold fpCall at hf
  unfold callF at h ⊢
  split at hf
  · rename_i ps rs g hl
    split at hf
    case h_2 => cases hf
    rename_i hq
    split at hf
    case h_2 => cases hf
    rename_i hn
    simp only [Bool.and_eq_true] at hq
    have h0 := Nat.eq_of_beq_eq_true hq.2
    rw [hl] at h ⊢
    simp only [callEnt] at h ⊢
    split at h
    case h_2 => exact (run_fail h).elim
    rename_i x hp1 hrs hin
    simp only [T.run] at h
    obtain ⟨r, hr, h⟩ := Option.bind_eq_some_iff.1 h
    simp only [Option.some.injEq, Prod.mk.injEq] at h
    obtain ⟨rfl, rfl⟩ := h
    have hany : hp1 = hp ∧ ∀ hp2, argsIn ps (noSlR rs) args hp2 = some (x, hp2) := by
      unfold argsIn at hin ⊢
      split at hin
      · rename_i p hd
        simp only [Option.some.injEq] at hin
        subst hin
        obtain ⟨g1, g2⟩ := decPD_any ps hn hd
        exact ⟨g1, fun hp2 => by rw [g2 .strict hp2]⟩
      · rename_i hd
        split at hin
        all_goals
          obtain ⟨g1, g2⟩ := decPD_any ps hn hin
          rw [g2 .strict hp] at hd
          cases hd
    obtain ⟨rfl, hany⟩ := hany
    obtain ⟨g1, g2⟩ := encRs0 rs (x := r) (hp := hp1) h0
    refine ⟨g1, fun hp2 => ?_⟩
    rw [hany hp2, hrs]
    simp only [T.run, hr, Option.bind_some]
    obtain ⟨g3, _⟩ := encRs0 rs (x := r) (hp := hp2) h0
    rw [g3, g2]
  · split at hf <;> cases hf
  · cases hf

theorem call_k2 {f : FuncId} {args : List AV} {b : Nat} (hf : fpCall E f args = .k2 b) (h : (callF E f args hp).run = some (v, hp')) :
    ∃ ob, hp' = setNth hp b ob ∧ ∀ hp2, nth hp2 b = nth hp b → (callF E f args hp2).run = some (v, setNth hp2 b ob) := by
  unfold fpCall at hf
  split at hf
  · split at hf
    · split at hf <;> cases hf
    · cases hf
  · rename_i t ps rs g hl
    split at hf
    case h_2 => cases hf
    rename_i b' off aq hn
    simp only [FP.k2.injEq] at hf
    subst hf
    unfold callF at h ⊢
    rw [hl] at h ⊢
    simp only [callEnt] at h ⊢
    split at h
    case h_2 => exact (run_fail h).elim
    rename_i x hp1 hin
    have hany : hp1 = hp ∧ ∀ hp2, argsIn ps false aq hp2 = some (x, hp2) := by
      unfold argsIn at hin ⊢
      split at hin
      · rename_i p hd
        simp only [Option.some.injEq] at hin
        subst hin
        obtain ⟨g1, g2⟩ := decP_any (by simp) ps hn hd
        exact ⟨g1, fun hp2 => by rw [g2 .strict hp2]⟩
      · rename_i hd
        obtain ⟨g1, g2⟩ := decP_any (by simp) ps hn hin
        rw [g2 .strict hp] at hd
        cases hd
    obtain ⟨rfl, hany⟩ := hany
    split at h
    case h_2 => exact (run_fail h).elim
    rename_i cs e1
    split at h
    case h_2 => exact (run_fail h).elim
    rename_i y hpy e2 e3
    simp only [T.run] at h
    obtain ⟨r, hr, h⟩ := Option.bind_eq_some_iff.1 h
    simp only [Option.some.injEq, Prod.mk.injEq] at h
    obtain ⟨rfl, rfl⟩ := h
    have h0 : ownsR rs = 0 := by
      simp only [Bool.and_eq_true] at e2
      exact Nat.eq_of_beq_eq_true e2.1
    obtain ⟨g1, g2⟩ := encRs0 rs (x := tlR (.d t) rs r) (hp := setNth hp1 b' (.cells (putL cs off (cellsOf t (hdR (.d t) rs r))))) h0
    refine ⟨_, g1, fun hp2 hh => ?_⟩
    rw [hany hp2]
    simp only [hh, e1, e2, packAll_strict_any e3 hp2, T.run, hr, Option.bind_some]
    obtain ⟨g3, _⟩ := encRs0 rs (x := tlR (.d t) rs r) (hp := setNth hp2 b' (.cells (putL cs off (cellsOf t (hdR (.d t) rs r))))) h0
    rw [g3, g2]
  · cases hf

def FpOk (f : FP) (E : Env) (ρ : Operand → AV) (op : Op) (hp : HP) (v : AV) (hp' : HP) : Prop :=
  match f with
  | .k0 => hp' = hp ∧ ∀ hp2, (evOp E ρ op hp2).run = some (v, hp2)
  | .k1 r => hp' = hp ∧ ∀ hp2, nth hp2 r = nth hp r → (evOp E ρ op hp2).run = some (v, hp2)
  | .kr => hp' = hp
  | .k2 b => ∃ ob, hp' = setNth hp b ob ∧ ∀ hp2, nth hp2 b = nth hp b → (evOp E ρ op hp2).run = some (v, setNth hp2 b ob)
  | .kn r => r = hp.length ∧ ∃ ob, hp' = hp ++ [ob] ∧ ∀ hp2, hp2.length = hp.length → (evOp E ρ op hp2).run = some (v, hp2 ++ [ob])
  | .ka => True

theorem fpOk_of1 {op : Op} {f : FP} (hk : (∃ r, f = .k1 r) ∨ f = .k0) (h : ∀ r, (f = .k1 r ∨ f = .k0) → hp' = hp ∧ ∀ hp2, (f = .k1 r → nth hp2 r = nth hp r) → (evOp E ρ op hp2).run = some (v, hp2)) : FpOk f E ρ op hp v hp' := by
  rcases hk with ⟨r, rfl⟩ | rfl
  · obtain ⟨h1, h2⟩ := h r (.inl rfl)
    exact ⟨h1, fun hp2 hh => h2 hp2 (fun _ => hh)⟩
  · obtain ⟨h1, h2⟩ := h 0 (.inr rfl)
    exact ⟨h1, fun hp2 => h2 hp2 (fun hh => by cases hh)⟩
end
end Vm
/- The symbolic machine: what an operation touches (3); regions whose operations may be drawn. -/
namespace Vm
open Go
set_option linter.unusedVariables false
set_option linter.unusedSimpArgs false

section
variable {E : Env} {ρ ρ' : Operand → AV} {hp hp' hp2 : HP} {v : AV}

theorem fp_len {args : Array Operand} {ts : Array TypeId} {c : Call} (hc : c = ⟨.builtin .len, args, ts⟩) (h : (evOp E ρ (.call c) hp).run = some (v, hp')) : FpOk (fpOf E ρ (.call c)) E ρ (.call c) hp v hp' := by
  subst hc
  simp only [evOp] at h
  split at h
  case h_2 => exact (run_fail h).elim
  rename_i x t hx ht
  split at h
  case h_2 => exact (run_fail h).elim
  rename_i i e1
  split at h
  · rename_i s q1 q2
    cases ret_of h
    simp only [fpOf, hx, List.map_cons, List.map_nil, q2, FpOk]
    exact ⟨trivial, fun hp2 => by simp only [evOp, hx, ht, e1, q1, q2, T.run]⟩
  · exact (run_fail h).elim
  · rename_i q1 q2
    split at h
    case h_2 => exact (run_fail h).elim
    rename_i n hn
    cases ret_of h
    apply fpOk_of1
    · simp only [fpOf, hx, List.map_cons, List.map_nil]
      split
      · exact .inl ⟨_, rfl⟩
      · exact .inr rfl
    · intro r hr
      refine ⟨rfl, fun hp2 hh => ?_⟩
      have hl : lenOf hp2 (ρ x) = some n := by
        rw [← hn]
        simp only [fpOf, hx, List.map_cons, List.map_nil] at hh
        unfold lenOf
        split <;> rename_i e <;> simp only [e] at hh ⊢
        simp only [fpOf, hx, List.map_cons, List.map_nil, e, FP.k1.injEq, reduceCtorEq, or_false] at hr
        subst hr
        rw [hh rfl]
      simp only [evOp, hx, ht, e1]
      split
      · rename_i s g1 g2
        exact absurd g2 (q2 s)
      · rename_i s g1 g2
        exact absurd g2 (q2 s)
      · rw [hl]; rfl
      · rename_i g1 g2 g3
        first | exact (g3 q1).elim | exact (g2 q1).elim | exact (g1 q1).elim | exact (g3 _ q1 rfl).elim | simp_all
  · exact (run_fail h).elim

theorem fp_mm {b : Builtin} (hb : b = .min ∨ b = .max) {args : Array Operand} {ts : Array TypeId} {c : Call} (hc : c = ⟨.builtin b, args, ts⟩) (h : (evOp E ρ (.call c) hp).run = some (v, hp')) : FpOk (fpOf E ρ (.call c)) E ρ (.call c) hp v hp' := by
  subst hc
  rcases hb with rfl | rfl
  all_goals
    simp only [evOp] at h
    split at h
    case h_2 => exact (run_fail h).elim
    rename_i k x k' y e
    split at h
    case isFalse => exact (run_fail h).elim
    rename_i ek
    cases ret_of h
    exact ⟨rfl, fun hp2 => by simp only [evOp, e, ek, if_true, T.run]⟩

theorem fp_ok {op : Op} (h : (evOp E ρ op hp).run = some (v, hp')) : FpOk (fpOf E ρ op) E ρ op hp v hp' := by
  cases op with
  | move x => exact k0_move h
  | assign x => exact k0_assign h
  | pick c x y => exact k0_pick h
  | binOp o t x y s => exact k0_binOp h
  | unOp o t x => exact k0_unOp h
  | convert s d x =>
    apply fpOk_of1
    · simp only [fpOf]
      split
      · exact .inl ⟨_, rfl⟩
      · exact .inr rfl
    · exact fun r hr => s1_convert hr h
  | makeFunc f a b => exact k0_makeFunc h
  | fieldAddr t x j => exact k0_fieldAddr h
  | field t x j => exact k0_field h
  | extract x j => exact k0_extract h
  | nilCheck x => exact k0_nilCheck h
  | build t ps => exact k0_build h
  | index t x j => exact k0_index h
  | load t x =>
    apply fpOk_of1
    · simp only [fpOf]
      split
      · exact .inl ⟨_, rfl⟩
      · exact .inl ⟨_, rfl⟩
      · exact .inr rfl
    · exact fun r hr => s1_load hr h
  | indexAddr t x j =>
    apply fpOk_of1
    · simp only [fpOf]
      split
      · exact .inl ⟨_, rfl⟩
      · exact .inl ⟨_, rfl⟩
      · exact .inr rfl
    · exact fun r hr => s1_indexAddr hr h
  | slice t x lo hi mx =>
    apply fpOk_of1
    · simp only [fpOf]
      split
      · exact .inl ⟨_, rfl⟩
      · exact .inl ⟨_, rfl⟩
      · exact .inr rfl
    · exact fun r hr => s1_slice hr h
  | store t x y =>
    generalize hf : fpOf E ρ (.store t x y) = f
    have hf' := hf
    simp only [fpOf] at hf'
    split at hf'
    · subst hf'; exact s2_store hf h
    · subst hf'; exact s2_store hf h
    · subst hf'; trivial
  | call c =>
    obtain ⟨callee, args, ts⟩ := c
    cases callee with
    | invoke r m => exact (run_fail h).elim
    | builtin b =>
      cases b <;> try trivial
      · exact fp_len rfl h
      · exact fp_mm (.inr rfl) rfl h
      · exact fp_mm (.inl rfl) rfl h
    | value g =>
      generalize hf : fpOf E ρ (.call ⟨.value g, args, ts⟩) = f
      simp only [fpOf] at hf
      simp only [evOp] at h
      split at hf
      · rename_i f' fs cs e
        rw [e] at h
        simp only at h
        cases f with
        | kr => exact call_kr hf h
        | k2 b =>
          obtain ⟨ob, h1, h2⟩ := call_k2 hf h
          exact ⟨ob, h1, fun hp2 hh => by simp only [evOp, e]; exact h2 hp2 hh⟩
        | ka => trivial
        | k0 =>
          obtain ⟨h1, h2⟩ := call_k0 hf h
          exact ⟨h1, fun hp2 => by simp only [evOp, e]; exact h2 hp2⟩
        | k1 r =>
          unfold fpCall at hf
          split at hf
          · split at hf
            · split at hf <;> cases hf
            · cases hf
          · split at hf <;> cases hf
          · cases hf
        | kn r =>
          unfold fpCall at hf
          split at hf
          · split at hf
            · split at hf <;> cases hf
            · cases hf
          · split at hf <;> cases hf
          · cases hf
      · subst hf; trivial
  | _ => trivial

theorem kn_alloc {t : TypeId} (h : (evOp E ρ (.alloc t) hp).run = some (v, hp')) : FpOk (fpAt (.alloc t) v .ka) E ρ (.alloc t) hp v hp' := by
  simp only [evOp] at h
  split at h
  · rename_i i e1
    cases ret_of h
    exact ⟨rfl, _, rfl, fun hp2 hl => by simp only [evOp, e1, T.run, hl]⟩
  · exact (run_fail h).elim
theorem kn_box {t : TypeId} {x : Operand} (h : (evOp E ρ (.box t x) hp).run = some (v, hp')) : FpOk (fpAt (.box t x) v .ka) E ρ (.box t x) hp v hp' := by
  simp only [evOp] at h
  split at h
  case h_2 => exact (run_fail h).elim
  rename_i i e1
  split at h
  case h_2 => exact (run_fail h).elim
  rename_i cs e2
  split at h
  case h_2 => exact (run_fail h).elim
  rename_i e3
  cases ret_of h
  exact ⟨rfl, _, rfl, fun hp2 hl => by simp only [evOp, e1, e2, e3, T.run, hl]⟩
theorem fp_ok2 {op : Op} (h : (evOp E ρ op hp).run = some (v, hp')) : FpOk (fpAt op v (fpOf E ρ op)) E ρ op hp v hp' := by
  cases op with
  | alloc t => exact kn_alloc h
  | box t x => exact kn_box h
  | _ => exact fp_ok h

theorem evOp_congr {op : Op} (h : ∀ x ∈ op.operands.toList, ρ x = ρ' x) (hp : HP) : evOp E ρ op hp = evOp E ρ' op hp ∧ fpOf E ρ op = fpOf E ρ' op := by
  have hm : ∀ l : List Operand, (∀ x ∈ l, ρ x = ρ' x) → l.map ρ = l.map ρ' := fun l hl => List.map_congr_left hl
  have hm2 : ∀ l : List (Nat × Operand), (∀ x ∈ l.map (·.2), ρ x = ρ' x) → l.map (fun p => (p.1, ρ p.2)) = l.map (fun p => (p.1, ρ' p.2)) := by
    intro l hl
    apply List.map_congr_left
    intro p hp
    rw [hl p.2 (List.mem_map_of_mem hp)]
  have ho : ∀ o : Option Operand, (∀ x ∈ o.toArray.toList, ρ x = ρ' x) → o.map ρ = o.map ρ' := by
    intro o hl
    cases o with
    | none => rfl
    | some x => simp [hl x (by simp)]
  cases op with
  | call c =>
    obtain ⟨callee, args, ts⟩ := c
    cases callee with
    | invoke r m => exact ⟨rfl, rfl⟩
    | builtin b =>
      have ha : ∀ x ∈ args.toList, ρ x = ρ' x := fun x hx => h x (by simpa [Op.operands, Call.operands] using hx)
      have e := hm _ ha
      cases b <;> try exact ⟨rfl, rfl⟩
      · refine ⟨?_, rfl⟩
        simp only [evOp]
        split
        · rename_i s x sT xT hx ht
          rw [ha x (by rw [hx]; simp), ha s (by rw [hx]; simp)]
        · rfl
      · refine ⟨?_, by simp only [fpOf, e]⟩
        simp only [evOp]
        split
        · rename_i x t hx ht
          rw [ha x (by rw [hx]; simp)]
        · rfl
      · exact ⟨by simp only [evOp, e], rfl⟩
      · exact ⟨by simp only [evOp, e], rfl⟩
    | value g =>
      have hg : ρ g = ρ' g := h g (by simp [Op.operands, Call.operands])
      have e := hm args.toList (fun x hx => h x (by simp [Op.operands, Call.operands]; right; simpa using hx))
      exact ⟨by simp only [evOp, hg, e], by simp only [fpOf, hg, e]⟩
  | build t ps =>
    have e := hm2 ps.toList (fun x hx => h x (by simpa [Op.operands] using hx))
    exact ⟨by simp only [evOp, e], rfl⟩
  | buildSlice t n ps =>
    have e := hm2 ps.toList (fun x hx => h x (by simpa [Op.operands] using hx))
    exact ⟨by simp only [evOp, e], rfl⟩
  | makeFunc f a b =>
    have e1 := hm a.toList (fun x hx => h x (by simp [Op.operands]; left; simpa using hx))
    have e2 := hm b.toList (fun x hx => h x (by simp [Op.operands]; right; simpa using hx))
    exact ⟨by simp only [evOp, e1, e2], rfl⟩
  | slice t x lo hi mx =>
    have e0 : ρ x = ρ' x := h x (by simp [Op.operands])
    have e1 := ho lo (fun y hy => h y (by simp [Op.operands] at hy ⊢; exact .inr (.inl hy)))
    have e2 := ho hi (fun y hy => h y (by simp [Op.operands] at hy ⊢; exact .inr (.inr (.inl hy))))
    have e3 := ho mx (fun y hy => h y (by simp [Op.operands] at hy ⊢; exact .inr (.inr (.inr hy))))
    exact ⟨by simp only [evOp, e0, e1, e2, e3], by simp only [fpOf, e0]⟩
  | move x => have e := h x (by simp [Op.operands]); exact ⟨by simp only [evOp, e], rfl⟩
  | assign x => have e := h x (by simp [Op.operands]); exact ⟨by simp only [evOp, e], rfl⟩
  | box t x => have e := h x (by simp [Op.operands]); exact ⟨by simp only [evOp, e], rfl⟩
  | load t x => have e := h x (by simp [Op.operands]); exact ⟨by simp only [evOp, e], by simp only [fpOf, e]⟩
  | nilCheck x => have e := h x (by simp [Op.operands]); exact ⟨by simp only [evOp, e], rfl⟩
  | unOp o t x => have e := h x (by simp [Op.operands]); exact ⟨by simp only [evOp, e], rfl⟩
  | convert s d x => have e := h x (by simp [Op.operands]); exact ⟨by simp only [evOp, e], by simp only [fpOf, e]⟩
  | fieldAddr t x j => have e := h x (by simp [Op.operands]); exact ⟨by simp only [evOp, e], rfl⟩
  | field t x j => have e := h x (by simp [Op.operands]); exact ⟨by simp only [evOp, e], rfl⟩
  | extract x j => have e := h x (by simp [Op.operands]); exact ⟨by simp only [evOp, e], rfl⟩
  | pick c x y =>
    have e1 := h c (by simp [Op.operands]); have e2 := h x (by simp [Op.operands]); have e3 := h y (by simp [Op.operands])
    exact ⟨by simp only [evOp, e1, e2, e3], rfl⟩
  | store t x y =>
    have e1 := h x (by simp [Op.operands]); have e2 := h y (by simp [Op.operands])
    exact ⟨by simp only [evOp, e1, e2], by simp only [fpOf, e1]⟩
  | binOp o t x y s =>
    have e1 := h x (by simp [Op.operands]); have e2 := h y (by simp [Op.operands])
    exact ⟨by simp only [evOp, e1, e2], rfl⟩
  | makeSlice t x y =>
    have e1 := h x (by simp [Op.operands]); have e2 := h y (by simp [Op.operands])
    exact ⟨by simp only [evOp, e1, e2], rfl⟩
  | indexAddr t x y =>
    have e1 := h x (by simp [Op.operands]); have e2 := h y (by simp [Op.operands])
    exact ⟨by simp only [evOp, e1, e2], by simp only [fpOf, e1]⟩
  | index t x y =>
    have e1 := h x (by simp [Op.operands]); have e2 := h y (by simp [Op.operands])
    exact ⟨by simp only [evOp, e1, e2], rfl⟩
  | _ => exact ⟨rfl, rfl⟩
end
end Vm
/- The symbolic machine: regions whose operations may be drawn (2). -/
namespace Vm
open Go
set_option linter.unusedVariables false
set_option linter.unusedSimpArgs false

def kn : Bool → AV → AV
  | true, .bool b => .bk b
  | _, v => v

section
variable {E : Env} {ρ ρ' : Operand → AV} {hp hp' hp1 hp2 : HP} {v : AV} {ops : List Oper} {σ σ' : St} {o : Oper}

theorem know_run (ask : Bool) (p : AV × HP) (k : AV × HP → T (List AV × HP × FP)) : (know ask p k).run = (k (kn ask p.1, p.2)).run := by
  obtain ⟨v, hp⟩ := p
  cases ask
  · cases v <;> rfl
  · cases v <;> try rfl
    rename_i b
    cases b <;> rfl

theorem draw_run : (evDrawOper E ops o σ).run = match guardD ops o σ with
    | some true => (evOp E σ.ev o.op σ.hp).run.map fun p => (putD σ.fr o.dst (kn (asked ops o) p.1), p.2, fpAt o.op p.1 (fpOf E σ.ev o.op))
    | some false => some (putD σ.fr o.dst .nov, σ.hp, .k0)
    | none => none := by
  unfold evDrawOper
  cases h : guardD ops o σ with
  | none => rfl
  | some b =>
    cases b with
    | false => rfl
    | true =>
      simp only [T.run_bind]
      cases (evOp E σ.ev o.op σ.hp).run with
      | none => rfl
      | some p => simp only [Option.bind_some, Option.map_some, know_run, T.run]

theorem offD_ne {d : Option Tmp} {t : Nat} (hd : d = some t) (h : offD ops d o = true) : (∀ x ∈ o.op.operands.toList, opdTmp x ≠ some t) ∧ guardTmp ops o ≠ some t ∧ o.dst ≠ some t := by
  subst hd
  simp only [offD, Bool.and_eq_true, List.all_eq_true, Bool.not_eq_true'] at h
  obtain ⟨⟨h1, h2⟩, h3⟩ := h
  refine ⟨fun x hx e => ?_, fun e => ?_, fun e => ?_⟩
  · have := h1 x hx
    rw [e] at this
    simp at this
  · rw [e] at h2; simp [dstEq] at h2
  · rw [e] at h3; simp [dstEq] at h3

theorem nth_set_none {α : Type} {l : List α} {i : Nat} (b : α) (h : ¬ i < l.length) : nth (setNth l i b) i = none := by
  rw [nth_eq, setNth_eq]
  simp
  omega

theorem ev_put {d : Option Tmp} (h : offD ops d o = true) (fr : List AV) (u : AV) (hp hp2 : HP) : ∀ z ∈ o.op.operands.toList, St.ev ⟨putD fr d u, hp⟩ z = St.ev ⟨fr, hp2⟩ z := by
  intro z hz
  cases d with
  | none => cases z <;> rfl
  | some t =>
    have := (offD_ne rfl h).1 z hz
    cases z <;> try rfl
    rename_i s
    simp only [St.ev, putD]
    rw [nth_set_ne (fun e => this (by rw [e]; rfl))]
theorem guardD_put {d : Option Tmp} (h : offD ops d o = true) (fr : List AV) (u : AV) (hp hp2 : HP) : guardD ops o ⟨putD fr d u, hp⟩ = guardD ops o ⟨fr, hp2⟩ := by
  cases d with
  | none => rfl
  | some t =>
    have := (offD_ne rfl h).2.1
    unfold guardTmp at this
    unfold guardD
    cases hg : o.guard with
    | none => rfl
    | some q =>
      obtain ⟨j, want⟩ := q
      rw [hg] at this
      dsimp only at this ⊢
      cases hj : (nth ops j).bind (·.dst) with
      | none => rfl
      | some s =>
        rw [hj] at this
        dsimp only
        simp only [putD]
        rw [nth_set_ne (fun e => this (by rw [e]))]
theorem setNth_comm {α : Type} (l : List α) {i j : Nat} (h : i ≠ j) (a b : α) : setNth (setNth l i a) j b = setNth (setNth l j b) i a := by
  rw [setNth_eq, setNth_eq, setNth_eq, setNth_eq, List.set_comm _ _ h]
theorem putD_comm {d : Option Tmp} (h : offD ops d o = true) (fr : List AV) (u u' : AV) : putD (putD fr d u) o.dst u' = putD (putD fr o.dst u') d u := by
  cases d with
  | none => rfl
  | some t =>
    cases hd : o.dst with
    | none => rfl
    | some s =>
      have := (offD_ne rfl h).2.2
      exact setNth_comm fr (fun e => this (by rw [hd, e])) u u'

theorem setNth_app {α : Type} {l : List α} {i : Nat} (h : i < l.length) (b : α) (r : List α) : setNth (l ++ r) i b = setNth l i b ++ r := by
  rw [setNth_eq, setNth_eq, List.set_append_left _ _ h]
theorem nblt {r n : Nat} (h : (!Nat.blt r n) = false) : r < n := by
  cases e : Nat.blt r n with
  | true => exact Nat.le_of_ble_eq_true e
  | false => rw [e] at h; cases h
theorem heap_swap {f g : FP} {x y : Op} {vx vy : AV} (hc : clash f g = false) (fx : FpOk f E ρ x hp vx hp1) (rx : (evOp E ρ x hp).run = some (vx, hp1)) (fy : FpOk g E ρ y hp1 vy hp2) (ry : (evOp E ρ y hp1).run = some (vy, hp2)) :
    ∃ hp1', (evOp E ρ y hp).run = some (vy, hp1') ∧ (evOp E ρ x hp1').run = some (vx, hp2) := by
  cases f with
  | k0 =>
    obtain ⟨rfl, h1⟩ := fx
    exact ⟨hp2, ry, h1 hp2⟩
  | k1 r =>
    obtain ⟨rfl, h1⟩ := fx
    cases g with
    | k0 => obtain ⟨rfl, h2⟩ := fy; exact ⟨_, h2 _, rx⟩
    | k1 r' => obtain ⟨rfl, h2⟩ := fy; exact ⟨_, ry, rx⟩
    | kr => cases fy; exact ⟨_, ry, rx⟩
    | k2 b =>
      obtain ⟨ob, rfl, h2⟩ := fy
      refine ⟨_, ry, h1 _ (nth_set_ne (fun e => ?_) _)⟩
      simp [clash, e] at hc
    | kn n =>
      obtain ⟨rfl, ob, rfl, h2⟩ := fy
      exact ⟨_, ry, h1 _ (nth_left' (nblt hc))⟩
    | ka => cases hc
  | kr =>
    cases fx
    cases g with
    | k0 => obtain ⟨rfl, h2⟩ := fy; exact ⟨_, h2 _, rx⟩
    | k1 r' => obtain ⟨rfl, h2⟩ := fy; exact ⟨_, ry, rx⟩
    | kr => cases fy; exact ⟨_, ry, rx⟩
    | k2 b => cases hc
    | kn n => cases hc
    | ka => cases hc
  | k2 b =>
    obtain ⟨ob, rfl, h1⟩ := fx
    cases g with
    | k0 => obtain ⟨rfl, h2⟩ := fy; exact ⟨_, h2 _, rx⟩
    | k1 r =>
      obtain ⟨rfl, h2⟩ := fy
      have hne : b ≠ r := fun e => by simp [clash, e] at hc
      exact ⟨hp, h2 hp (nth_set_ne hne _).symm, rx⟩
    | kr => cases hc
    | k2 c =>
      obtain ⟨oc, rfl, h2⟩ := fy
      have hne : b ≠ c := fun e => by simp [clash, e] at hc
      have h3 := h2 hp (nth_set_ne hne _).symm
      have h4 := h1 (setNth hp c oc) (nth_set_ne (Ne.symm hne) _)
      exact ⟨_, h3, by rw [h4, setNth_comm _ hne]⟩
    | kn n =>
      obtain ⟨hn, oc, rfl, h2⟩ := fy
      have hb := nblt hc
      rw [hn, setNth_len] at hb
      have h3 := h2 hp (setNth_len _ _ _).symm
      have h4 := h1 (hp ++ [oc]) (nth_left' hb)
      exact ⟨_, h3, by rw [h4, setNth_app hb]⟩
    | ka => cases hc
  | kn n =>
    obtain ⟨rfl, ob, rfl, h1⟩ := fx
    cases g with
    | k0 => obtain ⟨rfl, h2⟩ := fy; exact ⟨_, h2 _, rx⟩
    | k1 r =>
      obtain ⟨rfl, h2⟩ := fy
      exact ⟨hp, h2 hp (nth_left' (nblt hc)).symm, rx⟩
    | k2 b =>
      obtain ⟨oc, rfl, h2⟩ := fy
      have hb := nblt hc
      have h3 := h2 hp (nth_left' hb).symm
      have h4 := h1 (setNth hp b oc) (setNth_len _ _ _)
      exact ⟨_, h3, by rw [h4, setNth_app hb]⟩
    | kr => cases hc
    | kn n => cases hc
    | ka => cases hc
  | ka =>
    cases g with
    | k0 => obtain ⟨rfl, h2⟩ := fy; exact ⟨_, h2 _, rx⟩
    | _ => cases hc

theorem swap2 {x y : Oper} {f g : FP} {fr1 fr2 : List AV} (hc : commB ops x f y g = true) (hx : (evDrawOper E ops x σ).run = some (fr1, hp1, f)) (hy : (evDrawOper E ops y ⟨fr1, hp1⟩).run = some (fr2, hp2, g)) :
    ∃ fr1' hp1', (evDrawOper E ops y σ).run = some (fr1', hp1', g) ∧ (evDrawOper E ops x ⟨fr1', hp1'⟩).run = some (fr2, hp2, f) := by
  simp only [commB, Bool.and_eq_true, Bool.not_eq_true'] at hc
  obtain ⟨⟨hcl, ho1⟩, ho2⟩ := hc
  rw [draw_run] at hx hy
  obtain ⟨fr, hp⟩ := σ
  have frames : ∀ u hp3 hp4, guardD ops y ⟨putD fr x.dst u, hp3⟩ = guardD ops y ⟨fr, hp4⟩ ∧ (∀ hq, evOp E (St.ev ⟨putD fr x.dst u, hp3⟩) y.op hq = evOp E (St.ev ⟨fr, hp4⟩) y.op hq) ∧ fpOf E (St.ev ⟨putD fr x.dst u, hp3⟩) y.op = fpOf E (St.ev ⟨fr, hp4⟩) y.op :=
    fun u hp3 hp4 => ⟨guardD_put ho1 _ _ _ _, fun hq => (evOp_congr (ev_put ho1 fr u hp3 hp4) hq).1, (evOp_congr (ev_put ho1 fr u hp3 hp4) []).2⟩
  have frames' : ∀ u hp3 hp4, guardD ops x ⟨putD fr y.dst u, hp3⟩ = guardD ops x ⟨fr, hp4⟩ ∧ (∀ hq, evOp E (St.ev ⟨putD fr y.dst u, hp3⟩) x.op hq = evOp E (St.ev ⟨fr, hp4⟩) x.op hq) ∧ fpOf E (St.ev ⟨putD fr y.dst u, hp3⟩) x.op = fpOf E (St.ev ⟨fr, hp4⟩) x.op :=
    fun u hp3 hp4 => ⟨guardD_put ho2 _ _ _ _, fun hq => (evOp_congr (ev_put ho2 fr u hp3 hp4) hq).1, (evOp_congr (ev_put ho2 fr u hp3 hp4) []).2⟩
  cases hgx : guardD ops x ⟨fr, hp⟩ with
  | none => rw [hgx] at hx; cases hx
  | some bx =>
    rw [hgx] at hx
    cases bx with
    | false =>
      simp only [Option.some.injEq, Prod.mk.injEq] at hx
      obtain ⟨rfl, rfl, rfl⟩ := hx
      obtain ⟨f1, f2, f3⟩ := frames .nov hp hp
      rw [f1] at hy
      cases hgy : guardD ops y ⟨fr, hp⟩ with
      | none => rw [hgy] at hy; cases hy
      | some by' =>
        rw [hgy] at hy
        cases by' with
        | false =>
          simp only [Option.some.injEq, Prod.mk.injEq] at hy
          obtain ⟨rfl, rfl, rfl⟩ := hy
          refine ⟨putD fr y.dst .nov, hp, by rw [draw_run, hgy], ?_⟩
          rw [draw_run, (frames' .nov hp hp).1, hgx]
          simp only
          rw [putD_comm ho1]
        | true =>
          simp only [Option.map_eq_some_iff, Prod.mk.injEq, Prod.exists] at hy
          obtain ⟨vy, hq, h1, rfl, rfl, rfl⟩ := hy
          rw [f2] at h1
          refine ⟨putD fr y.dst (kn (asked ops y) vy), hq, ?_, ?_⟩
          · rw [draw_run, hgy]
            simp only [h1, Option.map_some, f3]
          · rw [draw_run, (frames' _ hq hp).1, hgx]
            simp only
            rw [putD_comm ho1]
    | true =>
      simp only [Option.map_eq_some_iff, Prod.mk.injEq, Prod.exists] at hx
      obtain ⟨vx, hq, h1, rfl, rfl, rfl⟩ := hx
      obtain ⟨f1, f2, f3⟩ := frames (kn (asked ops x) vx) hq hp
      rw [f1] at hy
      cases hgy : guardD ops y ⟨fr, hp⟩ with
      | none => rw [hgy] at hy; cases hy
      | some by' =>
        rw [hgy] at hy
        cases by' with
        | false =>
          simp only [Option.some.injEq, Prod.mk.injEq] at hy
          obtain ⟨rfl, rfl, rfl⟩ := hy
          obtain ⟨g1, g2, g3⟩ := frames' .nov hp hp
          refine ⟨putD fr y.dst .nov, hp, by rw [draw_run, hgy], ?_⟩
          rw [draw_run, g1, hgx]
          simp only [g2, h1, Option.map_some, g3]
          rw [putD_comm ho1]
        | true =>
          simp only [Option.map_eq_some_iff, Prod.mk.injEq, Prod.exists] at hy
          obtain ⟨vy, hr, h2, rfl, rfl, rfl⟩ := hy
          rw [f2] at h2
          have hcl' : clash (fpAt x.op vx (fpOf E (St.ev ⟨fr, hp⟩) x.op)) (fpAt y.op vy (fpOf E (St.ev ⟨fr, hp⟩) y.op)) = false := by rw [← f3]; exact hcl
          obtain ⟨hp1', h3, h4⟩ := heap_swap hcl' (fp_ok2 h1) h1 (fp_ok2 h2) h2
          obtain ⟨g1, g2, g3⟩ := frames' (kn (asked ops y) vy) hp1' hp
          refine ⟨putD fr y.dst (kn (asked ops y) vy), hp1', ?_, ?_⟩
          · rw [draw_run, hgy]
            simp only [h3, Option.map_some, f3]
          · rw [draw_run, g1, hgx]
            simp only [g2, h4, Option.map_some, g3]
            rw [putD_comm ho1]

def runR (E : Env) (ops : List Oper) : List (Nat × Oper × FP) → St → St → Prop
  | [], σ, σ' => σ = σ'
  | e :: r, σ, σ' => ∃ fr hp, (evDrawOper E ops e.2.1 σ).run = some (fr, hp, e.2.2) ∧ runR E ops r ⟨fr, hp⟩ σ'

theorem move_front : ∀ (R1 : List (Nat × Oper × FP)) {R2 : List (Nat × Oper × FP)} {e : Nat × Oper × FP} {σ : St}, runR E ops (R1 ++ e :: R2) σ σ' → (∀ d ∈ R1, commB ops d.2.1 d.2.2 e.2.1 e.2.2 = true) →
    ∃ fr hp, (evDrawOper E ops e.2.1 σ).run = some (fr, hp, e.2.2) ∧ runR E ops (R1 ++ R2) ⟨fr, hp⟩ σ'
  | [], R2, e, σ, h, _ => h
  | d :: R1, R2, e, σ, h, hc => by
    obtain ⟨fr, hp, h1, h2⟩ := h
    obtain ⟨fr2, hp2, h3, h4⟩ := move_front R1 h2 (fun d hd => hc d (List.mem_cons_of_mem _ hd))
    obtain ⟨fr1', hp1', h5, h6⟩ := swap2 (hc d List.mem_cons_self) h1 h3
    exact ⟨fr1', hp1', h5, fr2, hp2, h6, h4⟩

def tag : Nat → List Oper → List FP → List (Nat × Oper × FP)
  | i, o :: os, f :: fs => (i, o, f) :: tag (i + 1) os fs
  | _, _, _ => []

theorem draws_runR : ∀ {l : List Oper} {i : Nat} {σ σ' : St} {fs : List FP}, (evDrawL E ops l σ).run = some (σ', fs) → fs.length = l.length ∧ runR E ops (tag i l fs) σ σ'
  | [], i, σ, σ', fs, h => by
    simp only [evDrawL, T.run, Option.some.injEq, Prod.mk.injEq] at h
    obtain ⟨rfl, rfl⟩ := h
    exact ⟨rfl, rfl⟩
  | o :: l, i, σ, σ', fs, h => by
    simp only [evDrawL] at h
    obtain ⟨⟨fr, hp, f⟩, h1, h2⟩ := T.run_some_bind h
    obtain ⟨⟨σ2, fs'⟩, h3, h4⟩ := T.run_some_bind h2
    simp only [T.run, Option.some.injEq, Prod.mk.injEq] at h4
    obtain ⟨rfl, rfl⟩ := h4
    obtain ⟨h5, h6⟩ := draws_runR (i := i + 1) h3
    exact ⟨by simp [h5], fr, hp, h1, h6⟩

def PairOk (ops : List Oper) (d e : Nat × Oper × FP) : Prop := d.1 < e.1 ∧ (hasEdge e.2.1 d.1 = true ∨ commB ops d.2.1 d.2.2 e.2.1 e.2.2 = true)

theorem chkOne_mem : ∀ {l : List (Nat × Oper × FP)} {y : Oper} {g : FP}, chkOne ops y g l = true → ∀ d ∈ l, hasEdge y d.1 = true ∨ commB ops d.2.1 d.2.2 y g = true
  | [], _, _, _, d, hd => by cases hd
  | (k, x, f) :: l, y, g, h, d, hd => by
    simp only [chkOne, Bool.and_eq_true, Bool.or_eq_true] at h
    rcases List.mem_cons.1 hd with rfl | hd
    · exact h.1
    · exact chkOne_mem h.2 d hd

theorem chkAll_pairs : ∀ {l : List Oper} {pre : List (Nat × Oper × FP)} {i : Nat} {fs : List FP}, chkAll ops pre i l fs = true → (∀ d ∈ pre, d.1 < i) →
    (tag i l fs).Pairwise (PairOk ops) ∧ (∀ d ∈ pre, ∀ e ∈ tag i l fs, PairOk ops d e) ∧ (∀ e ∈ tag i l fs, backB e.2.1 e.1 = true ∧ i ≤ e.1)
  | [], pre, i, fs, h, hp => by simp [tag]
  | o :: l, pre, i, [], h, hp => by simp [chkAll] at h
  | o :: l, pre, i, f :: fs, h, hp => by
    simp only [chkAll, Bool.and_eq_true] at h
    obtain ⟨⟨h1, h2⟩, h3⟩ := h
    obtain ⟨g1, g2, g3⟩ := chkAll_pairs h3 (fun d hd => by
      rcases List.mem_cons.1 hd with rfl | hd
      · exact Nat.lt_succ_self i
      · exact Nat.lt_succ_of_lt (hp d hd))
    refine ⟨?_, ?_, ?_⟩
    · simp only [tag, List.pairwise_cons]
      exact ⟨fun e he => g2 _ List.mem_cons_self e he, g1⟩
    · intro d hd e he
      simp only [tag] at he
      rcases List.mem_cons.1 he with rfl | he
      · exact ⟨hp d hd, chkOne_mem h1 d hd⟩
      · exact g2 d (List.mem_cons_of_mem _ hd) e he
    · intro e he
      simp only [tag] at he
      rcases List.mem_cons.1 he with rfl | he
      · exact ⟨h2, Nat.le_refl _⟩
      · exact ⟨(g3 e he).1, Nat.le_of_succ_le (g3 e he).2⟩
theorem tag_at : ∀ {l : List Oper} {i : Nat} {fs : List FP}, fs.length = l.length → (∀ e ∈ tag i l fs, l[e.1 - i]? = some e.2.1 ∧ i ≤ e.1) ∧ (∀ k, k < l.length → ∃ e ∈ tag i l fs, e.1 = i + k) ∧ (tag i l fs).length = l.length
  | [], i, fs, h => by simp [tag]
  | o :: l, i, [], h => by simp at h
  | o :: l, i, f :: fs, h => by
    simp only [List.length_cons, Nat.add_right_cancel_iff] at h
    obtain ⟨g1, g2, g3⟩ := tag_at (i := i + 1) h
    refine ⟨?_, ?_, by simp [tag, g3]⟩
    · intro e he
      simp only [tag] at he
      rcases List.mem_cons.1 he with rfl | he
      · simp
      · obtain ⟨h1, h2⟩ := g1 e he
        refine ⟨?_, by omega⟩
        rw [show e.1 - i = (e.1 - (i + 1)) + 1 from by omega, List.getElem?_cons_succ]
        exact h1
    · intro k hk
      cases k with
      | zero => exact ⟨(i, o, f), by simp [tag], rfl⟩
      | succ k =>
        obtain ⟨e, he, h1⟩ := g2 k (by simpa using hk)
        exact ⟨e, by simp [tag, he], by omega⟩
end

section
variable {P : Program} {E : Env} {Γ : Glob} {A : Dom Γ} {base q : Nat} {loc loc' loc2 : List Loc} {hp hp' hp2 : HP} {w w' w2 : World} {a : Act} {o : Oper} {u : Value} {v : AV} {σ σ' : St}

theorem kn_rv {ok : Nat → Prop} (b : Bool) (h : RV loc ok w v u) : RV loc ok w (kn b v) u := by
  unfold kn
  split
  · cases h; exact .bk _
  · exact h

theorem guardD_wanted {ops : Array Oper} (hs : SRel A base loc σ a w) {b : Bool} (h : guardD ops.toList o σ = some b) : Region.wanted o (yielded ops a.tmps) = b := by
  unfold guardD at h
  split at h
  · rename_i hg
    simp only [Option.some.injEq] at h
    subst h
    simp [Region.wanted, hg]
  · rename_i j want hg
    have hwant : Region.wanted o (yielded ops a.tmps) = (yielded ops a.tmps j == some want) := by simp [Region.wanted, hg]
    rw [nth_eq, Array.getElem?_toList] at h
    split at h
    · rename_i hj
      simp only [Option.some.injEq] at h
      subst h
      rw [hwant]
      simp [yielded, hj]
    · rename_i t hj
      obtain ⟨y1, y2⟩ := yield_of hs hj
      have getD : ∀ x : AV, x ≠ .undef → (nth σ.fr t).getD .undef = x → nth σ.fr t = some x := by
        intro x hx hh
        cases hn : nth σ.fr t with
        | none => rw [hn] at hh; exact absurd hh.symm hx
        | some y => rw [hn] at hh; simp only [Option.getD_some] at hh; rw [hh]
      split at h
      · rename_i e
        simp only [Option.some.injEq] at h
        subst h
        rw [hwant, y2 (getD _ (by simp) e)]
        rfl
      · rename_i b' e
        have hy := y1 b' (.inl (getD _ (by simp) e))
        rw [hwant, hy]
        split at h <;> simp only [Option.some.injEq] at h <;> subst h <;> first | rfl | (cases b' <;> cases want <;> simp_all)
      · cases h

theorem drawOper_wp (hE : EnvOk Γ P E) {ops : Array Oper} {o : Oper} {i : Nat} {fr : List AV} {f : FP} {K : Act → World → Prop} {Q : Exit → Act → World → Prop} (hi : ops[i]? = some o)
    (h : (evDrawOper E ops.toList o σ).run = some (fr, hp', f)) (hs : SRel A base loc σ a w) (hK : ∀ loc' a' w', SRel A base loc' ⟨fr, hp'⟩ a' w' → After A base loc σ.hp w loc' hp' w' → K a' w') : wpOp P ops Q i K a w := by
  unfold wpOp
  rw [hi]
  rw [draw_run] at h
  cases hg : guardD ops.toList o σ with
  | none => rw [hg] at h; cases h
  | some b =>
    rw [hg] at h
    have hw := guardD_wanted hs hg
    cases b with
    | true =>
      simp only [Option.map_eq_some_iff, Prod.mk.injEq, Prod.exists] at h
      obtain ⟨v, hq, h1, rfl, rfl, _⟩ := h
      show if Region.wanted o (yielded ops a.tmps) = true then _ else _
      rw [if_pos hw]
      exact .inl ((op_sound hE hs.inv (fun x => hs.ev x) h1).wp (fun u w' ⟨loc', h4, h5⟩ => hK loc' _ _ (hs.put h5 o.dst (kn_rv _ h4)) h5))
    | false =>
      simp only [Option.some.injEq, Prod.mk.injEq] at h
      obtain ⟨rfl, rfl, _⟩ := h
      show if Region.wanted o (yielded ops a.tmps) = true then _ else _
      rw [hw, if_neg (by simp)]
      exact hK loc _ _ (hs.put (After.refl hs.inv) o.dst .nov) (After.refl hs.inv)

theorem mem_ready {ops : Array Oper} {listed : Array Bool} {i : Nat} : i ∈ Region.ready .any ops listed ↔ i < ops.size ∧ listed.getD i true = false ∧ ∃ o, ops[i]? = some o ∧ ∀ e ∈ o.after.toList, Region.binds .any e = true → listed.getD e.on false = true := by
  unfold Region.ready
  simp only [List.mem_filter, List.mem_range, Bool.and_eq_true, Bool.not_eq_true']
  refine and_congr_right fun hi => and_congr_right fun _ => ?_
  have : ops[i]? = some ops[i] := Array.getElem?_eq_getElem hi
  rw [this]
  simp only [Option.map_some, Option.getD_some, Option.some.injEq, exists_eq_left', Array.all_eq_true_iff_forall_mem, Array.mem_toList_iff]
  constructor
  · intro h e he hb
    have := h e he
    simpa [hb] using this
  · intro h e he
    cases hb : Region.binds .any e
    · rfl
    · simpa using h e he hb

theorem draw_any (hE : EnvOk Γ P E) {ops : Array Oper} {loc0 : List Loc} {hp0 : HP} {w0 : World} : ∀ (n : Nat) {R : List (Nat × Oper × FP)} {listed : Array Bool} {σ : St} {a : Act} {w : World} {loc : List Loc}, R.length = n →
    listed.size = ops.size → (∀ e ∈ R, ops[e.1]? = some e.2.1 ∧ listed.getD e.1 true = false) → (∀ i, i < ops.size → listed.getD i true = false → ∃ e ∈ R, e.1 = i) → R.Pairwise (PairOk ops.toList) → (∀ e ∈ R, backB e.2.1 e.1 = true) →
    runR E ops.toList R σ σ' → SRel A base loc σ a w → After A base loc0 hp0 w0 loc σ.hp w →
    wpAny P .any ops (fun ex a' w' => ex = .normal ∧ ∃ loc', SRel A base loc' σ' a' w' ∧ After A base loc0 hp0 w0 loc' σ'.hp w') n listed a w := by
  intro n
  induction n with
  | zero =>
    intro R listed σ a w loc hl hsz h1 h2 h3 h4 h5 hs ha
    have : R = [] := List.length_eq_zero_iff.1 hl
    subst this
    refine ⟨?_, rfl, loc, ?_, ?_⟩
    · rw [List.eq_nil_iff_forall_not_mem]
      intro i hi
      obtain ⟨g1, g2, _⟩ := mem_ready.1 hi
      obtain ⟨e, he, _⟩ := h2 i g1 g2
      cases he
    · rw [← show σ = σ' from h5]; exact hs
    · rw [← show σ = σ' from h5]; exact ha
  | succ n ih =>
    intro R listed σ a w loc hl hsz h1 h2 h3 h4 h5 hs ha
    refine ⟨fun hr => ?_, fun i hi => ?_⟩
    · exfalso
      cases R with
      | nil => simp at hl
      | cons e R =>
        obtain ⟨g1, g2⟩ := h1 e List.mem_cons_self
        have hlt := (Array.getElem?_eq_some_iff.1 g1).1
        have : e.1 ∈ Region.ready .any ops listed := by
          refine mem_ready.2 ⟨hlt, g2, e.2.1, g1, fun d hd hb => ?_⟩
          have hback := h4 e List.mem_cons_self
          simp only [backB, List.all_eq_true, Bool.or_eq_true, Bool.not_eq_true'] at hback
          have hon : d.on < e.1 := by
            rcases hback d hd with hh | hh
            · rw [hb] at hh; cases hh
            · rw [Nat.blt_eq] at hh; exact hh
          cases hld : listed.getD d.on true with
          | true =>
            rw [Array.getD_eq_getD_getElem?] at hld ⊢
            have : listed[d.on]? = some listed[d.on] := Array.getElem?_eq_getElem (by omega)
            rw [this] at hld ⊢
            exact hld
          | false =>
            exfalso
            obtain ⟨e', he', hk⟩ := h2 d.on (by omega) hld
            rcases List.mem_cons.1 he' with rfl | he'
            · omega
            · have := (List.pairwise_cons.1 h3).1 e' he'
              have := this.1
              omega
        rw [hr] at this
        cases this
    · obtain ⟨g1, g2, o, g3, g4⟩ := mem_ready.1 hi
      obtain ⟨e, he, hk⟩ := h2 i g1 g2
      obtain ⟨R1, R2, rfl⟩ := List.append_of_mem he
      obtain ⟨g5, g6⟩ := h1 e he
      have ho : o = e.2.1 := by
        rw [hk, g3] at g5
        exact Option.some.inj g5
      have hcomm : ∀ d ∈ R1, commB ops.toList d.2.1 d.2.2 e.2.1 e.2.2 = true := by
        intro d hd
        have hp := (List.pairwise_append.1 h3).2.2 d hd e List.mem_cons_self
        rcases hp.2 with hh | hh
        · exfalso
          simp only [hasEdge, List.any_eq_true, Bool.and_eq_true] at hh
          obtain ⟨x, hx, hb, hon⟩ := hh
          have hon := Nat.eq_of_beq_eq_true hon
          have := g4 x (by rw [ho]; exact hx) hb
          have hd2 := (h1 d (List.mem_append_left _ hd)).2
          rw [hon] at this
          rw [Array.getD_eq_getD_getElem?] at this hd2
          cases hq : listed[d.1]? with
          | none => rw [hq] at this; cases this
          | some b => rw [hq] at this hd2; simp only [Option.getD_some] at this hd2; rw [this] at hd2; cases hd2
        · exact hh
      obtain ⟨fr, hp, r1, r2⟩ := move_front R1 h5 hcomm
      rw [← ho] at r1
      refine drawOper_wp hE g3 r1 hs (fun loc' a' w' hs' ha' => ?_)
      have hget : ∀ j, (listed.setIfInBounds i true).getD j true = if i = j then true else listed.getD j true := by
        intro j
        simp only [Array.getD_eq_getD_getElem?]
        by_cases hij : i = j
        · subst hij
          rw [if_pos rfl, Array.getElem?_setIfInBounds_self_of_lt (by omega)]
          rfl
        · rw [if_neg hij, Array.getElem?_setIfInBounds_ne hij]
      have hsub : (R1 ++ R2).Sublist (R1 ++ e :: R2) := List.Sublist.append (List.Sublist.refl _) (List.sublist_cons_self _ _)
      have hneq : ∀ d ∈ R1 ++ R2, i ≠ d.1 := by
        intro d hd
        rcases List.mem_append.1 hd with hd | hd
        · have := ((List.pairwise_append.1 h3).2.2 d hd e List.mem_cons_self).1
          omega
        · have := ((List.pairwise_cons.1 (List.pairwise_append.1 h3).2.1).1 d hd).1
          omega
      refine ih (R := R1 ++ R2) (by simp only [List.length_append, List.length_cons] at hl ⊢; omega) (by simpa using hsz) (fun d hd => ?_) (fun j hj hun => ?_) (h3.sublist hsub) (fun d hd => h4 d (hsub.subset hd)) r2 hs' (ha.trans ha')
      · obtain ⟨q1, q2⟩ := h1 d (hsub.subset hd)
        exact ⟨q1, by rw [hget, if_neg (hneq d hd)]; exact q2⟩
      · rw [hget] at hun
        split at hun
        · cases hun
        · rename_i hij
          obtain ⟨d, hd, hdj⟩ := h2 j hj hun
          refine ⟨d, ?_, hdj⟩
          rcases List.mem_append.1 hd with hd | hd
          · exact List.mem_append_left _ hd
          · rcases List.mem_cons.1 hd with rfl | hd
            · omega
            · exact List.mem_append_right _ hd

/-- A region whose operations may be drawn in any order. -/
theorem draw_sound (hE : EnvOk Γ P E) {id : Nat} {ops : Array Oper} (h : (evDraw E ops.toList σ).run = some σ') (hs : SRel A base loc σ a w) :
    (Code.region id ops true).wp P (fun ex a' w' => ex = .normal ∧ ∃ loc', SRel A base loc' σ' a' w' ∧ After A base loc σ.hp w loc' σ'.hp w') a w := by
  unfold evDraw at h
  obtain ⟨⟨σ1, fs⟩, h1, h2⟩ := T.run_some_bind h
  dsimp only at h2
  split at h2
  case h_2 => exact (run_fail h2).elim
  rename_i hchk
  simp only [T.run, Option.some.injEq] at h2
  subst h2
  obtain ⟨hl, hr⟩ := draws_runR (i := 0) h1
  obtain ⟨c1, c2, c3⟩ := chkAll_pairs hchk (fun d hd => by cases hd)
  obtain ⟨t1, t2, t3⟩ := tag_at (i := 0) hl
  have ha := hs.inv.idle (w' := { w with drawn := w.drawn + 1 }) ⟨rfl, rfl, rfl, Nat.le_refl _, fun _ _ _ => rfl⟩
  have hs' : SRel A base loc σ a { w with drawn := w.drawn + 1 } := ⟨ha.rvs hs.fr, hs.df, ha.inv⟩
  refine wp_region_any hE.mixed ?_
  have hlen : ops.size = (tag 0 ops.toList fs).length := by rw [t3]; simp
  rw [hlen]
  refine draw_any hE _ rfl ?_ (fun e he => ?_) (fun i hi hun => ?_) c1 (fun e he => (c3 e he).1) hr hs' ha
  · simp [hlen]
  · obtain ⟨q1, q2⟩ := t1 e he
    rw [Nat.sub_zero, Array.getElem?_toList] at q1
    have hlt := (Array.getElem?_eq_some_iff.1 q1).1
    refine ⟨q1, ?_⟩
    rw [Array.getD_eq_getD_getElem?, Array.getElem?_replicate, if_pos (by omega)]
    rfl
  · obtain ⟨e, he, hk⟩ := t2 i (by simpa using hi)
    exact ⟨e, he, by omega⟩
end
end Vm
/- The symbolic machine: code. -/
namespace Vm
open Go
set_option linter.unusedVariables false
set_option linter.unusedSimpArgs false

section
variable {P : Program} {E : Env} {Γ : Glob} {A : Dom Γ} {base q : Nat} {loc loc' loc2 : List Loc} {hp hp' hp2 : HP} {w w' w2 : World} {a : Act} {o : Oper} {u : Value} {v : AV} {σ σ' : St}

def Ex.toExit : Ex → Exit
  | .normal => .normal
  | .exit id => .exit id
  | .ret => .ret

def Post (q : Nat) {Γ : Glob} (A : Dom Γ) (base : Nat) (loc : List Loc) (hp : HP) (w : World) (e : Ex) (σ' : St) (ex : Exit) (a' : Act) (w' : World) : Prop :=
  ex = e.toExit ∧ ∃ loc', SRel A base loc' σ' a' w' ∧ Aft q A base loc hp w loc' σ'.hp w'

def loopsIn : Code → List (Nat × Code)
  | .seq a b => loopsIn a ++ loopsIn b
  | .cond _ a b => loopsIn a ++ loopsIn b
  | .block _ b => loopsIn b
  | .loop b => match firstReg b with
    | some n => (n, b) :: loopsIn b
    | none => loopsIn b
  | _ => []

def LoopOk (P : Program) (q : Nat) {Γ : Glob} (A : Dom Γ) (base : Nat) (Λ : Nat → St → T (Ex × St)) (n : Nat) (c : Code) : Prop :=
  ∀ (σ : St) (e : Ex) (σ' : St), (Λ n σ).run = some (e, σ') → ∀ (loc : List Loc) (a : Act) (w : World), SRel A base loc σ a w → (Code.loop c).wp P (Post q A base loc σ.hp w e σ') a w

theorem code_sound (hE : EnvOk Γ P E) {Λ : Nat → St → T (Ex × St)} : ∀ (c : Code) {σ : St} {e : Ex} {σ' : St} {a : Act} {w : World} {loc : List Loc},
    (∀ n b, (n, b) ∈ loopsIn c → LoopOk P q A base Λ n b) → (evCode E Λ c σ).run = some (e, σ') → SRel A base loc σ a w → c.wp P (Post q A base loc σ.hp w e σ') a w
  | .skip, σ, e, σ', a, w, loc, hL, h, hs => by
    simp only [evCode, T.run, Option.some.injEq, Prod.mk.injEq] at h
    obtain ⟨rfl, rfl⟩ := h
    exact wp_skip ⟨rfl, loc, hs, Aft.refl⟩
  | .region id ops false, σ, e, σ', a, w, loc, hL, h, hs => by
    simp only [evCode] at h
    obtain ⟨σ1, h1, h2⟩ := T.run_some_bind h
    simp only [T.run, Option.some.injEq, Prod.mk.injEq] at h2
    obtain ⟨rfl, rfl⟩ := h2
    exact wp_region_list (ops_sound hE h1 hs (fun loc' a' w' h3 h4 => ⟨rfl, loc', h3, h4.aft⟩))
  | .region id ops true, σ, e, σ', a, w, loc, hL, h, hs => by
    simp only [evCode] at h
    obtain ⟨σ1, h1, h2⟩ := T.run_some_bind h
    simp only [T.run, Option.some.injEq, Prod.mk.injEq] at h2
    obtain ⟨rfl, rfl⟩ := h2
    refine wp_mono (draw_sound hE h1 hs) ?_
    rintro ex a' w' ⟨rfl, loc', h3, h4⟩
    exact ⟨rfl, loc', h3, h4.aft⟩
  | .seq x y, σ, e, σ', a, w, loc, hL, h, hs => by
    simp only [evCode] at h
    obtain ⟨⟨e1, σ1⟩, h1, h2⟩ := T.run_some_bind h
    simp only [loopsIn, List.mem_append] at hL
    refine wp_seq (wp_mono (code_sound hE x (fun n b hb => hL n b (.inl hb)) h1 hs) ?_)
    rintro ex a1 w1 ⟨rfl, loc1, h3, h4⟩
    cases e1 with
    | normal =>
      refine wp_mono (code_sound hE y (fun n b hb => hL n b (.inr hb)) h2 h3) ?_
      rintro ex a2 w2 ⟨rfl, loc2, h5, h6⟩
      exact ⟨rfl, loc2, h5, h4.trans h6⟩
    | exit id =>
      simp only [T.run, Option.some.injEq, Prod.mk.injEq] at h2
      obtain ⟨rfl, rfl⟩ := h2
      exact ⟨rfl, loc1, h3, h4⟩
    | ret =>
      simp only [T.run, Option.some.injEq, Prod.mk.injEq] at h2
      obtain ⟨rfl, rfl⟩ := h2
      exact ⟨rfl, loc1, h3, h4⟩
  | .cond c x y, σ, e, σ', a, w, loc, hL, h, hs => by
    simp only [evCode] at h
    have hc := hs.ev c
    simp only [loopsIn, List.mem_append] at hL
    split at h
    · rename_i ec
      rw [ec] at hc
      exact wp_cond_true (bool_inj (b := true) rfl hc) (code_sound hE x (fun n b hb => hL n b (.inl hb)) h hs)
    · rename_i ec
      rw [ec] at hc
      exact wp_cond_false (bool_inj (b := false) rfl hc) (code_sound hE y (fun n b hb => hL n b (.inr hb)) h hs)
    · rename_i b ec
      rw [ec] at hc
      simp only [T.run] at h
      have hb := bool_inj (b := b) rfl hc
      cases b
      · exact wp_cond_false hb (code_sound hE y (fun n b hb => hL n b (.inr hb)) h hs)
      · exact wp_cond_true hb (code_sound hE x (fun n b hb => hL n b (.inl hb)) h hs)
    · exact (run_fail h).elim
  | .block id c, σ, e, σ', a, w, loc, hL, h, hs => by
    simp only [evCode] at h
    obtain ⟨⟨e1, σ1⟩, h1, h2⟩ := T.run_some_bind h
    simp only [loopsIn] at hL
    refine wp_block (wp_mono (code_sound hE c hL h1 hs) ?_)
    rintro ex a1 w1 ⟨rfl, loc1, h3, h4⟩
    cases e1 with
    | normal =>
      simp only [T.run, Option.some.injEq, Prod.mk.injEq] at h2
      obtain ⟨rfl, rfl⟩ := h2
      exact ⟨rfl, loc1, h3, h4⟩
    | exit id' =>
      simp only [Ex.toExit, Exit.inBlock]
      dsimp only at h2
      split at h2
      · rename_i hb
        simp only [T.run, Option.some.injEq, Prod.mk.injEq] at h2
        obtain ⟨rfl, rfl⟩ := h2
        rw [if_pos (Nat.eq_of_beq_eq_true hb)]
        exact ⟨rfl, loc1, h3, h4⟩
      · rename_i hb
        simp only [T.run, Option.some.injEq, Prod.mk.injEq] at h2
        obtain ⟨rfl, rfl⟩ := h2
        rw [if_neg (fun e => by rw [e, Nat.beq_refl] at hb; cases hb)]
        exact ⟨rfl, loc1, h3, h4⟩
    | ret =>
      simp only [T.run, Option.some.injEq, Prod.mk.injEq] at h2
      obtain ⟨rfl, rfl⟩ := h2
      exact ⟨rfl, loc1, h3, h4⟩
  | .loop c, σ, e, σ', a, w, loc, hL, h, hs => by
    simp only [evCode] at h
    split at h
    case h_2 => exact (run_fail h).elim
    rename_i n hn
    exact hL n c (by simp [loopsIn, hn]) σ e σ' h loc a w hs
  | .exit id, σ, e, σ', a, w, loc, hL, h, hs => by
    simp only [evCode, T.run, Option.some.injEq, Prod.mk.injEq] at h
    obtain ⟨rfl, rfl⟩ := h
    exact wp_exit ⟨rfl, loc, hs, Aft.refl⟩
  | .ret, σ, e, σ', a, w, loc, hL, h, hs => by
    simp only [evCode, T.run, Option.some.injEq, Prod.mk.injEq] at h
    obtain ⟨rfl, rfl⟩ := h
    exact wp_ret ⟨rfl, loc, hs, Aft.refl⟩
  | .rangeFunc .., _, _, _, _, _, _, _, h, _ => (run_fail h).elim
  | .scope .., _, _, _, _, _, _, _, h, _ => (run_fail h).elim
  | .label .., _, _, _, _, _, _, _, h, _ => (run_fail h).elim
  | .goto .., _, _, _, _, _, _, _, h, _ => (run_fail h).elim
  | .refuse .., _, _, _, _, _, _, _, h, _ => (run_fail h).elim
end
end Vm
/- The symbolic machine: functions told to their callers. -/
namespace Vm
open Go
set_option linter.unusedVariables false
set_option linter.unusedSimpArgs false

/-- A value that is some data. -/
def ValD (ok : Nat → Prop) (w : World) (t : Ty) (x : t.den) (u : Value) : Prop :=
  Enc ok w t x u.cells.toList ∧ (t.row = true → ∃ cs, u = .agg cs) ∧ (t.row = false → ∀ cs, u ≠ .agg cs)

/-- Cells at a place. -/
def CellsAt (ok : Nat → Prop) (w : World) (t : Ty) (x : t.den) (b off : Nat) : Prop :=
  b < w.heap.size ∧ ∃ cs, Enc ok w t x cs ∧ ∀ j u, cs[j]? = some u → w.cell? ⟨b, off + j, none⟩ = some u

def ParV (ok : Nat → Prop) (w : World) : (ps : List PT) → denP ps → List Value → Prop
  | [], _, vs => vs = []
  | .d t :: ps, x, vs => ∃ u r, vs = u :: r ∧ ValD ok w t x.1 u ∧ ParV ok w ps x.2 r
  | .rp t :: ps, x, vs => ∃ b off r, vs = .pointer (some ⟨b, off, none⟩) :: r ∧ ok b ∧ CellsAt ok w t x.1 b off ∧ ParV ok w ps x.2 r

def RetV (ok : Nat → Prop) (base : Nat) (w : World) : (rs : List RT) → denR rs → List Value → Prop
  | [], _, us => us = []
  | .d t :: rs, x, us => ∃ u r, us = u :: r ∧ ValD ok w t (hdR (.d t) rs x) u ∧ RetV ok base w rs (tlR (.d t) rs x) r
  | .own e t :: rs, x, us => ∃ u r, us = u :: r ∧ (∃ cs, w.ownsRow base e t.size u (hdR (.own e t) rs x).length cs ∧ EncL ok w t (hdR (.own e t) rs x) cs) ∧ RetV ok base w rs (tlR (.own e t) rs x) r

def oneOrTupV : List Value → Value
  | [v] => v
  | vs => .tuple vs.toArray

/-- What a function is told to be. -/
def EntryOk (Γ : Glob) (P : Program) (f : FuncId) : Entry → Prop
  | ⟨none, ps, rs, g⟩ => ∀ x r, g x = some r → ∀ (A : Nat → Prop) (w : World) (vals : List Value), Γ.G w → (∀ k, A k → k < w.heap.size) → ParV A w ps x vals →
      Calls P f vals.toArray w (fun ex w' => ∃ us, ex = .returned (oneOrTupV us) ∧ RetV (fun k => A k ∨ w.heap.size ≤ k) w.heap.size w' rs r us ∧ Step (fun _ => False) w w')
  | ⟨some t, ps, rs, g⟩ => ∀ y x r, g (y, x) = some r → ∀ (A : Nat → Prop) (w : World) (b off : Nat) (vals : List Value), Γ.G w → ¬ Γ.K b → (∀ k, A k → k < w.heap.size) → ¬ A b → ParV A w ps x vals → CellsAt A w t y b off → w.there b off t.size →
      Calls P f (Value.pointer (some ⟨b, off, none⟩) :: vals).toArray w (fun ex w' => ∃ us, ex = .returned (oneOrTupV us) ∧
        RetV (fun k => A k ∨ w.heap.size ≤ k) w.heap.size w' rs (tlR (.d t) rs r) us ∧ CellsAt (fun k => A k ∨ w.heap.size ≤ k) w' t (hdR (.d t) rs r) b off ∧ w'.there b off t.size ∧
        Step (fun k => k = b) w w')

section
variable {P : Program} {E : Env} {Γ : Glob} {A : Dom Γ} {base q : Nat} {loc loc' loc2 : List Loc} {hp hp' hp2 : HP} {w w' w2 : World} {a : Act} {o : Oper} {u : Value} {v : AV} {σ σ' : St}

theorem shape_row {t : Ty} {ok : Nat → Prop} {a : AV} {u : Value} {cs : List AV} (hc : avCells a = some cs) (hb : rowB t a = true) (hv : RV loc ok w a u) :
    (t.row = true → ∃ cs, u = .agg cs) ∧ (t.row = false → ∀ cs, u ≠ .agg cs) := by
  constructor
  · intro ht
    cases hv <;> simp_all [rowB]
  · intro ht c e
    subst e
    cases hv with
    | undef => cases hc
    | agg h h1 => simp [rowB, ht] at hb

theorem Enc.bound {ok : Nat → Prop} : ∀ {t : Ty} {x : t.den} {cs : List Value}, Enc ok w t x cs → Enc (fun k => ok k ∧ k < w.heap.size) w t x cs
  | .int _, _, _, h => h
  | .bool, _, _, h => h
  | .str, _, _, h => h
  | .unit, _, _, h => h
  | .pair _ _, _, _, ⟨c1, c2, e, h1, h2⟩ => ⟨c1, c2, e, h1.bound, h2.bound⟩
  | .sl _ t, _, _, ⟨A, c, e, hl, h⟩ => by
    refine ⟨A, c, e, hl, ?_⟩
    rcases h with h | ⟨b, off, h1, h2, h3, h4⟩
    · exact .inl h
    · exact .inr ⟨b, off, h1, ⟨h2, h3⟩, h3, fun i x hx => by
        obtain ⟨ds, h5, h6⟩ := h4 i x hx
        exact ⟨ds, Enc.bound (t := t) h5, h6⟩⟩

theorem Enc.noSl {ok ok' : Nat → Prop} : ∀ {t : Ty} {x : t.den} {cs : List Value}, Vm.noSl t = true → Enc ok w t x cs → Enc ok' w' t x cs
  | .int _, _, _, _, h => h
  | .bool, _, _, _, h => h
  | .str, _, _, _, h => h
  | .unit, _, _, _, h => h
  | .pair _ _, _, _, hn, ⟨c1, c2, e, h1, h2⟩ => by
    simp only [Vm.noSl, Bool.and_eq_true] at hn
    exact ⟨c1, c2, e, Enc.noSl hn.1 h1, Enc.noSl hn.2 h2⟩
  | .sl _ t, _, _, hn, _ => by simp [Vm.noSl] at hn

theorem ValD.mono {ok ok' : Nat → Prop} (h : ∀ k, ok k → ok' k) {t : Ty} {x : t.den} (hv : ValD ok w t x u) : ValD ok' w t x u := ⟨hv.1.carry' h, hv.2⟩

/-- The arguments, as data. -/
theorem decP_sound {m : Mo} {ok0 : Nat → Prop} : ∀ (ps : List PT) {hp hp' : HP} {aq : List AV} {vs : List Value} {x : denP ps}, decP m ps hp aq = some (x, hp') → Inv A base loc hp w → (∀ k, ok0 k → okk A base loc hp k) → RVs loc ok0 w aq vs →
    Kill hp hp' ∧ ParV (okm m A base loc hp') w ps x vs
  | [], hp, hp', aq, vs, x, h, hi, h0, hv => by
    cases hv with
    | nil =>
      simp only [decP, Option.some.injEq, Prod.mk.injEq] at h
      obtain ⟨_, rfl⟩ := h
      exact ⟨Kill.refl _, rfl⟩
    | cons h1 h2 => simp [decP] at h
  | .d t :: ps, hp, hp', aq, vs, x, h, hi, h0, hv => by
    cases hv with
    | nil => simp [decP] at h
    | cons h1 h2 =>
      simp only [decP] at h
      split at h
      case h_2 => cases h
      rename_i cs hcs hrow
      split at h
      case h_2 => cases h
      rename_i y hp1 hpk
      split at h
      case h_2 => cases h
      rename_i r hp2 hd
      simp only [Option.some.injEq, Prod.mk.injEq] at h
      obtain ⟨rfl, rfl⟩ := h
      obtain ⟨h3, h4⟩ := avCells_rv h1 hcs
      obtain ⟨k1, h5⟩ := packAll_sound hpk hi h0 h3
      obtain ⟨k2, h6⟩ := decP_sound ps hd (hi.kill k1).inv (fun k hk => k1.okk (h0 k hk)) h2
      exact ⟨k1.trans k2, _, _, rfl, ⟨h5.carry' (fun k hk => k2.okm hk), shape_row hcs hrow h1⟩, h6⟩
  | .rp t :: ps, hp, hp', aq, vs, x, h, hi, h0, hv => by
    cases hv with
    | nil => simp [decP] at h
    | cons h1 h2 =>
      simp only [decP] at h
      split at h
      case h_2 => cases h
      rename_i y hpd
      split at h
      case h_2 => cases h
      rename_i r hp2 hd
      simp only [Option.some.injEq, Prod.mk.injEq] at h
      obtain ⟨rfl, rfl⟩ := h
      obtain ⟨k2, h6⟩ := decP_sound ps hd hi h0 h2
      refine ⟨k2, ?_⟩
      unfold ptrData at hpd
      split at hpd
      · split at hpd
        · rename_i e
          subst e
          simp only [Option.some.injEq] at hpd
          subst hpd
          cases h1 with
          | rptr he hb hlt hc => exact ⟨_, _, _, rfl, k2.okm (okm_of (h0 _ hb)), ⟨hlt, _, he.carry' (fun k hk => k2.okm (okm_of (h0 k hk))), hc⟩, h6⟩
        · cases hpd
      · split at hpd
        case h_2 => cases hpd
        rename_i r' off mm oo cs hr
        split at hpd
        case h_2 => cases hpd
        rename_i z hpz hpk
        simp only [Option.some.injEq] at hpd
        subst hpd
        cases h1 with
        | @ptr _ _ b o hl =>
          obtain ⟨hlt, _⟩ := hi.obj _ _ _ hl hr
          obtain ⟨us, q1, q2, q3⟩ := cells_of hi hl hr
          obtain ⟨k3, he⟩ := packAll_sound hpk hi (fun _ h => h) (q1.sliceL off t.size)
          refine ⟨_, _, _, rfl, trivial, ⟨hlt, _, he.carry' (fun _ _ => trivial), fun j u hu => ?_⟩, h6⟩
          have : us[off + j]? = some u := by
            rw [List.getElem?_take] at hu
            split at hu
            · rw [List.getElem?_drop] at hu; exact hu
            · cases hu
          rw [Nat.add_assoc]
          exact (q2 _ _ this).1
      · cases hpd

theorem ParV.weak {ok ok' : Nat → Prop} (hk : ∀ k, k < w.heap.size → ok k → ok' k) : ∀ (ps : List PT) {x : denP ps} {vs : List Value}, ParV ok w ps x vs → ParV ok' w ps x vs
  | [], _, _, h => h
  | .d t :: ps, _, _, ⟨u, r, e, h1, h2⟩ => ⟨u, r, e, ⟨(h1.1.bound).carry' (fun k h => hk k h.2 h.1), h1.2⟩, ParV.weak hk ps h2⟩
  | .rp t :: ps, _, _, ⟨b, off, r, e, hb, ⟨hlt, cs, h1, h2⟩, h3⟩ => ⟨b, off, r, e, hk b hlt hb, ⟨hlt, cs, (h1.bound).carry' (fun k h => hk k h.2 h.1), h2⟩, ParV.weak hk ps h3⟩

/-- The arguments, as data, with the blocks that they may lead to. -/
theorem argsIn_sound {ps : List PT} {lend : Bool} {args : List AV} {vals : List Value} {x : denP ps} (h : argsIn ps lend args hp = some (x, hp')) (hi : Inv A base loc hp w) (hv : RVs loc (okk A base loc hp) w args vals) :
    Kill hp hp' ∧ ∃ A' : Nat → Prop, (∀ k, A' k → k < w.heap.size) ∧ ParV A' w ps x vals ∧ ((∀ k, A' k → okk A base loc hp' k) ∨ lend = true) := by
  have fin : ∀ {m : Mo} {y : denP ps}, decP m ps hp args = some (y, hp') → Kill hp hp' ∧ ParV (fun k => okm m A base loc hp' k ∧ k < w.heap.size) w ps y vals := by
    intro m y hd
    obtain ⟨k1, h1⟩ := decP_sound ps hd hi (fun _ h => h) hv
    exact ⟨k1, h1.weak (fun k hk ho => ⟨ho, hk⟩) ps⟩
  unfold argsIn at h
  split at h
  · rename_i p hp1
    simp only [Option.some.injEq] at h
    subst h
    obtain ⟨k1, h1⟩ := fin hp1
    exact ⟨k1, _, fun k hk => hk.2, h1, .inl (fun k hk => hk.1)⟩
  · cases lend with
    | true =>
      obtain ⟨k1, h1⟩ := fin h
      exact ⟨k1, _, fun k hk => hk.2, h1, .inr rfl⟩
    | false =>
      obtain ⟨k1, h1⟩ := fin h
      exact ⟨k1, _, fun k hk => hk.2, h1, .inl (fun k hk => hk.1)⟩

/-- Results without rows of the machine's own. -/
theorem encR0 {ok ok' : Nat → Prop} {b : Nat} : ∀ (rs : List RT) {x : denR rs} {us : List Value} {hp : HP}, ownsR rs = 0 → (∀ k, ok k → ok' k) ∨ noSlR rs = true → RetV ok b w rs x us →
    (encRs rs x hp).2 = hp ∧ RVs loc ok' w (encRs rs x hp).1 us
  | [], x, us, hp, _, _, h => by rw [show us = [] from h]; exact ⟨rfl, .nil⟩
  | .d t :: rs, x, us, hp, h0, hk, ⟨u, r, e, h1, h2⟩ => by
    obtain ⟨h3, h4⟩ := encR0 (ok' := ok') rs (hp := hp) h0 (hk.imp (fun h => h) (fun h => by simp only [noSlR, Bool.and_eq_true] at h; exact h.2)) h2
    refine ⟨h3, ?_⟩
    rw [e]
    refine .cons (mkAV_rv (t := t) ?_ h1.2.1 h1.2.2) h4
    rcases hk with hk | hk
    · exact h1.1.carry' hk
    · simp only [noSlR, Bool.and_eq_true] at hk
      exact Enc.noSl hk.1 h1.1
  | .own e t :: rs, x, us, hp, h0, hk, h => by simp [ownsR] at h0

theorem EncL.noSl {ok ok' : Nat → Prop} {t : Ty} (hn : Vm.noSl t = true) : ∀ {xs : List t.den} {cs : List Value}, EncL ok w t xs cs → EncL ok' w' t xs cs
  | [], _, h => h
  | _ :: _, _, ⟨c1, c2, e, h1, h2⟩ => ⟨c1, c2, e, Enc.noSl hn h1, EncL.noSl hn h2⟩

theorem encR1 {ok : Nat → Prop} (hi : Inv A base loc hp w) (hst : Step (fun _ => False) w w') : ∀ (rs : List RT) {x : denR rs} {us : List Value}, ownsR rs = 1 → noSlR rs = true → RetV ok w.heap.size w' rs x us →
    ∃ loc', RVs loc' (okk A base loc' (encRs rs x hp).2) w' (encRs rs x hp).1 us ∧ After A base loc hp w loc' (encRs rs x hp).2 w'
  | [], x, us, h0, _, _ => by simp [ownsR] at h0
  | .d t :: rs, x, us, h0, hn, ⟨u, r, e, h1, h2⟩ => by
    simp only [noSlR, Bool.and_eq_true] at hn
    obtain ⟨loc', h3, h4⟩ := encR1 hi hst rs h0 hn.2 h2
    refine ⟨loc', ?_, h4⟩
    rw [e]
    exact .cons (mkAV_rv (t := t) (Enc.noSl hn.1 h1.1) h1.2.1 h1.2.2) h3
  | .own et t :: rs, x, us, h0, hn, ⟨u, r, e, ⟨cs, h1, h1'⟩, h2⟩ => by
    simp only [noSlR, Bool.and_eq_true] at hn
    obtain ⟨loc', h3, h4⟩ := new_arr hi hst h1 (EncL.noSl hn.1 h1')
    have h5 := encR0 (loc := loc') (ok' := okk A base loc' (hp ++ [.arr et t (hdR (.own et t) rs x)])) rs (hp := hp ++ [.arr et t (hdR (.own et t) rs x)]) (by simpa [ownsR] using h0) (.inr hn.2) h2
    have e2 : (encRs (.own et t :: rs) x hp).2 = hp ++ [.arr et t (hdR (.own et t) rs x)] := h5.1
    rw [e2, e]
    exact ⟨loc', .cons h3 h5.2, h4⟩

theorem oneOrTup_rv {ok : Nat → Prop} : ∀ {aq : List AV} {us : List Value}, RVs loc ok w aq us → RV loc ok w (oneOrTup aq) (oneOrTupV us)
  | _, _, .nil => .tup .nil
  | _, _, .cons h .nil => h
  | _, _, .cons h (.cons h1 h2) => .tup (.cons h (.cons h1 h2))

theorem okk_after (h : After A base loc hp w loc' hp' w') (hi : Inv A base loc hp w) {A' : Nat → Prop} (hA : ∀ k, A' k → k < w.heap.size) (hs : ∀ k, A' k → okk A base loc hp k)
    (hn : ∀ k, w.heap.size ≤ k → ¬ MB loc' hp' k) {k : Nat} (hk : A' k ∨ w.heap.size ≤ k) : okk A base loc' hp' k := by
  rcases hk with hk | hk
  · exact h.carry.into k (hA k hk) (hs k hk)
  · exact ⟨.inr (Nat.le_trans hi.low hk), hn k hk⟩

theorem mb_put {r : Nat} {ob ob' : Ob} (hr : nth hp r = some ob) (hlv : ob.live = true) {k : Nat} (hm : MB loc (setNth hp r ob') k) : MB loc hp k := by
  obtain ⟨i, l, oc, h1, h2, h3, h4⟩ := hm
  by_cases e : r = i
  · subst e
    exact ⟨r, l, ob, h1, hr, hlv, h4⟩
  · rw [nth_set_ne e] at h2
    exact ⟨i, l, oc, h1, h2, h3, h4⟩

theorem callEnt_sound {f : FuncId} {e : Entry} {args : List AV} {vals : List Value} (he : EntryOk Γ P f e) (h : (callEnt e args hp).run = some (v, hp')) (hi : Inv A base loc hp w) (hv : RVs loc (okk A base loc hp) w args vals) :
    Calls P f vals.toArray w (fun e w' => ∃ u, e = .returned u ∧ Res A base loc hp w v hp' u w') := by
  obtain ⟨mu, ps, rs, g⟩ := e
  cases mu with
  | none =>
    simp only [callEnt] at h
    split at h
    case h_2 => exact (run_fail h).elim
    rename_i x hp1 hrs hin
    simp only [T.run] at h
    obtain ⟨r, hr, h⟩ := Option.bind_eq_some_iff.1 h
    simp only [Option.some.injEq, Prod.mk.injEq] at h
    obtain ⟨rfl, rfl⟩ := h
    obtain ⟨k1, A', hA, hpar, hsub⟩ := argsIn_sound hin hi hv
    have hcall := he x r hr A' w vals hi.gl hA hpar
    refine hcall.mono ?_
    rintro ex w' ⟨us, rfl, hret, hst⟩
    refine ⟨_, rfl, ?_⟩
    have a1 := hi.kill k1
    have a2 := a1.inv.idle hst
    have h1 : ∃ loc', RVs loc' (okk A base loc' (encRs rs r hp1).2) w' (encRs rs r hp1).1 us ∧ After A base loc hp1 w loc' (encRs rs r hp1).2 w' := by
      simp only [rsOk, Bool.or_eq_true, Bool.and_eq_true] at hrs
      rcases hrs with hrs | ⟨hrs, hn⟩
      · have h0 := Nat.eq_of_beq_eq_true hrs
        have := encR0 (loc := loc) (ok' := okk A base loc hp1) rs (hp := hp1) h0 (hsub.imp (fun hs k hk => okk_after a2 a1.inv hA hs (fun k hk hm => by have := mb_lt a1.inv hm; omega) hk) (fun h => h)) hret
        rw [this.1]
        exact ⟨loc, this.2, a2⟩
      · exact encR1 a1.inv hst rs (Nat.eq_of_beq_eq_true hrs) hn hret
    obtain ⟨loc', h2, h3⟩ := h1
    exact ⟨loc', oneOrTup_rv h2, a1.trans h3⟩
  | some t =>
    cases args with
    | nil => exact (run_fail h).elim
    | cons a args =>
    cases a <;> try exact (run_fail h).elim
    rename_i b off
    simp only [callEnt] at h
    split at h
    case h_2 => exact (run_fail h).elim
    rename_i x hp1 hin
    split at h
    case h_2 => exact (run_fail h).elim
    rename_i oo cs hb
    split at h
    case h_2 => exact (run_fail h).elim
    rename_i y hp2 hrs hpk
    simp only [T.run] at h
    obtain ⟨r, hr, h⟩ := Option.bind_eq_some_iff.1 h
    simp only [Option.some.injEq, Prod.mk.injEq] at h
    obtain ⟨rfl, rfl⟩ := h
    simp only [Bool.and_eq_true] at hrs
    obtain ⟨hrs, hoff, hle⟩ := hrs
    have hoff := Nat.eq_of_beq_eq_true hoff
    have heq := Nat.eq_of_beq_eq_true hle
    have hle : off + t.size ≤ cs.length := by omega
    cases hv with
    | cons hv1 hv2 =>
    cases hv1 with
    | @ptr _ _ gb o hl =>
    obtain ⟨k1, A', hA, hpar, hsub⟩ := argsIn_sound hin hi hv2
    have hsub := hsub.resolve_right (by simp)
    have a1 := hi.kill k1
    obtain ⟨us, q1, q2, q3⟩ := cells_of a1.inv hl hb
    have hlen := q1.len
    obtain ⟨_, he1⟩ := packAll_sound hpk a1.inv (fun _ h => h) (q1.sliceL off t.size)
    have e2 := packAll_strict hpk
    rw [e2] at he1
    have hgb : gb < w.heap.size := (a1.inv.obj _ _ _ hl hb).1
    have hMB : MB loc hp1 gb := ⟨b, _, _, hl, hb, rfl, rfl⟩
    have hcs : ∀ j u, ((us.drop off).take t.size)[j]? = some u → us[off + j]? = some u := by
      intro j u hu
      rw [List.getElem?_take] at hu
      split at hu
      · rw [List.getElem?_drop] at hu; exact hu
      · cases hu
    have hcall := he y x r hr (fun k => okk A base loc hp1 k ∧ k < w.heap.size) w gb (o + off) _ hi.gl (a1.inv.gk gb hMB) (fun k hk => hk.2) (fun hk => hk.1.2 hMB) (hpar.weak (fun k hk hh => ⟨hsub k hh, hk⟩) ps)
      ⟨hgb, _, he1.bound, fun j u hu => by rw [Nat.add_assoc]; exact (q2 _ _ (hcs j u hu)).1⟩
      (fun j hj => by
        have hlt : off + j < us.length := by omega
        have := q2 (off + j) us[off + j] (List.getElem?_eq_getElem hlt)
        rw [Nat.add_assoc]
        exact ⟨by rw [this.1]; rfl, this.2⟩)
    refine hcall.mono ?_
    rintro ex w' ⟨us', rfl, hret, ⟨hgb', ds, he2, hds⟩, hth, hst⟩
    refine ⟨_, rfl, ?_⟩
    have hlv : (Ob.cells cs).live = true := rfl
    have hok : ∀ k, (okk A base loc hp1 k ∧ k < w.heap.size) ∨ w.heap.size ≤ k → Carry (okk A base loc hp1) (okk A base loc (setNth hp1 b (.cells (putL cs off (cellsOf t (hdR (.d t) rs r)))))) w w' → okk A base loc (setNth hp1 b (.cells (putL cs off (cellsOf t (hdR (.d t) rs r))))) k := by
      intro k hk hc
      rcases hk with hk | hk
      · exact hc.into k hk.2 hk.1
      · refine ⟨.inr (Nat.le_trans a1.inv.low hk), fun hm => ?_⟩
        have := mb_lt a1.inv (mb_put hb hlv hm)
        omega
    have a2 := a1.inv.put (ob' := .cells (putL cs off (cellsOf t (hdR (.d t) rs r)))) hl hb hlv (w' := w') (hst.mono (fun k _ hk => by rw [hk]; rfl)) (fun hc => by
      refine ⟨hgb', fun j a hj => ?_⟩
      have hdl := he2.len
      have hrv := (q1.carry (Ext.refl loc) hc).putL (cellsOf_rv (loc := loc) (he2.carry' (fun k hk => hok k hk hc))) off
      obtain ⟨u, hu, hur⟩ := hrv.get hj
      refine ⟨u, ?_, hur, ?_, ?_⟩
      · rw [List.append_assoc, List.getElem?_append] at hu
        split at hu
        · rename_i hj1
          rw [List.length_take] at hj1
          rw [List.getElem?_take, if_pos (by omega)] at hu
          omega
        · rename_i hj1
          rw [List.length_take] at hj1 hu
          have ho : min off us.length = off := by omega
          rw [ho] at hj1 hu
          rw [List.getElem?_append] at hu
          split at hu
          · rename_i hj2
            have := hds _ u hu
            rwa [show o + off + (j - off) = o + j from by omega] at this
          · rename_i hj2
            rw [List.getElem?_drop] at hu
            have := (List.getElem?_eq_some_iff.1 hu).1
            omega
      · have hm := List.mem_of_getElem? hu
        rcases List.mem_append.1 hm with hm | hm
        · rcases List.mem_append.1 hm with hm | hm
          · exact q3 u (List.mem_of_mem_take hm)
          · exact he2.one u hm
        · exact q3 u (List.mem_of_mem_drop hm)
      · by_cases hj1 : j < off ∨ off + t.size ≤ j
        · have hjl := nth_lt hj
          have hpl : (putL cs off (cellsOf t (hdR (.d t) rs r))).length = cs.length := by
            unfold Vm.putL
            have := cellsOf_len t (hdR (.d t) rs r)
            simp only [List.length_append, List.length_take, List.length_drop, this]
            omega
          rw [hpl] at hjl
          omega
        · have := (hth (j - off) (by omega)).2
          rwa [show o + off + (j - off) = o + j from by omega] at this)
    have h5 := encR0 (loc := loc) (ok' := okk A base loc (setNth hp1 b (.cells (putL cs off (cellsOf t (hdR (.d t) rs r)))))) rs (hp := setNth hp1 b (.cells (putL cs off (cellsOf t (hdR (.d t) rs r))))) (Nat.eq_of_beq_eq_true hrs) (.inl (fun k hk => hok k hk a2.carry)) hret
    rw [h5.1]
    exact ⟨loc, oneOrTup_rv h5.2, a1.trans a2⟩

structure EntOk (Γ : Glob) (P : Program) (f : FuncId) (e : Entry) : Prop where
  ok : EntryOk Γ P f e
  fn : ∃ fn, P.funcs[f]? = some fn ∧ fn.body.isSome = true ∧ fn.name ≠ "runtime.NumGoroutine"

def FnOk (P : Program) (F : FuncId → List AV → HP → T (AV × HP)) : Prop := ∀ f args hp v hp', (F f args hp).run = some (v, hp') → ∃ fn, P.funcs[f]? = some fn ∧ fn.body.isSome = true ∧ fn.name ≠ "runtime.NumGoroutine"

theorem callF_ok (he : ∀ f e, look f E.ent = some e → EntOk Γ P f e) (hi : CallOk Γ P E.inl) : CallOk Γ P (callF E) := by
  intro f args hp v hp' h A base loc w vals hin hv
  unfold callF at h
  split at h
  · rename_i e hl
    exact callEnt_sound (he f e hl).ok h hin hv
  · exact hi f args hp v hp' h A base loc w vals hin hv
theorem callF_fn (he : ∀ f e, look f E.ent = some e → EntOk Γ P f e) (hi : FnOk P E.inl) : FnOk P (callF E) := by
  intro f args hp v hp' h
  unfold callF at h
  split at h
  · rename_i e hl
    exact (he f e hl).fn
  · exact hi f args hp v hp' h
end
end Vm
