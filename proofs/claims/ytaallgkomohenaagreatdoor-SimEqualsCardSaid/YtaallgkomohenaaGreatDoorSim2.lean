/-
  Proved here: that the evaluator's code does under the model what it does here, in a function's frame and in a round's, and the same evaluator laid out in closures. Its condition is that the program's functions bear no name that the model singles out.
-/
import Derived.Test.YtaallgkomohenaaGreatDoorSim1
import Derived.Laws.BytesString
import Derived.Laws.Strings
import Derived.Laws.Concat
import Derived.RangeFuncSeq
import Derived.OrdersIn
set_option linter.unusedVariables false
set_option linter.unusedSimpArgs false
namespace Go.Sim
variable {P : Program} {G : Nat → Option (List Value)}
section
variable {m : Ren} {F : Nat → Prop} {K : World} {h h' : Hp} {w : World} {nt : Nat} {tm : TM} {a : Act} {v : Value}

/-! ### strings -/
theorem bytesEq_iff : ∀ (a b : List UInt8), bytesEq a b = (a == b)
  | [], [] => rfl
  | [], _ :: _ => rfl
  | _ :: _, [] => rfl
  | x :: a, y :: b => by
    simp only [bytesEq]
    by_cases h : x = y
    · subst h
      have : Nat.beq x.toNat x.toNat = true := by simp
      rw [this, bytesEq_iff a b]; simp
    · rw [beqF (fun e => h (UInt8.toNat_inj.1 e))]; simp [h]

theorem bytesLt_eq : ∀ (a b : List UInt8), bytesLt a b = Op.bytesLess a b
  | a, [] => by cases a <;> rfl
  | [], _ :: _ => rfl
  | x :: a, y :: b => by
    simp only [bytesLt, Op.bytesLess]
    by_cases h : x.toNat < y.toNat
    · have : Nat.blt x.toNat y.toNat = true := Nat.ble_eq_true_of_le (show x.toNat + 1 ≤ y.toNat by omega)
      rw [this]
      have : (x < y) := UInt8.lt_iff_toNat_lt.2 h
      simp [this]
    · have h1 : Nat.blt x.toNat y.toNat = false := by
        cases e : Nat.blt x.toNat y.toNat with
        | false => rfl
        | true => exact absurd (bltT e) h
      rw [h1]
      have h2 : ¬ (x < y) := fun e => h (UInt8.lt_iff_toNat_lt.1 e)
      by_cases h3 : x = y
      · subst h3
        have : Nat.beq x.toNat x.toNat = true := by simp
        rw [this, bytesLt_eq a b]; simp
      · rw [beqF (fun e => h3 (UInt8.toNat_inj.1 e))]; simp [h2, h3]

theorem bytesLess_total : ∀ (a b : List UInt8), (Op.bytesLess a b || a == b) = !Op.bytesLess b a
  | [], [] => rfl
  | [], _ :: _ => rfl
  | _ :: _, [] => rfl
  | x :: a, y :: b => by
    simp only [Op.bytesLess]
    rcases Nat.lt_trichotomy x.toNat y.toNat with h | h | h
    · have h1 : x < y := UInt8.lt_iff_toNat_lt.2 h
      have h2 : ¬ y < x := fun e => by have := UInt8.lt_iff_toNat_lt.1 e; omega
      have h3 : ¬ y = x := fun e => by subst e; omega
      simp [h1, h2, h3]
    · obtain rfl := UInt8.toNat_inj.1 h
      have h1 : ¬ x < x := fun e => by have := UInt8.lt_iff_toNat_lt.1 e; omega
      have := bytesLess_total a b
      simp [h1] at this ⊢
      exact this
    · have h1 : ¬ x < y := fun e => by have := UInt8.lt_iff_toNat_lt.1 e; omega
      have h2 : y < x := UInt8.lt_iff_toNat_lt.2 h
      have h3 : ¬ x = y := fun e => by subst e; omega
      simp [h1, h2, h3]

theorem append_data (x y : ByteArray) : (⟨⟨x.data.toList ++ y.data.toList⟩⟩ : ByteArray) = x ++ y := by
  apply ByteArray.ext
  simp

theorem strOp_sound {op : BinOp} {x y : ByteArray} {v : Value} (e : strOp op x y = some v) : noA v = true ∧ ∀ w : World, (Op.stringOp op x y).run P w = .ok v w := by
  unfold strOp at e
  have hl := bytesLess_total x.data.toList y.data.toList
  have hl2 := bytesLess_total y.data.toList x.data.toList
  split at e
  · split at e
    · rename_i hle
      cases e
      have hle := bleT hle
      exact ⟨rfl, fun w => by rw [append_data, run_string_add_sum w x y hle]⟩
    · cases e
  all_goals (first | (cases e; done) | (cases e; refine ⟨rfl, fun w => ?_⟩; simp only [Op.stringOp, Sem.run_pure, ByteArray.toList_eq, bytesEq_iff, bytesLt_eq, hl, Bool.not_not]))

/-! ### comparisons with nil -/
theorem eqRun {T : TypeId} {x y : Operand} {u v : Value} {q : Bool} {w : World} (h1 : eqGuard .eql T x y u v = pure ()) (h2 : eqGuard .neq T x y u v = pure ()) (h3 : binOp .eql T u v = do pure (.bool (← Op.equal T u v)))
    (h4 : binOp .neq T u v = do pure (.bool (!(← Op.equal T u v)))) (hq : (Op.equalIn (9999 + 1) T u v).run P w = .ok q w) :
    ((do eqGuard .eql T x y u v; binOp .eql T u v) : Sem Value).run P w = .ok (.bool q) w ∧ ((do eqGuard .neq T x y u v; binOp .neq T u v) : Sem Value).run P w = .ok (.bool (!q)) w := by
  have hq' : (Op.equal T u v).run P w = .ok q w := hq
  rw [h1, h2, h3, h4]
  constructor <;> simp [hq']
theorem nilCmp_sound {d : TypeDesc} {T : TypeId} {x y : Operand} {u v u' v' : Value} {q : Bool} (hT : P.underlying T = some d) (hq : nilCmp d x y u v = some q) (hu : renO m u = some u') (hv : renO m v = some v') (w : World) :
    ((do eqGuard .eql T x y u' v'; binOp .eql T u' v') : Sem Value).run P w = .ok (.bool q) w ∧ ((do eqGuard .neq T x y u' v'; binOp .neq T u' v') : Sem Value).run P w = .ok (.bool (!q)) w := by
  unfold nilCmp at hq
  split at hq
  · split at hq
    · cases hq
      obtain rfl : _ = u' := by simpa [renO] using hu
      obtain rfl : _ = v' := by simpa [renO] using hv
      exact eqRun rfl rfl rfl rfl (by rw [Op.equalIn]; simp [run_und hT])
    · cases hq
      obtain rfl : _ = u' := by simpa [renO] using hu
      obtain ⟨b', _, rfl⟩ := renO_slice hv
      exact eqRun rfl rfl rfl rfl (by rw [Op.equalIn]; simp [run_und hT])
    · cases hq
      obtain rfl : _ = v' := by simpa [renO] using hv
      obtain ⟨b', _, rfl⟩ := renO_slice hu
      exact eqRun rfl rfl rfl rfl (by rw [Op.equalIn]; simp [run_und hT])
    · cases hq
  · split at hq
    · cases hq
      obtain rfl : _ = u' := by simpa [renO] using hu
      obtain rfl : _ = v' := by simpa [renO] using hv
      exact eqRun rfl rfl rfl rfl (by rw [Op.equalIn]; simp [run_und hT])
    · cases hq
      obtain rfl : _ = u' := by simpa [renO] using hu
      obtain ⟨b', _, rfl⟩ := renO_pointer hv
      exact eqRun rfl rfl rfl rfl (by rw [Op.equalIn]; simp [run_und hT])
    · cases hq
      obtain rfl : _ = v' := by simpa [renO] using hv
      obtain ⟨b', _, rfl⟩ := renO_pointer hu
      exact eqRun rfl rfl rfl rfl (by rw [Op.equalIn]; simp [run_und hT])
    · cases hq
  · have hmap : ∀ {r : Nat} {z : Value}, renO m (.map (some r)) = some z → ∃ r', z = .map (some r') := by
      intro r z hz
      simp only [renO] at hz
      cases hb : bk r with
      | old g => rw [hb] at hz; cases hz
      | new i =>
        rw [hb] at hz
        dsimp only at hz
        cases hm : m i with
        | none => rw [hm] at hz; cases hz
        | some b => rw [hm] at hz; cases hz; exact ⟨_, rfl⟩
    split at hq
    · cases hq
      obtain rfl : _ = u' := by simpa [renO] using hu
      obtain rfl : _ = v' := by simpa [renO] using hv
      exact eqRun rfl rfl rfl rfl (by rw [Op.equalIn]; simp [run_und hT])
    · cases hq
      obtain rfl : _ = u' := by simpa [renO] using hu
      obtain ⟨b', rfl⟩ := hmap hv
      exact eqRun rfl rfl rfl rfl (by rw [Op.equalIn]; simp [run_und hT])
    · cases hq
      obtain rfl : _ = v' := by simpa [renO] using hv
      obtain ⟨b', rfl⟩ := hmap hu
      exact eqRun rfl rfl rfl rfl (by rw [Op.equalIn]; simp [run_und hT])
    · cases hq
  · have hfn : ∀ {f : Fn} {a c : Array Value} {z : Value}, renO m (.func f a c) = some z → ∃ f' a' c', z = .func f' a' c' := by
      intro f a c z hz
      obtain ⟨a⟩ := a
      obtain ⟨c⟩ := c
      simp only [renO] at hz
      split at hz
      · cases hz; exact ⟨_, _, _, rfl⟩
      · cases hz
    split at hq
    · cases hq
      obtain rfl : _ = u' := by simpa [renO] using hu
      obtain rfl : _ = v' := by simpa [renO] using hv
      exact eqRun rfl rfl rfl rfl (by rw [Op.equalIn]; simp [run_und hT])
    · cases hq
      obtain rfl : _ = u' := by simpa [renO] using hu
      obtain ⟨_, _, _, rfl⟩ := hfn hv
      exact eqRun rfl rfl rfl rfl (by rw [Op.equalIn]; simp [run_und hT])
    · cases hq
      obtain rfl : _ = v' := by simpa [renO] using hv
      obtain ⟨_, _, _, rfl⟩ := hfn hu
      exact eqRun rfl rfl rfl rfl (by rw [Op.equalIn]; simp [run_und hT])
    · cases hq
  · have hif : ∀ {t : TypeId} {x z : Value}, renO m (.iface t x) = some z → ∃ x', z = .iface t x' := by
      intro t x z hz
      simp only [renO] at hz
      split at hz
      · cases hz; exact ⟨_, rfl⟩
      · cases hz
    split at hq
    · obtain rfl : _ = u' := by simpa [renO] using hu
      obtain rfl : _ = v' := by simpa [renO] using hv
      have hc : (constQ x = true ∨ constQ y = true) ∧ q = true := by
        cases hx : constQ x <;> cases hy : constQ y <;> rw [hx, hy] at hq <;> simp at hq <;> simp [hq]
      obtain ⟨hc, rfl⟩ := hc
      have g : ∀ op, eqGuard op T x y .nilIface .nilIface = pure () := by
        intro op
        rcases hc with hc | hc
        · cases x <;> simp [constQ] at hc
          exact eqGuard_nil_constL ..
        · cases y <;> simp [constQ] at hc
          exact eqGuard_nil_constR ..
      exact eqRun (g _) (g _) rfl rfl (by rw [Op.equalIn]; simp [run_und hT])
    · cases hq
      obtain rfl : _ = u' := by simpa [renO] using hu
      obtain ⟨_, rfl⟩ := hif hv
      exact eqRun rfl rfl rfl rfl (by rw [Op.equalIn]; simp [run_und hT])
    · cases hq
      obtain rfl : _ = v' := by simpa [renO] using hv
      obtain ⟨_, rfl⟩ := hif hu
      exact eqRun rfl rfl rfl rfl (by rw [Op.equalIn]; simp [run_und hT])
    · cases hq
  · cases hq

theorem op_bin (r : Rel P G m F K h w) {op : BinOp} {T : TypeId} {x y : Operand} {u v u' v' z : Value} (hu : renO m u = some u') (hv : renO m v = some v') (e : binV P op T x y u v = some z) :
    OpQ P m z w ((do pure (.value (← (do eqGuard op T x y u' v'; binOp op T u' v'))) : Sem Next).run P w) := by
  unfold binV at e
  split at e
  · obtain rfl := renO_int hu
    obtain rfl := renO_int hv
    obtain ⟨h1, h2⟩ := guarded_some e
    refine .of_value (v' := z) ?_ (renO_noA m z h2)
    simp [eqGuard_at_int, pureRun_sound _ h1 w]
  · rename_i s1 s2
    obtain rfl := renO_string hu
    obtain rfl := renO_string hv
    obtain ⟨h1, h2⟩ := strOp_sound (P := P) e
    refine .of_value (v' := z) ?_ (renO_noA m z h1)
    have : binOp op T (.string s1) (.string s2) = Op.stringOp op s1 s2 := by
      cases op <;> first | rfl | (simp [strOp] at e; done)
    simp [eqGuard_at_string, this, h2 w]
  · obtain rfl := renO_bool hu
    obtain rfl := renO_bool hv
    obtain ⟨h1, h2⟩ := guarded_some e
    refine .of_value (v' := z) ?_ (renO_noA m z h2)
    simp [eqGuard_at_bool, pureRun_sound _ h1 w]
  · split at e
    · rename_i c1 c2
      obtain rfl := noA_inv c1 hu
      obtain rfl := noA_inv c2 hv
      obtain ⟨h1, h2⟩ := guarded_some e
      exact .of_value (v' := z) (pureRun_sound _ h1 w) (renO_noA m z h2)
    · cases e
  · split at e
    · cases e
    · rename_i d hT
      split at e
      · cases e
      · rename_i q hq
        obtain ⟨h1, h2⟩ := nilCmp_sound hT hq hu hv w
        split at e
        · cases e; exact .of_value (v' := .bool q) h1 (by simp [renO])
        · cases e; exact .of_value (v' := .bool (!q)) h2 (by simp [renO])
        · cases e
end
end Go.Sim


namespace Go.Sim
variable {P : Program} {G : Nat → Option (List Value)}
section
variable {m : Ren} {F : Nat → Prop} {K : World} {h h' : Hp} {w : World} {nt : Nat} {tm : TM} {a : Act} {v : Value}

/-! ### parts -/
theorem part_sound {t : TypeId} {cs cs' : List Value} {off : Nat} (e : partOp P t cs off = some v) (hc : renOs m cs = some cs') : ∃ v', renO m v = some v' ∧ ∀ w : World, (part t ⟨cs'⟩ off).run P w = .ok v' w := by
  unfold partOp at e
  split at e
  · rename_i n hq hn
    split at e
    · rename_i hle
      cases e
      refine ⟨.agg ⟨(cs'.drop off).take n⟩, by simp only [renO, renOs_take n (renOs_drop off hc)], fun w => ?_⟩
      simp only [part, Sem.run_bind, run_agg hq, Result.andThen_ok, if_true, run_info hn, Sem.run_pure]
      congr 2
      apply Array.ext'
      simp [List.extract_eq_take_drop]
    · cases e
  · rename_i hq
    obtain ⟨v', h1, h2⟩ := renOs_get hc _ _ e
    refine ⟨v', h1, fun w => ?_⟩
    have : (⟨cs'⟩ : Array Value)[off]? = some v' := by simpa using h2
    simp [part, run_agg hq, this]
  · cases e

theorem op_field (r : Rel P G m F K h w) {t : TypeId} {cs : List Value} {x : Value} {fs : Array Field} {f : Nat} {fd : Field} (hx : renO m (.agg ⟨cs⟩) = some x) (ht : P.underlying t = some (.struct fs)) (hf : fs.toList[f]? = some fd)
    (e : partOp P fd.type cs fd.offset = some v) : OpQ P m v w ((do pure (.value (← Instr.field t x f)) : Sem Next).run P w) := by
  obtain ⟨cs', h1, rfl⟩ := renO_aggI hx
  obtain ⟨v', h2, h3⟩ := part_sound e h1
  have hf' : fs[f]? = some fd := by simpa using hf
  exact .of_value (v' := v') (by simp [Instr.field, run_und ht, hf', asAgg, h3]) h2

theorem op_indexAgg (r : Rel P G m F K h w) {t e : TypeId} {n i size : Nat} {cs : List Value} {x y iv : Value} (hx : renO m (.agg ⟨cs⟩) = some x) (hy : renO m iv = some y) (hi : natOf iv = some i)
    (ht : P.underlying t = some (.array n e)) (hn : szOf P e = some size) (hlt : i < n) (hp : partOp P e cs (i * size) = some v) :
    OpQ P m v w ((do pure (.value (← Instr.index t x y)) : Sem Next).run P w) := by
  obtain ⟨cs', h1, rfl⟩ := renO_aggI hx
  obtain ⟨k, rfl⟩ := natOf_some hi
  obtain rfl := renO_int hy
  obtain ⟨v', h2, h3⟩ := part_sound hp h1
  refine .of_value (v' := v') ?_ h2
  have h2' : (0 : Int) ≤ i ∧ (i : Int) < n := ⟨by omega, by omega⟩
  simp only [Instr.index, asIntOf, Sem.run_bind, Sem.run_pure, Result.andThen_ok, run_und ht, if_pos h2', run_info hn, Int.toNat_natCast, h3]

theorem op_indexString (r : Rel P G m F K h w) {t : TypeId} {i : Nat} {s : ByteArray} {b : UInt8} {x y iv : Value} (hx : renO m (.string s) = some x) (hy : renO m iv = some y) (hi : natOf iv = some i)
    (ht : P.underlying t = some .string) (hb : s.data.toList[i]? = some b) :
    OpQ P m (.int .u8 b.toNat) w ((do pure (.value (← Instr.index t x y)) : Sem Next).run P w) := by
  obtain rfl := renO_string hx
  obtain ⟨k, rfl⟩ := natOf_some hi
  obtain rfl := renO_int hy
  refine .of_value (v' := .int .u8 b.toNat) ?_ (by simp [renO])
  have hlt : i < s.size := by have := lgetElem?_lt hb; simpa using this
  have hg : s[i]? = some b := by
    rw [ByteArray.getElem?_lt' s i hlt]
    have : s.data.toList[i]? = some s[i] := by rw [Array.getElem?_toList, Array.getElem?_eq_getElem hlt]; rfl
    rw [this] at hb
    exact hb
  have h0 : (0 : Int) ≤ i := by omega
  simp only [Instr.index, asIntOf, Sem.run_bind, Sem.run_pure, Result.andThen_ok, run_und ht, if_pos h0, Int.toNat_natCast, hg]

/-! ### maps -/
theorem baBeq (a b : ByteArray) : (a == b) = (a.data.toList == b.data.toList) := by
  obtain ⟨⟨a⟩⟩ := a
  obtain ⟨⟨b⟩⟩ := b
  show ((⟨a⟩ : Array UInt8) == ⟨b⟩) = _
  simp

theorem keyEq_same {d : TypeDesc} {k e : Value} {q : Bool} (hk : kindOk (some d) k = true) (hq : keyEq k e = some q) : Instr.sameNow d k e = some q := by
  unfold keyEq at hq
  split at hq
  · split at hq
    · rename_i he
      cases hq
      have he := of_decide_eq_true he
      subst he
      cases d <;> simp [kindOk] at hk
      simp [Instr.sameNow]
      exact Bool.beq_eq_decide_eq ..
    · cases hq
  · cases hq
    cases d <;> simp [kindOk] at hk
    rename_i a b
    simp only [Instr.sameNow, bytesEq_iff]
    rw [baBeq]
  · cases hq
    cases d <;> simp [kindOk] at hk
    rfl
  · cases hq

theorem find_sound {d : TypeDesc} {k : Value} (hk : kindOk (some d) k = true) : ∀ {es : List (Value × Value)} {ms : List MapEntry} (i : Nat) {o : Option Value}, entR m es ms → mapFind k es = some o →
    (o = none ∧ Instr.findNow d k ms i = some none) ∨ ∃ v v' j, o = some v ∧ renO m v = some v' ∧ Instr.findNow d k ms i = some (some (j, v'))
  | [], [], i, o, _, h => by simp only [mapFind, Option.some.injEq] at h; subst h; exact .inl ⟨rfl, rfl⟩
  | [], _ :: _, i, o, h, _ => h.elim
  | _ :: _, [], i, o, h, _ => h.elim
  | (k', v) :: es, e :: ms, i, o, hr, h => by
    obtain ⟨h1, h2, h3, h4⟩ := hr
    obtain rfl := noA_inv h2 h1
    simp only [mapFind] at h
    cases hq : keyEq k e.key with
    | none => rw [hq] at h; cases h
    | some q =>
      rw [hq] at h
      have hs := keyEq_same hk hq
      cases q with
      | true =>
        cases h
        exact .inr ⟨v, e.val, i, rfl, h3, by simp only [Instr.findNow, hs]⟩
      | false =>
        dsimp only at h
        have := find_sound hk (i + 1) h4 h
        simp only [Instr.findNow, hs]
        exact this

theorem run_checkKey {t : TypeId} {d : TypeDesc} {k : Value} (ht : P.underlying t = some d) (hk : kindOk (some d) k = true) (b : Bool) (w : World) : (Instr.checkKey b 10000 t k).run P w = .ok () w := by
  rw [show (10000 : Nat) = 9999 + 1 from rfl, Instr.checkKey]
  cases d <;> simp [kindOk] at hk <;> cases k <;> simp at hk <;> simp [run_und ht]

theorem op_lookup (r : Rel P G m F K h w) {t kt e : TypeId} {rr : Option Nat} {k x y : Value} {ok : Bool} {es : List (Value × Value)} {o : Option Value} {d : TypeDesc} (hx : renO m (.map rr) = some x) (hy : renO m k = some y) (ht : P.underlying t = some (.map kt e)) (hkt : P.underlying kt = some d)
    (hes : mapOf h rr = some es) (hk : kindOk (some d) k = true) (hf : mapFind k es = some o) {z : Value} (hz : o = none → zeroQ P e = some z ∧ noA z = true)
    (hv : v = (if ok then .tuple ⟨[o.getD z, .bool o.isSome]⟩ else o.getD z)) :
    OpQ P m v w ((do pure (.value (← Instr.lookup t x y ok)) : Sem Next).run P w) := by
  have hky : y = k := by
    have : noA k = true := by unfold kindOk at hk; split at hk <;> first | rfl | cases hk
    exact noA_inv this hy
  subst hky
  have main : ∀ (ms : Array MapEntry), entR m es ms.toList → ∃ v', renO m v = some v' ∧ ((do
      Instr.checkKey ms.isEmpty 10000 kt y
      let (v, q) ← match ← Instr.findKey kt y ms.toList with
        | some (_, v) => pure (v, true)
        | none => pure (← zeroValue e, false)
      pure (if ok then .tuple #[v, .bool q] else v)) : Sem Value).run P w = .ok v' w := by
    intro ms hr
    rcases find_sound hk 0 hr hf with ⟨rfl, h1⟩ | ⟨v1, v1', j, rfl, h2, h1⟩
    · obtain ⟨hz1, hz2⟩ := hz rfl
      have hfk : (Instr.findKey kt y ms.toList).run P w = .ok none w := by simp [Instr.findKey, run_und hkt, h1]
      subst hv
      refine ⟨if ok then .tuple #[z, .bool false] else z, ?_, ?_⟩
      · cases ok
        · simpa using renO_noA m z hz2
        · simp [renO, renOs, renO_noA m z hz2]
      · simp [run_checkKey hkt hk, hfk, run_zero hz1]
    · have hfk : (Instr.findKey kt y ms.toList).run P w = .ok (some (j, v1')) w := by simp [Instr.findKey, run_und hkt, h1]
      subst hv
      refine ⟨if ok then .tuple #[v1', .bool true] else v1', ?_, ?_⟩
      · cases ok
        · simpa using h2
        · simp [renO, renOs, h2]
      · simp [run_checkKey hkt hk, hfk]
  unfold mapOf at hes
  cases rr with
  | none =>
    cases hes
    obtain rfl : _ = x := by simpa [renO] using hx
    obtain ⟨v', h1, h2⟩ := main #[] trivial
    refine .of_value (v' := v') ?_ h1
    simp only [Instr.lookup, Sem.run_bind, run_und ht, Result.andThen_ok, Sem.run_pure]
    simp only [Sem.run_bind] at h2; exact h2
  | some q =>
    dsimp only at hes
    cases hb : bk q with
    | old g => rw [hb] at hes; cases hes
    | new i =>
      rw [hb] at hes
      dsimp only at hes
      cases ho : h.bs.get i with
      | none => rw [ho] at hes; cases hes
      | some ob =>
        rw [ho] at hes
        cases ob with
        | dead => cases hes
        | loop => cases hes
        | cells _ _ _ => cases hes
        | map es2 =>
          cases hes
          simp only [renO, hb] at hx
          cases h1 : m i with
          | none => rw [h1] at hx; cases hx
          | some b =>
          rw [h1] at hx
          obtain ⟨ms, cl, h2, h3, h4⟩ := r.obj i _ ho b h1
          have hx' : x = .map (some b.blk) := (Option.some.inj hx).symm
          subst hx'
          have hg : (getObj b.blk).run P w = .ok (.map ms cl) w := by simp [getObj, Sem.run, h3]
          obtain ⟨v', g1, g2⟩ := main ms h4
          refine .of_value (v' := v') ?_ g1
          simp only [Instr.lookup, Sem.run_bind, run_und ht, Result.andThen_ok, Sem.run_pure, hg]
          simp only [Sem.run_bind] at g2; exact g2

theorem put_sound {d : TypeDesc} {k v v' : Value} (hk : kindOk (some d) k = true) (hv : renO m v = some v') : ∀ {es es' : List (Value × Value)} {ms : List MapEntry} (i : Nat), entR m es ms → mapPut k v es = some es' →
    (Instr.findNow d k ms i = some none ∧ ∀ born, entR m es' (ms ++ [{ key := k, val := v', born := born }])) ∨
      ∃ j e u, Instr.findNow d k ms i = some (some (i + j, u)) ∧ ms[j]? = some e ∧ e.key = k ∧ entR m es' (ms.set j { e with key := k, val := v' })
  | [], es', [], i, _, h => by
    simp only [mapPut, Option.some.injEq] at h
    subst h
    refine .inl ⟨rfl, fun born => ?_⟩
    have hn : noA k = true := by unfold kindOk at hk; split at hk <;> first | rfl | cases hk
    exact ⟨renO_noA m k hn, hn, hv, trivial⟩
  | [], _, _ :: _, i, h, _ => h.elim
  | _ :: _, _, [], i, h, _ => h.elim
  | (k', u) :: es, es', e :: ms, i, hr, h => by
    obtain ⟨h1, h2, h3, h4⟩ := hr
    obtain hke := noA_inv h2 h1
    subst hke
    simp only [mapPut] at h
    have hn : noA k = true := by unfold kindOk at hk; split at hk <;> first | rfl | cases hk
    cases hq : keyEq k e.key with
    | none => rw [hq] at h; cases h
    | some q =>
      rw [hq] at h
      have hs := keyEq_same hk hq
      cases q with
      | true =>
        cases h
        have hek : e.key = k := by
          unfold keyEq at hq
          split at hq
          · rename_i ke a kk b hk2
            split at hq
            · rename_i he
              have he := of_decide_eq_true he
              have hb : decide (a = b) = true := Option.some.inj hq
              have := of_decide_eq_true hb
              rw [hk2, he, this]
            · cases hq
          · rename_i a b hk2
            have hb := Option.some.inj hq
            rw [bytesEq_iff] at hb
            have : a = b := by apply ByteArray.ext; exact Array.toList_inj.1 (by simpa using hb)
            rw [hk2, this]
          · rename_i a b hk2
            have hb := Option.some.inj hq
            rw [hk2]; congr 1; exact (by simpa using hb : a = b).symm
          · cases hq
        refine .inr ⟨0, e, e.val, by simp only [Instr.findNow, hs, Nat.add_zero], rfl, hek, ?_⟩
        exact ⟨renO_noA m k hn, hn, hv, h4⟩
      | false =>
        dsimp only at h
        cases hp : mapPut k v es with
        | none => rw [hp] at h; cases h
        | some es2 =>
          rw [hp] at h
          cases h
          rcases put_sound hk hv (i + 1) h4 hp with ⟨g1, g2⟩ | ⟨j, e2, u2, g1, g2, g3, g4⟩
          · exact .inl ⟨by simp only [Instr.findNow, hs, g1], fun born => ⟨h1, h2, h3, g2 born⟩⟩
          · refine .inr ⟨j + 1, e2, u2, by simp only [Instr.findNow, hs, g1]; rw [show i + 1 + j = i + (j + 1) by omega], by simpa using g2, g3, ?_⟩
            exact ⟨h1, h2, h3, g4⟩

/-- a map is given other entries -/
theorem Rel.setMap (r : Rel P G m F K h w) {i : Nat} {es es' : List (Value × Value)} {b : BI} {ms ms' : Array MapEntry} {cl cl' : Nat} (hi : h.bs.get i = some (.map es)) (hb : m i = some b) (hF : ¬ F b.blk)
    (hh : w.heap[b.blk]? = some (.map ms cl)) (he : entR m es' ms'.toList) :
    Rel P G m F K { h with bs := h.bs.set i (.map es') } { w with heap := w.heap.setIfInBounds b.blk (.map ms' cl') } := by
  have hlt := getElem?_lt' hh
  have hother : ∀ q, q ≠ b.blk → (w.heap.setIfInBounds b.blk (.map ms' cl'))[q]? = w.heap[q]? := fun q hq => by rw [Array.getElem?_setIfInBounds, if_neg (fun e => hq e.symm)]
  refine ⟨r.len, r.os, r.tape, r.output, by simpa using r.size, fun q hq => ⟨(r.fr q hq).1, ?_⟩, r.glob, ?_, ?_⟩
  · rw [show ({ w with heap := w.heap.setIfInBounds b.blk (.map ms' cl') } : World).heap[q]? = w.heap[q]? from hother q (fun e => hF (e ▸ hq))]
    exact (r.fr q hq).2
  · intro j o hj
    rw [Tr.get_set] at hj
    by_cases e : i = j
    · rw [if_pos e] at hj; cases hj; subst e
      intro b2 hb2
      rw [hb] at hb2; cases hb2
      exact ⟨ms', cl', hF, by simp [hlt], he⟩
    · rw [if_neg e] at hj
      refine ObjR_heap (r.obj j o hj) fun hl b2 hb2 => hother _ fun eb => ?_
      exact e (r.inj i j _ o b b2 hi hj trivial hl hb hb2 eb.symm)
  · intro j1 j2 o1 o2 b1 b2 hj1 hj2 l1 l2
    rw [Tr.get_set] at hj1 hj2
    have key : ∀ j o, (if i = j then some (AObj.map es') else h.bs.get j) = some o → o.live → ∃ o', h.bs.get j = some o' ∧ o'.live := by
      intro j o ho hl
      by_cases e : i = j
      · subst e; exact ⟨_, hi, trivial⟩
      · rw [if_neg e] at ho; exact ⟨o, ho, hl⟩
    obtain ⟨o1', h1', l1'⟩ := key _ _ hj1 l1
    obtain ⟨o2', h2', l2'⟩ := key _ _ hj2 l2
    exact r.inj j1 j2 o1' o2' b1 b2 h1' h2' l1' l2'

theorem sb_int (n : Nat) (k : IntKind) (a : Int) : Instr.sameBits n (.int k a) (.int k a) = true := by cases n <;> (show (k == k && a == a) = true; simp)
theorem sb_string (n : Nat) (a : ByteArray) : Instr.sameBits n (.string a) (.string a) = true := by cases n <;> (show (a == a) = true; simp [baBeq])
theorem sb_bool (n : Nat) (a : Bool) : Instr.sameBits n (.bool a) (.bool a) = true := by cases n <;> (show (a == a) = true; simp)
theorem sameBits_plain {d : TypeDesc} {k : Value} (hk : kindOk (some d) k = true) (n : Nat) : Instr.sameBits n k k = true := by
  unfold kindOk at hk
  split at hk
  · exact sb_int ..
  · exact sb_string ..
  · exact sb_bool ..
  · cases hk

theorem op_mapStore (r : Rel P G m F K h w) {t rr : Nat} {k v x y z u : Value} (hx : renO m (.map (some rr)) = some x) (hy : renO m k = some y) (hz : renO m v = some z) (e : mapStore P t rr k v h = some (u, h')) :
    OpOk P G m F K h h' u ((do Instr.mapUpdate t x y z; pure .skip : Sem Next).run P w) := by
  unfold mapStore at e
  split at e
  · rename_i kt el ht
    split at e
    · rename_i i hk hb
      split at e
      · rename_i es hi
        split at e
        · rename_i es' hp
          cases e
          cases hkt : P.underlying kt with
          | none => rw [hkt] at hk; simp [kindOk] at hk
          | some d =>
            rw [hkt] at hk
            have hn : noA k = true := by unfold kindOk at hk; split at hk <;> first | rfl | cases hk
            have hyk := noA_inv hn hy
            subst hyk
            simp only [renO, hb] at hx
            cases h1 : m i with
            | none => rw [h1] at hx; cases hx
            | some b =>
            rw [h1] at hx
            obtain ⟨ms, cl, h2, h3, h4⟩ := r.obj i _ hi b h1
            have hx' : x = .map (some b.blk) := (Option.some.inj hx).symm
            subst hx'
            have hg : (getObj b.blk).run P w = .ok (.map ms cl) w := by simp [getObj, Sem.run, h3]
            have hset : ∀ ms' cl', (setObj b.blk (.map ms' cl')).run P w = .ok () { w with heap := w.heap.setIfInBounds b.blk (.map ms' cl') } := by intro ms' cl'; simp [setObj, Sem.run, h3]
            rcases put_sound hk hz 0 h4 hp with ⟨g1, g2⟩ | ⟨j, en, u2, g1, g2, g3, g4⟩
            · have hfk : (Instr.findKey kt y ms.toList).run P w = .ok none w := by simp [Instr.findKey, run_und hkt, g1]
              refine ⟨m, undef, _, Step.set h1 _, by simp [undef, renO, renOs], r.setMap hi h1 h2 h3 (ms' := ms.push { key := y, val := z, born := cl }) (cl' := cl + 1) (by simpa using g2 cl), .inr ⟨bind_unit ?_, rfl⟩⟩
              simp [Instr.mapUpdate, run_und ht, hg, run_checkKey hkt hk, hfk, hset]
            · have hfk : (Instr.findKey kt y ms.toList).run P w = .ok (some (j, u2)) w := by simp [Instr.findKey, run_und hkt, g1]
              have hgj : ms[j]? = some en := by simpa using g2
              have hstay : (Instr.keyThatStays en.key y).run P w = .ok y w := by rw [g3]; simp [Instr.keyThatStays, sameBits_plain hk]
              refine ⟨m, undef, _, Step.set h1 _, by simp [undef, renO, renOs], r.setMap hi h1 h2 h3 (ms' := ms.modify j fun e => { e with key := y, val := z }) (cl' := cl) ?_, .inr ⟨bind_unit ?_, rfl⟩⟩
              · have : (ms.modify j fun e => { e with key := y, val := z }).toList = ms.toList.set j { en with key := y, val := z } := by
                  apply List.ext_getElem?
                  intro q
                  rw [Array.getElem?_toList, Array.getElem?_modify, List.getElem?_set, Array.getElem?_toList]
                  by_cases hq : j = q
                  · subst hq
                    have := getElem?_lt' hgj
                    have hge : ms[j] = en := by rw [Array.getElem?_eq_getElem this] at hgj; exact Option.some.inj hgj
                    simp [hgj, this, hge]
                  · simp [hq]
                rw [this]; exact g4
              · simp [Instr.mapUpdate, run_und ht, hg, run_checkKey hkt hk, hfk, hset, hgj, hstay]
        · cases e
      · cases e
    · cases e
  · cases e

theorem op_makeMap {s : Sem Value} (hs : s.run P w = .ok (.map (some w.heap.size)) (w.alloc (.map #[] 0))) :
    OpA P m F h { next := h.next + 1, bs := h.bs.set h.next (.map []) } (.map (some (2 * h.next))) w ((do pure (.value (← s)) : Sem Next).run P w) := by
  refine ⟨_, _, ⟨_, _, rfl, rfl, fun m' he hm => ?_, fun m' he hm hF => ?_⟩, bind_value hs⟩
  · simp only [renO, bk_new, hm]
  · intro b hb
    rw [hm] at hb; cases hb
    refine ⟨#[], 0, hF, ?_, trivial⟩
    show (w.heap.push _)[w.heap.size]? = _
    simp
end
end Go.Sim


namespace Go.Sim
variable {P : Program} {G : Nat → Option (List Value)}
section
variable {m : Ren} {F : Nat → Prop} {K : World} {h h' : Hp} {w : World} {nt : Nat} {tm : TM} {a : Act} {v : Value}

/-! ### conversions -/
theorem bytesOf_sound : ∀ {l : List Value} {bs : List UInt8}, bytesOf l = some bs → ∃ ns : List Int, l = ns.map (Value.int .u8) ∧ bs = ns.map (fun n => UInt8.ofNat n.toNat)
  | [], bs, h => by simp only [bytesOf, Option.some.injEq] at h; subst h; exact ⟨[], rfl, rfl⟩
  | x :: l, bs, h => by
    unfold bytesOf at h
    split at h
    · cases ‹_ :: _ = []›
    · rename_i n l2 he
      cases he
      split at h
      · rename_i r hr
        cases h
        obtain ⟨ns, h1, h2⟩ := bytesOf_sound hr
        exact ⟨(n : Int) :: ns, by simp [h1], by simp [h2]⟩
      · cases h
    · cases h

theorem foldl_push (ns : List Int) : ∀ s : ByteArray, (ns.foldl (fun r n => r.push (UInt8.ofNat n.toNat)) s).data.toList = s.data.toList ++ ns.map (fun n => UInt8.ofNat n.toNat) := by
  induction ns with
  | nil => intro s; simp
  | cons n ns ih => intro s; simp only [List.foldl_cons]; rw [ih]; simp [ByteArray.push]

theorem run_mark {w : World} {c : Array Value} {e : TypeId} (hb : w.heap.back? = some (.cells c e)) (hs : 0 < w.heap.size) : (markStringish ⟨w.heap.size - 1, 0, none⟩).run P w = .ok () (w.freeze ⟨w.heap.size - 1, c.size, none⟩ 1) := by
  have h1 : w.heap[w.heap.size - 1]? = some (.cells c e) := by rw [← hb]; simp [Array.back?]
  simp only [markStringish, Sem.run_bind, run_shape, Result.andThen_ok, World.shape?, h1, run_freeze]

theorem conv_bytes_cells {w : World} {e : TypeId} {s : ByteArray} {src dst : TypeId} (hs : P.underlying src = some .string) (hd : P.underlying dst = some (.slice e)) (he : P.underlying e = some (.int .u8)) :
    (convert src dst (.string s)).run P w = .ok (.slice (some ⟨w.heap.size, 0, none⟩) s.size (grownCap w s.size 0 e))
      ((w.drew.alloc (.cells (s.data.map (fun b => Value.int .u8 b.toNat) ++ Array.replicate (grownCap w s.size 0 e - s.size) (.int .u8 0)) e)).freeze ⟨w.heap.size, s.size + (grownCap w s.size 0 e - s.size), none⟩ 1) := by
  have hq : (Question.appendCap s.size 0 e).forced = false := rfl
  have hch : (choose (.appendCap s.size 0 e)).run P w = .ok (grownCap w s.size 0 e) w.drew := by rw [run_choose, if_neg (by rw [hq]; decide)]; rfl
  generalize hcap : grownCap w s.size 0 e = cap at *
  have hmk := run_mark (P := P) (w := w.drew.alloc (.cells (s.data.map (fun b => Value.int .u8 b.toNat) ++ Array.replicate (cap - s.size) (.int .u8 0)) e)) (e := e) (by simp [World.alloc]; rfl) (by simp)
  have hsz : (w.drew.alloc (.cells (s.data.map (fun b => Value.int .u8 b.toNat) ++ Array.replicate (cap - s.size) (.int .u8 0)) e)).heap.size - 1 = w.heap.size := by simp
  rw [hsz] at hmk
  have hcs : (s.data.map (fun b : UInt8 => Value.int .u8 b.toNat) ++ Array.replicate (cap - s.size) (Value.int .u8 0)).size = s.size + (cap - s.size) := by rw [Array.size_append, Array.size_map, Array.size_replicate]; rfl
  rw [hcs] at hmk
  simp only [convert, Sem.run_bind, run_und hs, run_und hd, Result.andThen_ok, run_und he, Conv.stringToBytes, hch, newRow, run_newObj, Sem.run_pure]
  have hw : w.drew.heap.size = w.heap.size := rfl
  have ha : ({ w.drew with heap := w.drew.heap.push (.cells (s.data.map (fun b => Value.int .u8 b.toNat) ++ Array.replicate (cap - s.size) (.int .u8 0)) e) } : World) = w.drew.alloc (.cells (s.data.map (fun b => Value.int .u8 b.toNat) ++ Array.replicate (cap - s.size) (.int .u8 0)) e) := rfl
  rw [hw, ha, hmk]
  rfl

theorem op_convQ (r : Rel P G m F K h w) {src dst : TypeId} {x x' : Value} (hx : renO m x = some x') (e : convOp P G src dst x h = some (v, h')) (hq : ∀ e, P.underlying dst ≠ some (.slice e)) :
    h' = h ∧ OpQ P m v w ((do pure (.value (← convert src dst x')) : Sem Next).run P w) := by
  unfold convOp at e
  split at e
  · rename_i k n
    split at e
    · rename_i u hg
      cases e
      obtain rfl := renO_int hx
      obtain ⟨h1, h2⟩ := guarded_some hg
      exact ⟨rfl, .of_value (v' := v) (pureRun_sound _ h1 w) (renO_noA m v h2)⟩
    · cases e
  · rename_i s
    obtain rfl := renO_string hx
    split at e
    · rename_i hs hd
      cases e
      exact ⟨rfl, .of_value (v' := .string s) (by simp [convert, run_und hs, run_und hd]) (by simp [renO])⟩
    · rename_i e2 hs hd
      exact (hq _ hd).elim
    · cases e
  · rename_i b n c
    split at e
    · rename_i el hs hd
      split at e
      · rename_i he
        split at e
        · cases e
          obtain rfl : _ = x' := by simpa [renO] using hx
          refine ⟨rfl, .of_value (v' := .string .empty) ?_ (by simp [renO]; rfl)⟩
          simp [convert, run_und hs, run_und hd, run_und he, Conv.bytesToString]
        · rename_i a
          obtain ⟨a', g1, rfl⟩ := renO_slice hx
          split at e
          · rename_i l hl
            split at e
            · rename_i bs hb
              cases e
              obtain ⟨l', h1, h2⟩ := ldCells_sound r g1 _ _ _ hl
              obtain ⟨ns, rfl, rfl⟩ := bytesOf_sound hb
              have hna : noA.noAs (ns.map (Value.int .u8)) = true := by
                clear hl h1 h2 hb
                induction ns with
                | nil => rfl
                | cons n ns ih => simp only [List.map_cons, noA.noAs, noA, ih]
              obtain rfl := renOs_noA' hna h1
              have hlen := ldCells_length _ _ _ hl
              have hrun := run_loadCells_list (P := P) (w := w) a' (ns.map (Value.int .u8)) (fun j v hj => by simpa using h2 j v hj)
              rw [hlen] at hrun
              have hfin := run_bytesToString (P := P) w a' n (c + exA m a) ns (by rw [hrun])
              refine ⟨rfl, .of_value (v' := .string (ns.foldl (fun r n => r.push (UInt8.ofNat n.toNat)) ByteArray.empty)) ?_ ?_⟩
              · rw [run_convert_bytes_string w src dst el (some a') n (c + exA m a) hs he hd]; exact hfin
              · have : ns.foldl (fun r n => r.push (UInt8.ofNat n.toNat)) ByteArray.empty = ⟨⟨ns.map (fun n => UInt8.ofNat n.toNat)⟩⟩ := by
                  apply ByteArray.ext; apply Array.toList_inj.1
                  rw [foldl_push]; simp
                rw [this]; simp [renO]
            · cases e
          · cases e
      · cases e
    · cases e
  · cases e

theorem op_conv (r : Rel P G m F K h w) {src dst : TypeId} {x x' : Value} (hx : renO m x = some x') (e : convOp P G src dst x h = some (v, h')) :
    OpOk P G m F K h h' v ((do pure (.value (← convert src dst x')) : Sem Next).run P w) := by
  by_cases hq : ∀ e, P.underlying dst ≠ some (.slice e)
  · obtain ⟨rfl, hh⟩ := op_convQ r hx e hq
    exact hh.ok r
  have hdst : ∃ e, P.underlying dst = some (.slice e) := Classical.byContradiction fun hc => hq fun e he => hc ⟨e, he⟩
  obtain ⟨ed, hed⟩ := hdst
  unfold convOp at e
  split at e
  · rename_i k n
    split at e
    · rename_i u hg
      cases e
      obtain rfl := renO_int hx
      obtain ⟨h1, h2⟩ := guarded_some hg
      exact (OpQ.of_value (v' := v) (pureRun_sound _ h1 w) (renO_noA m v h2)).ok r
    · cases e
  · rename_i s
    obtain rfl := renO_string hx
    split at e
    · rename_i hs hd
      cases e
      rw [hed] at hd; cases hd
    · rename_i e2 hs hd
      split at e
      · rename_i he hn
        cases e
        have hcap := grownCap_ge w s.size 0 e2
        let b2 : BI := ⟨w.heap.size, 0, grownCap w s.size 0 e2 - s.size⟩
        have hcs : renOs m (s.data.toList.map (fun b => Value.int .u8 b.toNat)) = some (s.data.toList.map (fun b => Value.int .u8 b.toNat)) := renOs_noA m _ (noAs_bytes _)
        have hmn : m h.next = none := r.len _ (Nat.le_refl _)
        refine .of_value (m' := m.up h.next b2) (conv_bytes_cells hs hd he) (Step.new hmn b2 _) ?_ ?_
        · rw [renO_grown]
          show some (Value.slice (some ⟨w.heap.size, 0, none⟩) s.size (s.size + (grownCap w s.size 0 e2 - s.size))) = _
          rw [show s.size + (grownCap w s.size 0 e2 - s.size) = grownCap w s.size 0 e2 by omega]
        · have hheap : ∀ q, q < w.heap.size → ((w.drew.alloc (.cells (s.data.map (fun b => Value.int .u8 b.toNat) ++ Array.replicate (grownCap w s.size 0 e2 - s.size) (.int .u8 0)) e2)).freeze ⟨w.heap.size, s.size + (grownCap w s.size 0 e2 - s.size), none⟩ 1).heap[q]? = w.heap[q]? := by
            intro q hq
            have : q ≠ w.heap.size := by omega
            have hw : w.drew.heap = w.heap := rfl
            simp [World.freeze, World.alloc, hw, Array.getElem?_modify, Array.getElem?_push, this, Ne.symm this]
          refine r.grow b2 _ rfl rfl rfl ?_ hheap (r.fresh (Nat.le_refl _)) ?_
          · have hw : w.drew.heap = w.heap := rfl
            simp [World.freeze, World.alloc, hw]
          intro b3 hb3
          rw [Ren.up_same] at hb3; cases hb3
          refine ⟨s.data.map (fun b => Value.int .u8 b.toNat) ++ Array.replicate (grownCap w s.size 0 e2 - s.size) (.int .u8 0), (s.size + (grownCap w s.size 0 e2 - s.size), s.size + (grownCap w s.size 0 e2 - s.size) + 1), ?_, ?_, ?_, ?_, ?_⟩
          · intro hF; have := (r.fr _ hF).1; have := r.size; simp only [b2] at *; omega
          · have hw : w.drew.heap = w.heap := rfl
            show (World.freeze _ _ _).heap[w.heap.size]? = _
            rw [World.freeze, if_neg (by decide)]
            simp only [Array.getElem?_modify, if_pos]
            have : (w.drew.alloc (.cells (s.data.map (fun b => Value.int .u8 b.toNat) ++ Array.replicate (grownCap w s.size 0 e2 - s.size) (.int .u8 0)) e2)).heap[w.heap.size]? = some (.cells (s.data.map (fun b => Value.int .u8 b.toNat) ++ Array.replicate (grownCap w s.size 0 e2 - s.size) (.int .u8 0)) e2) := by
              show (w.heap.push _)[w.heap.size]? = _
              simp
            rw [this]
            rfl
          · intro k u hk
            obtain ⟨g1, u', g2, g3⟩ := cells_new (renOs_mono (Ext.one hmn _) _ _ hcs) (w := w) k u hk
            simp only [List.length_map, Array.length_toList] at g1
            refine ⟨by simpa using g1, u', g2, ?_⟩
            have g1' : k < s.data.size := g1
            rw [Array.getElem?_append_left (by simp [b2]; exact g1')]
            have hb : b2.sh = 0 := rfl
            rw [hb]
            have : (⟨s.data.toList.map (fun b => Value.int .u8 b.toNat)⟩ : Array Value) = s.data.map (fun b => Value.int .u8 b.toNat) := by apply Array.ext'; simp
            rw [← this]; exact g3
          · have : exC P e2 b2 = grownCap w s.size 0 e2 - s.size := by simp only [exC, hn, Option.getD_some, b2, Nat.mul_one]
            rw [this]
            have hs1 : s.size = s.data.size := rfl
            rw [Array.size_append, Array.size_map, Array.size_replicate, hs1]
            show 0 + s.data.size + _ ≤ _
            omega
          · have : exC P e2 b2 = grownCap w s.size 0 e2 - s.size := by simp only [exC, hn, Option.getD_some, b2, Nat.mul_one]
            rw [this]
            intro k k1 k2
            have hb : b2.sh = 0 := rfl
            have h1 : ¬ (s.size + (grownCap w s.size 0 e2 - s.size) ≤ k) := by omega
            simp [h1]
      · cases e
    · cases e
  · split at e
    · rename_i el hs hd
      rw [hed] at hd; cases hd
    · cases e
  · cases e
end
end Go.Sim


namespace Go.Sim
variable {P : Program} {G : Nat → Option (List Value)}
section
variable {m : Ren} {F : Nat → Prop} {K : World} {h h' : Hp} {w : World} {nt : Nat} {tm : TM} {a : Act} {v : Value}

theorem natOf_ren {u u' : Value} {n : Nat} (h : natOf u = some n) (hu : renO m u = some u') : ∃ k, u' = .int k n := by
  obtain ⟨k, rfl⟩ := natOf_some h
  exact ⟨k, renO_int hu⟩

theorem sliceOp_sound (r : Rel P G m F K h w) {t : TypeId} {x x' : Value} {lo hi mx lo' hi' mx' : Option Value} (hx : renO m x = some x') (hlo : OptR m lo lo') (hhi : OptR m hi hi') (hmx : OptR m mx mx') (e : sliceOp P t x lo hi mx = some v) :
    OpQ P m v w ((do pure (.value (← Instr.sliceAt t x' lo' hi' mx')) : Sem Next).run P w) := by
  unfold sliceOp at e
  split at e
  · rename_i s
    split at e
    · rename_i ht
      split at e
      · rename_i q l e2 e1
        split at e
        · rename_i h2 h1
          cases e
          exact op_sliceString r hx ht hlo hhi hmx e1 e2 (bleT h2) (bleT h1)
        · cases e
      · cases e
    · cases e
  · rename_i b len cap
    split at e
    · rename_i el ht
      split at e
      · rename_i size z q l hn e3 e2 e1
        split at e
        · rename_i h3 h2 h1
          have hmh : mx.isSome → hi.isSome := by
            intro hm
            cases hh : hi.isSome with
            | true => rfl
            | false => rw [hm, hh] at e; cases e
          refine op_slice r hx ht hn hlo hhi hmx e1 e2 e3 (bleT h3) (bleT h2) (bleT h1) hmh ?_
          revert e
          cases hm : mx.isSome <;> cases hh : hi.isSome <;> first | exact id | (intro e; cases e; done) | (cases b <;> exact id)
        · cases e
      · cases e
    · cases e
  · rename_i a0
    split at e
    · rename_i n el ht
      split at e
      · rename_i size z q l hn e3 e2 e1
        split at e
        · rename_i h3 h2 h1
          split at e
          · cases e
          · cases e
          · rename_i hsp hbad
            cases e
            have hmh : mx.isSome → hi.isSome := by
              intro hm
              cases hh : hi.isSome with
              | true => rfl
              | false => exact (hbad hm hh).elim
            exact op_sliceArray r hx ht hn hlo hhi hmx e1 e2 e3 (bleT h3) (bleT h2) (bleT h1) hmh hsp
        · cases e
      · cases e
    · cases e
  · cases e


theorem aop_builtinQ (r : Rel P G m F K h w) (rt : TRel m nt tm a.tmps) {o : Oper} {b : Builtin} {args : Array Operand} {ts : Array TypeId} (ho : o.op = .call { callee := .builtin b, args := args, argTypes := ts }) (hq : quietOp P o.op = true)
    (e : aop P G o.op tm h = some (v, h')) : h' = h ∧ OpQ P m v w ((execOp a.eval o).run P w) := by
  rw [ho] at hq
  rw [ho] at e
  have hex : execOp a.eval o = builtin b ts o.type (args.map fun | .const _ => true | _ => false) (args.map a.eval) := by
    unfold execOp
    rw [ho]
    rfl
  rw [hex]
  simp only [aop] at e
  split at e
  · rename_i l hl
    have hl' := opnds_sound rt hl
    rw [← Array.toList_map] at hl'
    have two : ∀ {d x : Value}, l = [d, x] → ∃ s' x', renO m d = some s' ∧ renO m x = some x' ∧ args.map a.eval = #[s', x'] := by
      intro d x hd
      subst hd
      obtain ⟨s', y, h1, h2, h3⟩ := renOs_cons hl'
      obtain ⟨x', y2, h4, h5, h6⟩ := renOs_cons h2
      obtain rfl : y2 = [] := by simpa [renOs] using h5.symm
      subst h6
      exact ⟨s', x', h1, h4, by apply Array.ext'; rw [h3]⟩
    have plain : noA (.tuple ⟨l⟩) = true → args.map a.eval = ⟨l⟩ := by
      intro hn
      simp only [noA] at hn
      have hl2 := renOs_noA' hn hl'
      apply Array.ext'; rw [hl2]
    unfold aopB at e
    cases b <;> simp only [quietOp] at hq <;> try (exact absurd hq (by decide))
    · dsimp only at e
      split at e
      · rename_i u
        obtain ⟨x, y, h1, h2, h3⟩ := renOs_cons hl'
        obtain rfl : y = [] := by simpa [renOs] using h2.symm
        have hargs : args.map a.eval = #[x] := by apply Array.ext'; rw [h3]
        rw [hargs]
        split at e
        · rename_i t tl hts
          split at e
          · rename_i d hd
            split at e
            · rename_i u2 hu
              cases e
              exact ⟨rfl, op_len r hts hd h1 hu⟩
            · cases e
          · cases e
        · cases e
      · cases e
    · dsimp only at e
      split at e
      · rename_i hn
        split at e
        · rename_i u hu
          cases e
          obtain ⟨g1, g2⟩ := guarded_some hu
          rw [plain hn]
          have hr := pureRun_sound _ g1 w
          exact ⟨rfl, OpQ.of_value (v' := v) (s := Builtin.max_ ts o.type ⟨l⟩) hr (renO_noA m v g2)⟩
        · cases e
      · cases e
    · dsimp only at e
      split at e
      · rename_i hn
        split at e
        · rename_i u hu
          cases e
          obtain ⟨g1, g2⟩ := guarded_some hu
          rw [plain hn]
          have hr := pureRun_sound _ g1 w
          exact ⟨rfl, OpQ.of_value (v' := v) (s := Builtin.min_ ts o.type ⟨l⟩) hr (renO_noA m v g2)⟩
        · cases e
      · cases e
  · cases e

theorem aop_builtin (r : Rel P G m F K h w) (rt : TRel m nt tm a.tmps) {o : Oper} {b : Builtin} {args : Array Operand} {ts : Array TypeId} (ho : o.op = .call { callee := .builtin b, args := args, argTypes := ts })
    (e : aop P G o.op tm h = some (v, h')) : OpOk P G m F K h h' v ((execOp a.eval o).run P w) := by
  rw [ho] at e
  have hex : execOp a.eval o = builtin b ts o.type (args.map fun | .const _ => true | _ => false) (args.map a.eval) := by
    unfold execOp
    rw [ho]
    rfl
  rw [hex]
  simp only [aop] at e
  split at e
  · rename_i l hl
    have hl' := opnds_sound rt hl
    rw [← Array.toList_map] at hl'
    have two : ∀ {d x : Value}, l = [d, x] → ∃ s' x', renO m d = some s' ∧ renO m x = some x' ∧ args.map a.eval = #[s', x'] := by
      intro d x hd
      subst hd
      obtain ⟨s', y, h1, h2, h3⟩ := renOs_cons hl'
      obtain ⟨x', y2, h4, h5, h6⟩ := renOs_cons h2
      obtain rfl : y2 = [] := by simpa [renOs] using h5.symm
      subst h6
      exact ⟨s', x', h1, h4, by apply Array.ext'; rw [h3]⟩
    have plain : noA (.tuple ⟨l⟩) = true → args.map a.eval = ⟨l⟩ := by
      intro hn
      simp only [noA] at hn
      have hl2 := renOs_noA' hn hl'
      apply Array.ext'; rw [hl2]
    unfold aopB at e
    split at e
    · split at e
      · rename_i u
        obtain ⟨x, y, h1, h2, h3⟩ := renOs_cons hl'
        obtain rfl : y = [] := by simpa [renOs] using h2.symm
        have hargs : args.map a.eval = #[x] := by apply Array.ext'; rw [h3]
        rw [hargs]
        split at e
        · rename_i t tl hts
          split at e
          · rename_i d hd
            split at e
            · rename_i u2 hu
              cases e
              exact (op_len r hts hd h1 hu).ok r
            · cases e
          · cases e
        · cases e
      · cases e
    · split at e
      · rename_i s x
        obtain ⟨s', x', h1, h4, hargs⟩ := two rfl
        rw [hargs]
        split at e
        · rename_i t u tl hts
          split at e
          · rename_i hp
            exact op_append r hts hp h1 h4 e
          · cases e
        · cases e
      · cases e
    · split at e
      · rename_i hn
        split at e
        · rename_i u hu
          cases e
          obtain ⟨g1, g2⟩ := guarded_some hu
          rw [plain hn]
          have hr := pureRun_sound _ g1 w
          exact (OpQ.of_value (v' := v) (s := Builtin.min_ ts o.type ⟨l⟩) hr (renO_noA m v g2)).ok r
        · cases e
      · cases e
    · split at e
      · rename_i hn
        split at e
        · rename_i u hu
          cases e
          obtain ⟨g1, g2⟩ := guarded_some hu
          rw [plain hn]
          have hr := pureRun_sound _ g1 w
          exact (OpQ.of_value (v' := v) (s := Builtin.max_ ts o.type ⟨l⟩) hr (renO_noA m v g2)).ok r
        · cases e
      · cases e
    · split at e
      · rename_i d x
        obtain ⟨s', x', h1, h4, hargs⟩ := two rfl
        rw [hargs]
        split at e
        · rename_i t tl hts
          split at e
          · rename_i el ht
            split at e
            · rename_i size b n c q hn hq
              split at e
              · rename_i l2 hl2
                split at e
                · cases e
                · rename_i i hbk
                  split at e
                  · rename_i sz ty cs hi
                    split at e
                    · rename_i cs' hst
                      cases e
                      exact op_copy r hts h1 h4 ht hn hq hl2 hbk hi hst
                    · cases e
                  · cases e
              · cases e
            · cases e
          · cases e
        · cases e
      · cases e
    · cases e
  · cases e
end
end Go.Sim


namespace Go.Sim
variable {P : Program} {G : Nat → Option (List Value)}
section
variable {m : Ren} {F : Nat → Prop} {K : World} {h h' : Hp} {w : World} {nt : Nat} {tm : TM} {a : Act} {v : Value}

/-- EVERY OPERATION THAT LEAVES MEMORY ALONE -/
theorem aopQ_sound (r : Rel P G m F K h w) (rt : TRel m nt tm a.tmps) {o : Oper} (hq : quietOp P o.op = true) (e : aop P G o.op tm h = some (v, h')) : h' = h ∧ OpQ P m v w ((execOp a.eval o).run P w) := by
  obtain ⟨dst, op, type, pos, after, guard⟩ := o
  cases op with
  | move x =>
    simp only [aop] at e
    split at e
    · rename_i u hu; cases e; exact ⟨rfl, .same' (opnd_sound rt hu) rfl⟩
    · cases e
  | assign x =>
    simp only [aop] at e
    split at e
    · rename_i u hu; cases e; exact ⟨rfl, .same' (opnd_sound rt hu) rfl⟩
    · cases e
  | pick c x y =>
    simp only [aop] at e
    split at e
    · rename_i hc
      have hc := renO_bool (opnd_sound rt hc)
      split at e
      · rename_i u hu; cases e
        exact ⟨rfl, .same' (opnd_sound rt hu) (by simp [execOp, hc, asBool])⟩
      · cases e
    · rename_i hc
      have hc := renO_bool (opnd_sound rt hc)
      split at e
      · rename_i u hu; cases e
        exact ⟨rfl, .same' (opnd_sound rt hu) (by simp [execOp, hc, asBool])⟩
      · cases e
    · cases e
  | build t parts =>
    simp only [aop] at e
    split at e
    · rename_i z fs hz ht
      split at e
      · rename_i ps hs hp
        split at e
        · rename_i l hf; cases e; exact ⟨rfl, op_buildStruct r rt hz ht hs hp hf⟩
        · cases e
      · cases e
    · rename_i z n el hz ht
      split at e
      · rename_i size hn
        split at e
        · rename_i ps hp
          split at e
          · rename_i l hf; cases e; exact ⟨rfl, op_buildArray r rt hz ht hn hp hf⟩
          · cases e
        · cases e
      · cases e
    · cases e
  | load t x =>
    simp only [aop] at e
    split at e
    · rename_i b hb
      split at e
      · rename_i u hu; cases e; exact ⟨rfl, op_load r (opnd_sound rt hb) hu⟩
      · cases e
    · cases e
  | nilCheck x =>
    simp only [aop] at e
    split at e
    · cases e
    · cases e
    · cases e
    · cases e
    · rename_i u h1 h2 h3 h4 hu
      cases e
      have hr := opnd_sound rt hu
      refine ⟨rfl, .same' hr ?_⟩
      have g1 : a.eval x ≠ .pointer none := by
        intro g; rw [g] at hr
        cases v with
        | pointer b => cases b with
          | none => exact h1 rfl
          | some b => obtain ⟨_, _, h⟩ := renO_pointer hr; cases h
        | slice b n c => cases b <;> (simp only [renO] at hr; first | cases hr | (revert hr; split <;> simp))
        | map b => cases b <;> (simp only [renO] at hr; first | cases hr | (revert hr; repeat' split <;> simp))
        | chan b => cases b <;> (simp only [renO] at hr; first | cases hr | (revert hr; repeat' split <;> simp))
        | func fn f c => obtain ⟨f⟩ := f; obtain ⟨c⟩ := c; simp only [renO] at hr; revert hr; repeat' split <;> simp
        | tuple l => obtain ⟨l⟩ := l; simp only [renO] at hr; revert hr; repeat' split <;> simp
        | agg l => obtain ⟨l⟩ := l; simp only [renO] at hr; revert hr; repeat' split <;> simp
        | _ => simp only [renO] at hr; first | cases hr | (revert hr; repeat' split <;> simp)
      have g2 : a.eval x ≠ .nilIface := by
        intro g; rw [g] at hr
        cases v with
        | nilIface => exact h2 rfl
        | pointer b => cases b <;> (simp only [renO] at hr; first | cases hr | (revert hr; repeat' split <;> simp))
        | slice b n c => cases b <;> (simp only [renO] at hr; first | cases hr | (revert hr; split <;> simp))
        | map b => cases b <;> (simp only [renO] at hr; first | cases hr | (revert hr; repeat' split <;> simp))
        | chan b => cases b <;> (simp only [renO] at hr; first | cases hr | (revert hr; repeat' split <;> simp))
        | func fn f c => obtain ⟨f⟩ := f; obtain ⟨c⟩ := c; simp only [renO] at hr; revert hr; repeat' split <;> simp
        | tuple l => obtain ⟨l⟩ := l; simp only [renO] at hr; revert hr; repeat' split <;> simp
        | agg l => obtain ⟨l⟩ := l; simp only [renO] at hr; revert hr; repeat' split <;> simp
        | _ => simp only [renO] at hr; first | cases hr | (revert hr; repeat' split <;> simp)
      have g3 : a.eval x ≠ .nilFunc := by
        intro g; rw [g] at hr
        cases v with
        | nilFunc => exact h3 rfl
        | pointer b => cases b <;> (simp only [renO] at hr; first | cases hr | (revert hr; repeat' split <;> simp))
        | slice b n c => cases b <;> (simp only [renO] at hr; first | cases hr | (revert hr; split <;> simp))
        | map b => cases b <;> (simp only [renO] at hr; first | cases hr | (revert hr; repeat' split <;> simp))
        | chan b => cases b <;> (simp only [renO] at hr; first | cases hr | (revert hr; repeat' split <;> simp))
        | func fn f c => obtain ⟨f⟩ := f; obtain ⟨c⟩ := c; simp only [renO] at hr; revert hr; repeat' split <;> simp
        | tuple l => obtain ⟨l⟩ := l; simp only [renO] at hr; revert hr; repeat' split <;> simp
        | agg l => obtain ⟨l⟩ := l; simp only [renO] at hr; revert hr; repeat' split <;> simp
        | _ => simp only [renO] at hr; first | cases hr | (revert hr; repeat' split <;> simp)
      have g4 : ∀ n f c, a.eval x ≠ .func (.method n) f c := by
        intro n f c g; rw [g] at hr
        cases v with
        | func fn f2 c2 =>
          obtain ⟨f2⟩ := f2; obtain ⟨c2⟩ := c2
          simp only [renO] at hr
          revert hr
          repeat' split
          · rename_i fn' f' c' k1 k2 k3
            intro hr
            cases hr
            cases fn with
            | method n2 => exact h4 _ _ _ rfl
            | yield r2 =>
              simp only [renF] at k1
              revert k1
              repeat' split <;> simp
            | _ => simp [renF] at k1
          · simp
        | nilFunc => simp [renO] at hr
        | pointer b => cases b <;> (simp only [renO] at hr; first | cases hr | (revert hr; repeat' split <;> simp))
        | slice b n c => cases b <;> (simp only [renO] at hr; first | cases hr | (revert hr; split <;> simp))
        | map b => cases b <;> (simp only [renO] at hr; first | cases hr | (revert hr; repeat' split <;> simp))
        | chan b => cases b <;> (simp only [renO] at hr; first | cases hr | (revert hr; repeat' split <;> simp))
        | tuple l => obtain ⟨l⟩ := l; simp only [renO] at hr; revert hr; repeat' split <;> simp
        | agg l => obtain ⟨l⟩ := l; simp only [renO] at hr; revert hr; repeat' split <;> simp
        | _ => simp only [renO] at hr; first | cases hr | (revert hr; repeat' split <;> simp)
      simp only [execOp]
      rfl
    · cases e
  | binOp op t x y yt =>
    simp only [aop] at e
    split at e
    · rename_i u u2 h1 h2
      split at e
      · rename_i z hz; cases e; exact ⟨rfl, op_bin r (opnd_sound rt h1) (opnd_sound rt h2) hz⟩
      · cases e
    · cases e
  | unOp op t x =>
    simp only [aop] at e
    split at e
    · rename_i u hu
      split at e
      · rename_i hn
        split at e
        · rename_i z hz
          cases e
          obtain ⟨g1, g2⟩ := guarded_some hz
          have := noA_inv hn (opnd_sound rt hu)
          refine ⟨rfl, .of_value (v' := v) (s := Op.unary op (a.eval x)) ?_ (renO_noA m v g2)⟩
          rw [this]; exact pureRun_sound _ g1 w
        · cases e
      · cases e
    · cases e
  | makeInterface t x =>
    simp only [aop] at e
    split at e
    · cases e
    · rename_i u d h0 h1 h2
      cases e
      refine ⟨rfl, .of_value (v' := .iface t (a.eval x)) (s := Instr.makeInterface t (a.eval x)) ?_ (by simp only [renO, opnd_sound rt h1])⟩
      simp only [Instr.makeInterface, Sem.run_bind, run_und h2, Result.andThen_ok]
      cases d <;> first | rfl | exact (h0 _ _ h1 h2).elim
    · cases e
  | makeFunc fn f c =>
    simp only [aop] at e
    split at e
    · rename_i fn
      split at e
      · rename_i f' c' h1 h2
        cases e
        have g1 := opnds_sound rt h1
        have g2 := opnds_sound rt h2
        refine ⟨rfl, .of_value (v' := .func (.func fn) ⟨f.toList.map a.eval⟩ ⟨c.toList.map a.eval⟩) (s := Instr.makeFunc (.func fn) (f.map a.eval) (c.map a.eval)) ?_ (by simp only [renO, renF, g1, g2])⟩
        simp only [Instr.makeFunc, Sem.run_pure]
        congr 2 <;> (apply Array.ext'; simp)
      · cases e
    · cases e
  | slice t x lo hi mx =>
    simp only [aop] at e
    split at e
    · rename_i u lo' hi' mx' h1 h2 h3 h4
      split at e
      · rename_i z hz; cases e; exact ⟨rfl, sliceOp_sound r (opnd_sound rt h1) (optOpnd_sound rt h2) (optOpnd_sound rt h3) (optOpnd_sound rt h4) hz⟩
      · cases e
    · cases e
  | fieldAddr s x f =>
    simp only [aop] at e
    split at e
    · rename_i b fs h1 h2
      split at e
      · rename_i fd h3
        split at e
        · cases e
        · rename_i n hn h4
          cases e
          cases n with
          | zero => exact (hn rfl).elim
          | succ n => exact ⟨rfl, op_fieldAddr r (opnd_sound rt h1) h2 h3 h4⟩
        · cases e
      · cases e
    · cases e
  | field t x f =>
    simp only [aop] at e
    split at e
    · rename_i cs fs h1 h2
      split at e
      · rename_i fd h3
        split at e
        · rename_i z hz; cases e; exact ⟨rfl, op_field r (opnd_sound rt h1) h2 h3 hz⟩
        · cases e
      · cases e
    · cases e
  | indexAddr t x i =>
    simp only [aop] at e
    split at e
    · rename_i b n c iv el h1 h2 h3
      split at e
      · rename_i i2 size h4 h5
        split at e
        · rename_i h6; cases e; exact ⟨rfl, op_indexSlice r (opnd_sound rt h1) (opnd_sound rt h2) h4 h3 h5 (bltT h6)⟩
        · cases e
      · cases e
    · rename_i b iv n el h1 h2 h3
      split at e
      · rename_i i2 size h4 h5
        split at e
        · rename_i h6; cases e; exact ⟨rfl, op_indexArray r (opnd_sound rt h1) (opnd_sound rt h2) h4 h3 h5 (bltT h6)⟩
        · cases e
      · cases e
    · cases e
  | index t x i =>
    simp only [aop] at e
    split at e
    · rename_i s iv h1 h2 h3
      split at e
      · rename_i i2 h4
        split at e
        · rename_i b h5; cases e; exact ⟨rfl, op_indexString r (opnd_sound rt h1) (opnd_sound rt h2) h4 h3 h5⟩
        · cases e
      · cases e
    · rename_i cs iv n el h1 h2 h3
      split at e
      · rename_i i2 size h4 h5
        split at e
        · rename_i h6
          split at e
          · rename_i z hz; cases e; exact ⟨rfl, op_indexAgg r (opnd_sound rt h1) (opnd_sound rt h2) h4 h3 h5 (bltT h6) hz⟩
          · cases e
        · cases e
      · cases e
    · cases e
  | lookup t x i ok =>
    simp only [aop] at e
    split at e
    · rename_i rr k kt el h1 h2 h3
      split at e
      · cases e
      · cases e
      · rename_i es hes hk
        cases hkt : P.underlying kt with
        | none => rw [hkt] at hk; simp [kindOk] at hk
        | some d =>
          rw [hkt] at hk
          split at e
          · cases e
          · rename_i u hf
            cases ok
            · cases e; exact ⟨rfl, op_lookup r (opnd_sound rt h1) (opnd_sound rt h2) h3 hkt hes hk hf (z := .nilIface) (fun hh => by cases hh) rfl⟩
            · cases e; exact ⟨rfl, op_lookup r (opnd_sound rt h1) (opnd_sound rt h2) h3 hkt hes hk hf (z := .nilIface) (fun hh => by cases hh) rfl⟩
          · rename_i hf
            split at e
            · cases e
            · rename_i z hz
              split at e
              · rename_i hn; cases e
                exact ⟨rfl, op_lookup r (opnd_sound rt h1) (opnd_sound rt h2) h3 hkt hes hk hf (z := z) (fun _ => ⟨hz, hn⟩) rfl⟩
              · rename_i hn; cases e
                exact ⟨rfl, op_lookup r (opnd_sound rt h1) (opnd_sound rt h2) h3 hkt hes hk hf (z := v) (fun _ => ⟨hz, hn⟩) rfl⟩
              · cases e
    · cases e
  | extract x i =>
    simp only [aop] at e
    split at e
    · rename_i l h1
      split at e
      · rename_i z hz
        cases e
        obtain ⟨l', g1, g2⟩ := renO_tupleI (opnd_sound rt h1)
        obtain ⟨z', g3, g4⟩ := renOs_get g1 _ _ hz
        refine ⟨rfl, .of_value (v' := z') (s := Instr.extract (a.eval x) i) ?_ g3⟩
        rw [g2]
        have : (⟨l'⟩ : Array Value)[i]? = some z' := by simpa using g4
        simp [Instr.extract, this]
      · cases e
    · cases e
  | convert s d x =>
    simp only [aop] at e
    split at e
    · rename_i u hu
      refine op_convQ r (opnd_sound rt hu) e ?_
      intro el hd
      simp only [quietOp, hd] at hq
      cases hq
    · cases e
  | call c =>
    obtain ⟨callee, args, argTypes⟩ := c
    cases callee with
    | builtin b => exact aop_builtinQ r rt (o := ⟨dst, .call ⟨.builtin b, args, argTypes⟩, type, pos, after, guard⟩) rfl hq e
    | value f => simp [aop] at e
    | invoke x n => simp [aop] at e
  | _ => simp [quietOp] at hq

/-- EVERY OPERATION THAT MAKES ONE OBJECT -/
theorem aopA_sound (rt : TRel m nt tm a.tmps) {o : Oper} (hq : isMake o.op = true) (e : aop P G o.op tm h = some (v, h')) (F : Nat → Prop) (w : World) : OpA P m F h h' v w ((execOp a.eval o).run P w) := by
  obtain ⟨dst, op, type, pos, after, guard⟩ := o
  cases op with
  | alloc t =>
    simp only [aop] at e
    split at e
    · rename_i l hz; exact op_alloc hz (Option.some.inj e)
    · cases e
  | box t x =>
    simp only [aop] at e
    split at e
    · rename_i u hu; exact op_box (opnd_sound rt hu) (Option.some.inj e)
    · cases e
  | buildSlice t len parts =>
    simp only [aop] at e
    split at e
    · rename_i el ht
      split at e
      · rename_i size z hn hz
        split at e
        · rename_i ps hp hzl hlen
          split at e
          · rename_i l hf
            split at e
            · rename_i b h2 hc; cases e; exact op_buildSlice rt ht hn hz (beqT hzl) (bleT hlen) hp hf hc
            · cases e
          · cases e
        · cases e
      · cases e
    · cases e
  | makeMap t q =>
    cases q with
    | none =>
      simp only [aop] at e
      cases e
      exact op_makeMap (s := Instr.makeMap t none) (by simp [Instr.makeMap])
    | some x =>
      simp only [aop] at e
      split at e
      · rename_i k n _ _ h1 h2
        cases e
        refine op_makeMap (s := Instr.makeMap t (some (a.eval x))) ?_
        have := renO_int (opnd_sound rt h1)
        simp [Instr.makeMap, run_und h2, this, asInt, asIntOf]
      · cases e
  | makeSlice t l c =>
    simp only [aop] at e
    split at e
    · rename_i el ht
      split at e
      · rename_i lv cv z size bytes h1 h2 hz hn hby
        split at e
        · rename_i l2 c2 h3 h4
          split at e
          · rename_i g1 g2 g3
            split at e
            · rename_i b h5 hc; cases e; exact op_makeSlice ht hn hby hz (beqT g3) h3 h4 (opnd_sound rt h1) (opnd_sound rt h2) (bleT g1) (bleT g2) hc
            · cases e
          · cases e
        · cases e
      · cases e
    · cases e
  | _ => simp [isMake] at hq

/-- EVERY OPERATION THAT IS NO CALL OF A FUNCTION -/
theorem aop_sound (r : Rel P G m F K h w) (rt : TRel m nt tm a.tmps) {o : Oper} (e : aop P G o.op tm h = some (v, h')) : OpOk P G m F K h h' v ((execOp a.eval o).run P w) := by
  by_cases hq : quietOp P o.op = true
  · obtain ⟨rfl, hh⟩ := aopQ_sound r rt hq e
    exact hh.ok r
  by_cases hmk : isMake o.op = true
  · exact (aopA_sound rt hmk e F w).ok r
  obtain ⟨dst, op, type, pos, after, guard⟩ := o
  cases op with
  | store t x y =>
    simp only [aop] at e
    split at e
    · rename_i b u hb hu
      split at e
      · rename_i h2 hs; cases e; exact op_store r (opnd_sound rt hb) (opnd_sound rt hu) hs
      · cases e
    · cases e
  | mapUpdate t x k y =>
    simp only [aop] at e
    split at e
    · rename_i rr k2 u h1 h2 h3; exact op_mapStore r (opnd_sound rt h1) (opnd_sound rt h2) (opnd_sound rt h3) e
    · cases e
  | insert t x k y =>
    simp only [aop] at e
    split at e
    · rename_i rr k2 u h1 h2 h3; exact op_mapStore r (opnd_sound rt h1) (opnd_sound rt h2) (opnd_sound rt h3) e
    · cases e
  | convert s d x =>
    simp only [aop] at e
    split at e
    · rename_i u hu; exact op_conv r (opnd_sound rt hu) e
    · cases e
  | call c =>
    obtain ⟨callee, args, argTypes⟩ := c
    cases callee with
    | builtin b => exact aop_builtin r rt (o := ⟨dst, .call ⟨.builtin b, args, argTypes⟩, type, pos, after, guard⟩) rfl e
    | value f => simp [aop] at e
    | invoke x n => simp [aop] at e
  | _ => first | exact absurd rfl hq | exact absurd rfl hmk | (simp [aop] at e; done)
end
end Go.Sim


namespace Go.Sim
variable {P : Program} {G : Nat → Option (List Value)}

/-- the widest fence, of a round's frame or a function's -/
def FR (ρ : Option Nat) : Fence := { Fence.wide with round := ρ }
theorem fr_room (ρ : Option Nat) (n : Nat) : (FR ρ).room n := room_wide n
theorem callsIn_fr {ρ : Option Nat} {n : Nat} {f : FuncId} {args : Array Value} {w : World} {R : Ending → World → Prop} : CallsIn (FR ρ) n P f args w R ↔ Calls P f args w R :=
  callsIn_wide (n := n)

/-- a mark among the deferred calls -/
def mk (D : Nat) : Deferred := { target := .collected D, args := #[] }

def Apart (m : Ren) (h : Hp) (D : Nat) : Prop := ∀ j o b, h.bs.get j = some o → o.live → m j = some b → b.blk ≠ D

/-- the blocks of the marks that an activation bears: untouched -/
structure Marks (ds : List Nat) (K : World) (m : Ren) (h : Hp) (w : World) : Prop where
  nodup : ds.Nodup
  lays : ∀ D, D ∈ ds → K.heap.size ≤ D ∧ w.heap[D]? = some (.deferred (some []))
  apart : ∀ D, D ∈ ds → Apart m h D
theorem Marks.nil (K : World) (m : Ren) (h : Hp) (w : World) : Marks [] K m h w := ⟨List.nodup_nil, fun D hD => by simp at hD, fun D hD => by simp at hD⟩

section
variable {m m2 : Ren} {F : Nat → Prop} {K : World} {h h2 : Hp} {w w2 : World}

theorem ObjR_frame {F' : Nat → Prop} {i : Nat} {o : AObj} (hf : ∀ b, m i = some b → o.live → ¬ F b.blk → ¬ F' b.blk) (ho : ObjR P m F i w o) : ObjR P m F' i w o := by
  cases o with
  | dead => trivial
  | cells size ty cs => intro b hb; obtain ⟨cc, fr, h2, h3⟩ := ho b hb; exact ⟨cc, fr, hf b hb trivial h2, h3⟩
  | map es => intro b hb; obtain ⟨ms, cl, h2, h3⟩ := ho b hb; exact ⟨ms, cl, hf b hb trivial h2, h3⟩
  | loop => intro b hb; obtain ⟨rc, h2, h3⟩ := ho b hb; exact ⟨rc, hf b hb trivial h2, h3⟩

theorem Rel.fence (r : Rel P G m F K h w) {ds : List Nat} (hd : ∀ D, D ∈ ds → D < w.heap.size) (ha : ∀ D, D ∈ ds → Apart m h D) : Rel P G m (fun b => F b ∨ b ∈ ds) w h w where
  len := r.len
  os := rfl
  tape := rfl
  output := rfl
  size := Nat.le_refl _
  fr := fun b hb => by
    rcases hb with hb | hb
    · exact ⟨Nat.lt_of_lt_of_le (r.fr b hb).1 r.size, rfl⟩
    · exact ⟨hd b hb, rfl⟩
  glob := fun g l hg => by
    obtain ⟨h1, h2⟩ := r.glob g l hg
    refine ⟨.inl h1, fun k v hk => ⟨(h2 k v hk).1, ?_⟩⟩
    rw [World.cell?_fr (r.fr g h1).2]
    exact (h2 k v hk).2
  obj := fun i o hi => ObjR_frame (fun b hb hl hF hx => by
    rcases hx with hx | hx
    · exact hF hx
    · exact ha b.blk hx i o b hi hl hb rfl) (r.obj i o hi)
  inj := r.inj

theorem Rel.unfence (r : Rel P G m F K h w) {ds : List Nat} (r2 : Rel P G m2 (fun b => F b ∨ b ∈ ds) w h2 w2) : Rel P G m2 F K h2 w2 where
  len := r2.len
  os := r2.os.trans r.os
  tape := r2.tape.trans r.tape
  output := r2.output.trans r.output
  size := Nat.le_trans r.size r2.size
  fr := fun b hb => ⟨(r.fr b hb).1, (r2.fr b (.inl hb)).2.trans (r.fr b hb).2⟩
  glob := r.glob
  obj := fun i o hi => ObjR_frame (fun b hb hl hF hx => hF (.inl hx)) (r2.obj i o hi)
  inj := r2.inj

theorem Rel.apart_of (r2 : Rel P G m2 F K h2 w2) {D : Nat} (hD : F D) : Apart m2 h2 D := fun j o b hj hl hb e =>
  (ObjR_bi (r2.obj j o hj) hl hb).1 (e ▸ hD)

theorem Rel.below' (r : Rel P G m F K h w) (b : Go.RowKit.Below w.heap.size w w2) : Rel P G m F K h w2 where
  len := r.len
  os := b.os.trans r.os
  tape := b.tape.trans r.tape
  output := b.output.trans r.output
  size := Nat.le_trans r.size b.size
  fr := fun k hk => by
    obtain ⟨h1, h2⟩ := r.fr k hk
    exact ⟨h1, by rw [b.block k (Nat.lt_of_lt_of_le h1 r.size)]; exact h2⟩
  glob := r.glob
  obj := fun i o hi => ObjR_heap (r.obj i o hi) fun hl bi hb => b.block _ (ObjR_bi (r.obj i o hi) hl hb).2
  inj := r.inj

/-- marks of the first part and of the second -/
theorem Marks.join {ds ds2 : List Nat} (r : Rel P G m F K h w) (k : Marks ds K m h w) (r2 : Rel P G m2 (fun b => F b ∨ b ∈ ds) w h2 w2) (k2 : Marks ds2 w m2 h2 w2) : Marks (ds2 ++ ds) K m2 h2 w2 where
  nodup := by
    rw [List.nodup_append]
    refine ⟨k2.nodup, k.nodup, ?_⟩
    intro a ha b hb e
    subst e
    have h1 := (k2.lays a ha).1
    have h3 := getElem?_lt' (k.lays a hb).2
    omega
  lays := fun D hD => by
    rcases List.mem_append.1 hD with hD | hD
    · exact ⟨Nat.le_trans r.size (k2.lays D hD).1, (k2.lays D hD).2⟩
    · exact ⟨(k.lays D hD).1, (r2.fr D (.inr hD)).2.trans (k.lays D hD).2⟩
  apart := fun D hD => by
    rcases List.mem_append.1 hD with hD | hD
    · exact k2.apart D hD
    · exact r2.apart_of (.inr hD)

theorem Marks.fence (r : Rel P G m F K h w) {ds : List Nat} (k : Marks ds K m h w) : Rel P G m (fun b => F b ∨ b ∈ ds) w h w :=
  r.fence (fun D hD => getElem?_lt' (k.lays D hD).2) k.apart

/-- an object is turned into another -/
theorem Rel.setAny (r : Rel P G m F K h w) {i : Nat} {o o' : AObj} {b : BI} (hi : h.bs.get i = some o) (hl : o.live) (hb : m i = some b) (co : Obj)
    (ho : ObjR P m F i (w.putObj b.blk co) o') : Rel P G m F K { h with bs := h.bs.set i o' } (w.putObj b.blk co) := by
  have h2 := (ObjR_bi (r.obj i o hi) hl hb).1
  refine ⟨r.len, r.os, r.tape, r.output, by rw [World.putObj_size]; exact r.size, ?_, r.glob, ?_, ?_⟩
  · intro q hq
    refine ⟨(r.fr q hq).1, ?_⟩
    rw [World.putObj_heap_other (fun e : q = b.blk => h2 (e ▸ hq))]
    exact (r.fr q hq).2
  · intro j o2 hj
    rw [Tr.get_set] at hj
    by_cases e : i = j
    · rw [if_pos e] at hj; cases hj; subst e
      exact ho
    · rw [if_neg e] at hj
      refine ObjR_heap (r.obj j o2 hj) fun hl2 b2 hb2 => World.putObj_heap_other fun eb => ?_
      exact e (r.inj i j o o2 b b2 hi hj hl hl2 hb hb2 eb.symm)
  · intro j1 j2 o1 o2 b1 b2 hj1 hj2 l1 l2
    rw [Tr.get_set] at hj1 hj2
    have key : ∀ j q, (if i = j then some o' else h.bs.get j) = some q → q.live → ∃ q', h.bs.get j = some q' ∧ q'.live := by
      intro j q hq hlq
      by_cases e : i = j
      · subst e; exact ⟨_, hi, hl⟩
      · rw [if_neg e] at hq; exact ⟨q, hq, hlq⟩
    obtain ⟨o1', h1', l1'⟩ := key _ _ hj1 l1
    obtain ⟨o2', h2', l2'⟩ := key _ _ hj2 l2
    exact r.inj j1 j2 o1' o2' b1 b2 h1' h2' l1' l2'

/-- a block that no object bears is turned -/
theorem Rel.putOther (r : Rel P G m F K h w) {D : Nat} (hF : ¬ F D) (ha : Apart m h D) (co : Obj) : Rel P G m F K h (w.putObj D co) where
  len := r.len
  os := r.os
  tape := r.tape
  output := r.output
  size := by rw [World.putObj_size]; exact r.size
  fr := fun q hq => ⟨(r.fr q hq).1, by rw [World.putObj_heap_other (fun e : q = D => hF (e ▸ hq))]; exact (r.fr q hq).2⟩
  glob := r.glob
  obj := fun j o hj => ObjR_heap (r.obj j o hj) fun hl b hb => World.putObj_heap_other (ha j o b hj hl hb)
  inj := r.inj

/-- all marks are come to -/
theorem leaves_marks {fn : Func} {tmps : Array Value} {R : Ending → World → Prop} : ∀ (ds : List Nat) (w : World), Marks ds K m h w → Rel P G m F K h w →
    (∀ w', Rel P G m F K h w' → ∃ v, (results fn tmps).run P w' = .ok v w' ∧ R (.returned v) w') → LeavesInM (FR none) 0 P fn tmps R (ds.map mk) .returning w
  | [], w, _, r, hq => by
    obtain ⟨v, h1, h2⟩ := hq w r
    exact ⟨v, h1, h2⟩
  | D :: ds, w, k, r, hq => by
    have hk := k.lays D (by simp)
    have hnd := k.nodup
    rw [List.nodup_cons] at hnd
    refine ⟨by simp, .inl ⟨D, w.putObj D (.deferred none), rfl, run_takeDeferred hk.2, ?_⟩⟩
    refine leaves_marks ds _ ⟨hnd.2, fun E hE => ?_, fun E hE => k.apart E (by simp [hE])⟩ (r.putOther (fun hF => ?_) (k.apart D (by simp)) _) hq
    · have := k.lays E (by simp [hE])
      refine ⟨this.1, ?_⟩
      rw [World.putObj_heap_other (fun e : E = D => hnd.1 (e ▸ hE))]
      exact this.2
    · have := (r.fr D hF).1
      omega
end
end Go.Sim


namespace Go.Sim
variable {P : Program} {G : Nat → Option (List Value)}

def exO : Ex → Exit
  | .normal => .normal
  | .exit id => .exit id
  | .goto l => .goto l
  | .ret => .ret

/-- what a call comes to -/
def CallPost (P : Program) (G : Nat → Option (List Value)) (m : Ren) (F : Nat → Prop) (K : World) (h h' : Hp) (v : Value) (e : Ending) (w' : World) : Prop :=
  ∃ m' v', Step m m' h h' ∧ renO m' v = some v' ∧ Rel P G m' F K h' w' ∧ e = .returned v'

structure CallOk (P : Program) (G : Nat → Option (List Value)) (call : Call) : Prop where
  fn : ∀ f args h v h', call (.fn f) args h = some (v, h') → ∀ m F K w args', Rel P G m F K h w → renOs m args = some args' → Calls P f ⟨args'⟩ w (CallPost P G m F K h h' v)
  yld : ∀ r args h v h', call (.yld r) args h = some (v, h') → ∀ ρ m F K w args' i b, Rel P G m F K h w → renOs m args = some args' → bk r = .new i → m i = some b → YieldAt (FR ρ) 0 P b.blk ⟨args'⟩ w (CallPost P G m F K h h' v)

/-- functions without a body -/
def ExtOk (P : Program) (E : FuncId → List Value → Option Value) : Prop :=
  ∀ f args v, E f args = some v → ∀ m args' (w : World), renOs m args = some args' → ∃ v', renO m v = some v' ∧ (callFunc f ⟨args'⟩).run P w = .ok (.value v') w

def NamesOk (P : Program) : Prop := ∀ (f : FuncId) (fn : Func), P.funcs[f]? = some fn → (fn.name == "runtime.NumGoroutine") = false

section
variable {m : Ren} {F : Nat → Prop} {K : World} {h h' : Hp} {w : World} {nt : Nat} {tm : TM} {a : Act} {v : Value} {E : FuncId → List Value → Option Value} {call : Call}

theorem target_sound {f f' : Value} {args args' l : List Value} {g : FuncId} (ht : target f args = some (.fn g, l)) (hf : renO m f = some f') (ha : renOs m args = some args') (w : World) :
    ∃ l', renOs m l = some l' ∧ ∃ first captured, f' = .func (.func g) first captured ∧ (⟨l'⟩ : Array Value) = (first ++ ⟨args'⟩) ++ captured := by
  unfold target at ht
  split at ht
  · rename_i g2 first captured
    cases ht
    simp only [renO, renF] at hf
    split at hf
    · rename_i fn1 f1 c1 h0 h1 h2
      cases h0
      cases hf
      exact ⟨f1 ++ args' ++ c1, renOs_append (renOs_append h1 ha) h2, _, _, rfl, by apply Array.ext'; simp⟩
    · cases hf
  · cases ht
  · cases ht

theorem target_yield {f f' : Value} {args l : List Value} {q : Nat} (ht : target f args = some (.yld q, l)) (hf : renO m f = some f') : l = args ∧ ∃ i b, bk q = .new i ∧ m i = some b ∧ f' = .func (.yield b.blk) #[] #[] := by
  unfold target at ht
  split at ht
  · cases ht
  · cases ht
    simp only [renO, renF, renOs] at hf
    cases hb : bk q with
    | old g => rw [hb] at hf; cases hf
    | new i =>
      rw [hb] at hf
      dsimp only at hf
      cases hm : m i with
      | none => rw [hm] at hf; cases hf
      | some b => rw [hm] at hf; cases hf; exact ⟨rfl, i, b, rfl, hm, rfl⟩
  · cases ht

theorem sliceEnd_sound (r : Rel P G m F K h w) {t : TypeId} {x x' : Value} {lo hi lo' hi' : Option Value} (hx : renO m x = some x') (hlo : OptR m lo lo') (hhi : OptR m hi hi') (e : sliceEnd P t x lo hi h = some (v, h')) :
    OpOk P G m F K h h' v ((do pure (.value (← Instr.sliceAt t x' lo' hi' none)) : Sem Next).run P w) := by
  unfold sliceEnd at e
  split at e
  · rename_i a len cap
    split at e
    · rename_i sp elem hs ht
      split at e
      · rename_i size q l hn e2 e1
        split at e
        · rename_i h1 h2
          cases e
          have q1 := beqT h1
          have q2 := beqT h2
          rw [q1] at e1
          rw [q2] at e2
          clear q1 q2 h1 h2
          obtain ⟨a', g1, rfl⟩ := renO_slice hx
          have hb := run_bounds (P := P) (isSlice := true) (cap' := cap + exA m a) (z := cap) (mx := none) (mx' := none) (cap := cap) hlo hhi (.inl ⟨rfl, rfl⟩) e1 e2 rfl (Nat.le_add_right _ _) (Nat.le_refl _) (Nat.le_refl _) (Nat.le_refl _) (by simp) w
          have hm0 : m h.next = none := r.len _ (Nat.le_refl _)
          have main : ∀ (b : BI), (Instr.sliceAt t (.slice (some a') len (cap + exA m a)) lo' hi' none).run P w = .ok (.slice (some ⟨b.blk, b.sh, none⟩) 0 b.ex) w →
              OpOk P G m F K h { next := h.next + 1, bs := h.bs.set h.next .dead } (.slice (some ⟨2 * h.next, 0, some 0⟩) 0 0) ((do pure (.value (← Instr.sliceAt t (.slice (some a') len (cap + exA m a)) lo' hi' none)) : Sem Next).run P w) := by
            intro b hrun
            refine ⟨m.up h.next b, .slice (some ⟨b.blk, b.sh, none⟩) 0 b.ex, w, Step.new hm0 _ _, ?_, r.ghost b, .inl (bind_value hrun)⟩
            have hbk : bk (2 * h.next) = .new h.next := by first | exact bk_new _ | simp [bk]
            simp [renO, renA, exA, hbk, Ren.up_same]
          have hsp : ∃ blk off, a' = ⟨blk, off, none⟩ := by
            unfold renA at g1
            split at g1
            · rename_i g hg
              rw [hs] at g1; cases g1
            · split at g1
              · cases g1; exact ⟨_, _, rfl⟩
              · cases g1
          obtain ⟨blk, off, rfl⟩ := hsp
          by_cases hz : cap + exA m a = cap
          · refine main ⟨blk, off, cap + exA m a - cap⟩ ?_
            simp only [Instr.sliceAt, Sem.run_bind, run_und ht, Result.andThen_ok, Instr.slice, hb, run_info hn, Sem.run_pure]
            simp [hz]
          · refine main ⟨blk, off + cap * size, cap + exA m a - cap⟩ ?_
            simp only [Instr.sliceAt, Sem.run_bind, run_und ht, Result.andThen_ok, Instr.slice, hb, run_info hn, Sem.run_pure]
            have hadd : Addr.add ⟨blk, off, none⟩ (cap * size) = ⟨blk, off + cap * size, none⟩ := by
              unfold Addr.add
              split
              · rename_i h0; rw [h0]; rfl
              · rfl
            simp [hz, hadd]
            omega
        · cases e
      · cases e
    · cases e
  · cases e

theorem clearOp_sound (r : Rel P G m F K h w) {t ty : TypeId} {ts : Array TypeId} {tl : List TypeId} (hts : ts.toList = t :: tl) {x x' : Value} (hx : renO m x = some x') (e : clearOp P t x h = some (v, h')) :
    OpOk P G m F K h h' v ((do pure (.value (← Builtin.clear_ ts ty #[x'])) : Sem Next).run P w) := by
  have h0 : ts[0]? = some t := by rw [← Array.getElem?_toList, hts]; rfl
  have ht0 : renO m (.tuple ⟨[]⟩) = some (.tuple #[]) := by simp [renO, renOs]
  unfold clearOp at e
  split at e
  · rename_i n c
    split at e
    · rename_i d hd
      cases e
      obtain rfl : _ = x' := by simpa [renO] using hx
      exact (OpQ.of_value (v' := .tuple #[]) (by cases d <;> simp [Builtin.clear_, h0, run_und hd]) ht0).ok r
    · cases e
  · rename_i a n c
    obtain ⟨a', g1, rfl⟩ := renO_slice hx
    split at e
    · rename_i elem hd
      split at e
      · rename_i hn
        cases e
        have hn0 : n = 0 := beqT hn
        subst hn0
        exact (OpQ.of_value (v' := .tuple #[]) (by simp [Builtin.clear_, h0, run_und hd]) ht0).ok r
      · rename_i hn
        split at e
        · rename_i z i hz hbk
          split at e
          · rename_i sz ty2 cs hi
            split at e
            · rename_i cs' hst
              cases e
              obtain ⟨u, k1, k2, k3⟩ := zeroCells_ren hz
              obtain ⟨b2, hb, ha'⟩ := renA_new hbk g1
              have hnoA : noA.noAs z = true := by
                obtain ⟨z2, q1, q2, rfl⟩ := zeroCells_some hz
                cases z2 with
                | agg l => cases l; simpa [noA, cellsL] using q2
                | _ => simp only [cellsL, noA.noAs]; rw [q2]
              have hrl : renOs m (repeatL n z) = some (repeatL n z) := renOs_noA m _ (repeatL_noAs hnoA n)
              obtain ⟨w', r', hrun⟩ := stCells_sound hb _ _ _ _ h w _ a' 0 r hi hst hrl (fun q => by
                subst ha'
                unfold Addr.add
                by_cases e2 : 0 + q = 0
                · rw [if_pos e2]; congr 1; omega
                · rw [if_neg e2]; congr 1; simp only; omega)
              have hzl : (Builtin.zeroCells u.cells n).toList = repeatL n z := by
                rw [← k3]
                exact zeros_row rfl
              have hn1 : n ≠ 0 := by rintro rfl; simp at hn
              refine .of_value (v' := .tuple #[]) (w' := w') ?_ (Step.set hb _) ht0 r'
              obtain ⟨n, rfl⟩ := Nat.exists_eq_succ_of_ne_zero hn1
              simp [Builtin.clear_, h0, run_und hd, run_zero k1, hzl, hrun]
            · cases e
          · cases e
        · cases e
    · cases e
  · cases e

theorem endOp_sound (r : Rel P G m F K h w) (rt : TRel m nt tm a.tmps) {o : Oper} (e : endOp P o.op tm h = some (v, h')) : OpOk P G m F K h h' v ((execOp a.eval o).run P w) := by
  obtain ⟨dst, op, type, pos, after, guard⟩ := o
  simp only at e
  unfold endOp at e
  split at e
  · rename_i args ts
    split at e
    · rename_i x t tl hl hts
      have hl' := opnds_sound rt hl
      rw [← Array.toList_map] at hl'
      obtain ⟨x', y, h1, h2, h3⟩ := renOs_cons hl'
      obtain rfl : y = [] := by simpa [renOs] using h2.symm
      have hargs : args.map a.eval = #[x'] := by apply Array.ext'; rw [h3]
      show OpOk P G m F K h h' v ((builtin .clear ts type (args.map fun | .const _ => true | _ => false) (args.map a.eval)).run P w)
      rw [hargs]
      exact clearOp_sound r hts h1 e
    · cases e
  · rename_i t x lo hi
    split at e
    · rename_i x1 lo1 hi1 h1 h2 h3
      exact sliceEnd_sound r (opnd_sound rt h1) (optOpnd_sound rt h2) (optOpnd_sound rt h3) e
    · cases e
  · cases e

theorem aop_defer {c : Go.Call} : aop P G (.defer c) tm h = none := rfl

theorem stepOp_sound (hN : NamesOk P) (hE : ExtOk P E) (hC : CallOk P G call) (r : Rel P G m F K h w) (rt : TRel m nt tm a.tmps) {o : Oper} (e : stepOp P G E call o tm h = some (v, h')) {ρ : Option Nat} {next : Act → World → Prop} {Q : Exit → Act → World → Prop}
    (hn : ∀ m' v' w', Step m m' h h' → renO m' v = some v' → Rel P G m' F K h' w' → next (a.put o.dst v') w') : o.wpIn (FR ρ) 0 P a w next Q := by
  have hnd : ∀ c, o.op ≠ .defer c := by
    intro c hc
    unfold stepOp at e
    rw [hc] at e
    simp only [aop_defer, endOp] at e
    cases e
  have hsem : (o.semAt (FR ρ).round a.eval) = execOp a.eval o := Oper.semAt_eq _ _ _ hnd
  have ofOk : OpOk P G m F K h h' v ((execOp a.eval o).run P w) → o.wpIn (FR ρ) 0 P a w next Q := by
    intro e
    obtain ⟨m', v', w', h1, h2, h3, h4⟩ := e
    refine ⟨fun _ _ => trivial, ?_⟩
    rw [hsem]
    rcases h4 with h4 | ⟨h4, rfl⟩
    · rw [h4]; exact hn m' v' w' h1 h2 h3
    · rw [h4]; exact hn m' _ w' h1 h2 h3
  unfold stepOp at e
  split at e
  · rename_i fo args ats hop
    split at e
    · rename_i f l hf hl
      split at e
      · rename_i g l2 ht
        obtain ⟨l', g1, first, captured, g2, g3⟩ := target_sound ht (opnd_sound rt hf) (opnds_sound rt hl) w
        have hex : (execOp a.eval o).run P w = (callFunc g ⟨l'⟩).run P w := by
          unfold execOp
          rw [hop]
          simp only [resolve, g2, Deferred.ofValue, pure_bind, invoke]
          rw [g3]
          congr 2
          congr 1
          apply Array.ext'
          simp
        split at e
        · rename_i fn hfn
          split at e
          · rename_i c hb
            have hrun : (callFunc g ⟨l'⟩).run P w = .ok (.enter g ⟨l'⟩) w := by
              have hne : ¬ fn.name = "runtime.NumGoroutine" := by simpa using hN g fn hfn
              simp [callFunc, hfn, hne, hb]
            refine ⟨fun _ _ => trivial, ?_⟩
            rw [hsem, hex, hrun]
            refine ⟨fun hd => by simp [FR, Fence.wide] at hd, callsIn_fr.2 ?_⟩
            refine (hC.fn g l2 h v h' e m F K w l' r g1).mono ?_
            rintro e2 w' ⟨m', v', k1, k2, k3, rfl⟩
            exact hn m' v' w' k1 k2 k3
          · split at e
            · rename_i u hu
              cases e
              obtain ⟨v', k1, k2⟩ := hE g l2 v hu m l' w g1
              refine ⟨fun _ _ => trivial, ?_⟩
              rw [hsem, hex, k2]
              exact hn m v' w (.refl m h) k1 r
            · cases e
        · cases e
      · rename_i q l2 ht
        obtain ⟨rfl, i, b, g1, g2, g3⟩ := target_yield ht (opnd_sound rt hf)
        obtain ⟨fn, tmps, assign, body, y1, y2⟩ := hC.yld q _ h v h' e ρ m F K w _ i b r (opnds_sound rt hl) g1 g2
        have hex : (execOp a.eval o).run P w = .ok (.round b.blk fn tmps assign body) w := by
          rw [← y1]
          unfold execOp
          rw [hop]
          simp only [resolve, g3, Deferred.ofValue, pure_bind, invoke]
          congr 2
          apply Array.ext'
          simp
        refine ⟨fun _ _ => trivial, ?_⟩
        rw [hsem, hex]
        refine ⟨fun hd => by simp [FR, Fence.wide] at hd, y2.mono ?_⟩
        rintro e2 w' ⟨m', v', k1, k2, k3, rfl⟩
        exact hn m' v' w' k1 k2 k3
      · cases e
    · cases e
  · split at e
    · rename_i x hx
      cases e
      exact ofOk (aop_sound r rt hx)
    · exact ofOk (endOp_sound r rt e)

theorem TRel.put (rt : TRel m nt tm a.tmps) {m' : Ren} (he : Ext m m') {dst : Option Nat} {u u' : Value} {tm' : TM} (hu : renO m' u = some u') (hp : putT tm dst nt u = some tm') : TRel m' nt tm' (a.put dst u').tmps := by
  unfold putT at hp
  cases dst with
  | none => cases hp; exact rt.mono he
  | some d =>
    dsimp only at hp
    split at hp
    · rename_i hlt
      cases hp
      refine ⟨by simp [Act.put, rt.size], fun t x ht => ?_⟩
      rw [Tr.get_set] at ht
      have hd := bltT hlt
      by_cases e : d = t
      · rw [if_pos e] at ht; cases ht; subst e
        exact ⟨u', hu, by simp [Act.put, rt.size, hd]⟩
      · rw [if_neg e] at ht
        obtain ⟨x', h1, h2⟩ := (rt.mono he).get t x ht
        exact ⟨x', h1, by simp [Act.put, Array.getElem?_setIfInBounds, e, h2]⟩
    · cases hp

theorem Act.put_defers' {dst : Option Nat} {u : Value} : (a.put dst u).defers = a.defers := by cases dst <;> rfl

theorem guardOk_sound (rt : TRel m nt tm a.tmps) {ops : Array Oper} {g : Option (Nat × Bool)} {q : Bool} (hg : guardOk ops.toList tm g = some q) {o : Oper} (ho : o.guard = g) : Region.wanted o (yielded ops a.tmps) = q := by
  unfold guardOk at hg
  unfold Region.wanted
  rw [ho]
  cases g with
  | none => cases hg; rfl
  | some p =>
    obtain ⟨j, want⟩ := p
    dsimp only at hg ⊢
    split at hg
    · rename_i o2 ho2
      have ho2' : ops[j]? = some o2 := by simpa using ho2
      split at hg
      · rename_i d hd
        split at hg
        · rename_i b hb
          cases hg
          obtain ⟨x, h1, h2⟩ := rt.get d _ hb
          obtain rfl := renO_bool h1
          simp [yielded, ho2', hd, h2]
        · rename_i l hl
          cases hg
          obtain ⟨x, h1, h2⟩ := rt.get d _ hl
          obtain ⟨l⟩ := l
          obtain ⟨l', _, rfl⟩ := renO_tupleI h1
          simp [yielded, ho2', hd, h2]
        · cases hg
      · cases hg
    · cases hg

theorem runOps_sound (hN : NamesOk P) (hE : ExtOk P E) (hC : CallOk P G call) {ρ : Option Nat} {ops : Array Oper} {Q : Exit → Act → World → Prop} : ∀ (l : List Oper) (i : Nat) (tm tm' : TM) (h h' : Hp) (m : Ren) (a : Act) (w : World), (∀ j, l[j]? = ops[i + j]?) →
    runOps P G E call ops.toList nt l tm h = some (tm', h') → Rel P G m F K h w → TRel m nt tm a.tmps →
    (∀ m' a' w', Step m m' h h' → Rel P G m' F K h' w' → TRel m' nt tm' a'.tmps → a'.defers = a.defers → Q .normal a' w') → wpOpsIn (FR ρ) 0 P ops Q (List.range' i l.length) a w := by
  intro l
  induction l with
  | nil =>
    intro i tm tm' h h' m a w _ e r rt hq
    simp only [runOps_nil, Option.some.injEq, Prod.mk.injEq] at e
    obtain ⟨rfl, rfl⟩ := e
    exact hq m a w (.refl m h) r rt rfl
  | cons o l ih =>
    intro i tm tm' h h' m a w hl e r rt hq
    have ho : ops[i]? = some o := by rw [← Nat.add_zero i, ← hl 0]; rfl
    have hl' : ∀ j, l[j]? = ops[i + 1 + j]? := fun j => by rw [show i + 1 + j = i + (j + 1) by omega, ← hl (j + 1)]; rfl
    simp only [List.length_cons, List.range'_succ, wpOpsIn, ho]
    simp only [runOps_cons, stepF_eq] at e
    split at e
    · rename_i hg
      rw [if_pos (guardOk_sound rt hg rfl)]
      split at e
      · rename_i u h2 hs
        split at e
        · rename_i tm2 hp
          refine stepOp_sound hN hE hC r rt hs fun m' v' w' k1 k2 k3 => ?_
          refine ih (i + 1) tm2 tm' h2 h' m' (a.put o.dst v') w' hl' e k3 (rt.put k1.ext k2 hp) ?_
          intro m2 a2 w2 g1 g2 g3 g4
          exact hq m2 a2 w2 (k1.trans g1) g2 g3 (g4.trans Act.put_defers')
        · cases e
      · cases e
    · rename_i hg
      rw [if_neg (by rw [guardOk_sound rt hg rfl]; decide)]
      split at e
      · rename_i tm2 hp
        refine ⟨fun _ _ => trivial, ?_⟩
        refine ih (i + 1) tm2 tm' h h' m (a.put o.dst undef) w hl' e r (rt.put (.refl m) (by simp [undef, renO, renOs]) hp) ?_
        intro m2 a2 w2 g1 g2 g3 g4
        exact hq m2 a2 w2 g1 g2 g3 (g4.trans Act.put_defers')
      · cases e
    · cases e

/-! ### code -/
/-- the rounds of a loop -/
def LoopWp (ρ : Option Nat) (P : Program) (c : Code) (Q : Exit → Act → World → Prop) (a : Act) (w : World) : Prop :=
  ∀ (b : Frame) (k : List Item) (cs : List Frame), b.roundOf = ρ → ∃ e a' w', Q e a' w' ∧ ArrivesIn (Machine.fenced P (FR ρ)) P (lone (b.atR a (.code c :: .inLoop c :: k)) cs w) b k cs e a' w'

theorem LoopWp.wp {ρ : Option Nat} {c : Code} {Q : Exit → Act → World → Prop} (hh : LoopWp ρ P c Q a w) : (Code.loop c).wpIn (FR ρ) 0 P Q a w :=
  fun b k cs hro hb hr => let ⟨e, a', w', q, r⟩ := hh b k cs hro; ⟨e, a', w', q, .of_steps (.one (fenced_calm hb hr rfl) stepR_loop) r⟩

theorem LoopWp.round {ρ : Option Nat} {c : Code} {Q : Exit → Act → World → Prop} (hh : c.wpIn (FR ρ) 0 P (Exit.then (LoopWp ρ P c Q) Q) a w) : LoopWp ρ P c Q a w := by
  intro b k cs hro
  have hb : (FR ρ).fn b.fn := trivial
  have hr : (FR ρ).room (cs.length + 1 + 0) := fr_room _ _
  obtain ⟨e, a₁, w₁, hq, harr⟩ := hh b (.inLoop c :: k) cs hro hb hr
  cases e with
  | normal =>
    obtain ⟨e₂, a₂, w₂, hq₂, harr₂⟩ := hq b k cs hro
    exact ⟨e₂, a₂, w₂, hq₂, .of_steps (StepsIn.trans harr (.one (fenced_calm hb hr rfl) stepR_inLoop)) harr₂⟩
  | exit id => exact ⟨_, a₁, w₁, hq, .pass (x := .inLoop c) rfl (fun _ _ => .inl (by simp)) harr⟩
  | goto l => exact ⟨_, a₁, w₁, hq, .pass (x := .inLoop c) rfl (fun _ _ => .inl (by simp)) harr⟩
  | ret => exact ⟨_, a₁, w₁, hq, .pass (x := .inLoop c) rfl (fun _ _ => .inl (by simp)) harr⟩
  | panic ch => exact ⟨_, a₁, w₁, hq, .pass (x := .inLoop c) rfl (fun _ _ => .inl (by simp)) harr⟩
  | outgrown => exact ⟨_, a₁, w₁, hq, .pass (x := .inLoop c) rfl (fun _ _ => .inl (by simp)) harr⟩

/-- what is to be shown behind a text that the evaluator has run -/
def Post (P : Program) (G : Nat → Option (List Value)) (ρ : Option Nat) (m : Ren) (F : Nat → Prop) (K : World) (h : Hp) (a : Act) (nt : Nat) (tm' : TM) (h' : Hp) (Q : Act → World → Prop) : Prop :=
  ∀ ds m' a' w', Step m m' h h' → Rel P G m' F K h' w' → TRel m' nt tm' a'.tmps → Marks ds K m' h' w' → a'.defers = ds.map mk ++ a.defers → (ρ.isSome = true → ds = []) → Q a' w'

theorem Post.here {ρ : Option Nat} {Q : Act → World → Prop} (hq : Post P G ρ m F K h a nt tm h Q) (r : Rel P G m F K h w) (rt : TRel m nt tm a.tmps) : Q a w :=
  hq [] m a w (.refl m h) r rt (.nil ..) rfl (fun _ => rfl)
theorem Post.plain {ρ : Option Nat} {tm' : TM} {Q : Act → World → Prop} (hq : Post P G ρ m F K h a nt tm' h' Q) {m' : Ren} {a' : Act} {w' : World} (s : Step m m' h h') (r : Rel P G m' F K h' w') (rt : TRel m' nt tm' a'.tmps) (e : a'.defers = a.defers) : Q a' w' :=
  hq [] m' a' w' s r rt (.nil ..) (by simpa using e) (fun _ => rfl)

/-- the second of two texts -/
theorem Post.next {ρ : Option Nat} {tm' : TM} {Q : Act → World → Prop} {h1 : Hp} {m1 : Ren} {a1 : Act} {w1 : World} {ds : List Nat} (hq : Post P G ρ m F K h a nt tm' h' Q)
    (s : Step m m1 h h1) (r : Rel P G m1 F K h1 w1) (k : Marks ds K m1 h1 w1) (e : a1.defers = ds.map mk ++ a.defers) (z : ρ.isSome = true → ds = []) :
    Post P G ρ m1 (fun b => F b ∨ b ∈ ds) w1 h1 a1 nt tm' h' Q := by
  intro ds2 m2 a2 w2 s2 r2 rt2 k2 e2 z2
  refine hq (ds2 ++ ds) m2 a2 w2 (s.trans s2) (r.unfence r2) rt2 (Marks.join r k r2 k2) ?_ (fun x => by rw [z x, z2 x]; rfl)
  rw [e2, e, List.map_append, List.append_assoc]

/-- what is asked of what stands for code -/
def RecOk (P : Program) (G : Nat → Option (List Value)) (rec_ : Rec) : Prop :=
  ∀ c nt tm h e tm' h', rec_ c nt tm h = some (e, tm', h') → ∀ ρ, (ρ.isSome = true → noRF c = true) → ∀ m F K a w, Rel P G m F K h w → TRel m nt tm a.tmps → ∀ Q : Exit → Act → World → Prop,
    Post P G ρ m F K h a nt tm' h' (Q (exO e)) → c.wpIn (FR ρ) 0 P Q a w ∧ ∀ b, c = .loop b → LoopWp ρ P b Q a w

def DrawnOk (P : Program) (G : Nat → Option (List Value)) (D : Drawn) : Prop :=
  ∀ call, CallOk P G call → ∀ ops nt tm h tm' h', D call ops nt tm h = some (tm', h') → ∀ ρ m F K a w id, Rel P G m F K h w → TRel m nt tm a.tmps → ∀ Q : Exit → Act → World → Prop,
    (∀ m' a' w', Step m m' h h' → Rel P G m' F K h' w' → TRel m' nt tm' a'.tmps → a'.defers = a.defers → Q .normal a' w') → (Code.region id ops true).wpIn (FR ρ) 0 P Q a w

theorem and_noRF {a b : Bool} (h : (match a with | true => b | false => false) = true) : a = true ∧ b = true := by
  cases a with
  | true => exact ⟨rfl, h⟩
  | false => cases h

theorem psOk_get {ps : List Nat} (hp : psOk nt ps = true) : ∀ p, p ∈ ps → p < nt := by
  induction ps with
  | nil => intro p hp; simp at hp
  | cons q l ih =>
    intro p hm
    simp only [psOk] at hp
    split at hp
    · rename_i hq
      rcases List.mem_cons.1 hm with rfl | hm
      · exact bltT hq
      · exact ih hp p hm
    · cases hp

theorem stO_busy {n : Nat} (h : Nat.beq n 1 = false) : stO n ≠ .busy := by
  match n with
  | 0 => simp [stO]
  | 1 => simp at h
  | n + 2 => simp [stO]

theorem runRF_sound (hN : NamesOk P) (hC : CallOk P G call) {g : Operand} {ps : Array Tmp} {assign body : Code} {e : Ex} {tm' : TM} (hrun : runRF P call g ps.toList assign body nt tm h = some (e, tm', h'))
    (r : Rel P G m F K h w) (rt : TRel m nt tm a.tmps) {Q : Exit → Act → World → Prop} (hq : Post P G none m F K h a nt tm' h' (Q (exO e))) : (Code.rangeFunc g ps assign body).wpIn (FR none) 0 P Q a w := by
  unfold runRF at hrun
  split at hrun
  · rename_i gf lb hg
    split at hrun
    · rename_i fn n1 n2 n3 hfn
      split at hrun
      · rename_i c hb
        unfold endRF at hrun
        split at hrun
        · rename_i v h2 hcall
          split at hrun
          · rename_i nt2 tm2 ps2 as2 bo2 st2 j2 ho2
            split at hrun
            · cases hrun
            · rename_i hst
              cases hrun
              -- the world with the marks' block, and with the record
              have hm0 : m h.next = none := r.len _ (Nat.le_refl _)
              have rA0 : Rel P G m F K h (w.alloc (.deferred (some []))) := r.below' (Go.RowKit.Below.alloc (.refl _ _) (Nat.le_refl _) _)
              have apD : Apart m h w.heap.size := fun j o b hj hl hb => r.fresh (Nat.le_refl _) j o b hj hl hb
              have rA : Rel P G m (fun b => F b ∨ b ∈ [w.heap.size]) (w.alloc (.deferred (some []))) h (w.alloc (.deferred (some []))) :=
                rA0.fence (ds := [w.heap.size]) (fun D hD => by simp at hD; subst hD; simp) (fun D hD => by simp at hD; subst hD; exact apD)
              have hgv := opnd_sound rt hg
              simp only [renO, renF] at hgv
              have hnil : renOs m [] = some [] := by simp [renOs]
              rw [hnil] at hgv
              split at hgv
              · rename_i fn' f1 lb' q0 q1 hlb
                cases q0
                cases q1
                have hgv' : a.eval g = .func (.func gf) ⟨[]⟩ ⟨lb'⟩ := by injection hgv with hgv; exact hgv.symm
                refine wpIn_rangeFunc fun fnid _ => ?_
                have hsz1 : (w.alloc (.deferred (some []))).heap.size = w.heap.size + 1 := World.size_alloc _ _
                have rB : Rel P G (m.up h.next ⟨w.heap.size + 1, 0, 0⟩) (fun b => F b ∨ b ∈ [w.heap.size]) (w.alloc (.deferred (some []))) { next := h.next + 1, bs := h.bs.set h.next (.loop nt tm ps.toList assign body 0 none) }
                    ((w.alloc (.deferred (some []))).alloc (.loop { state := .ready, pending := none, fn := fnid, tmps := a.tmps, params := ps, assign := assign, body := body, defers := w.heap.size })) := by
                  refine rA.grow ⟨w.heap.size + 1, 0, 0⟩ _ rfl rfl rfl (by simp) (fun k hk => Go.RowKit.Below.heap_alloc _ _ _ hk) (rA.fresh (by rw [hsz1]; exact Nat.le_refl _)) ?_
                  intro b hb
                  rw [Ren.up_same] at hb
                  cases hb
                  refine ⟨{ state := .ready, pending := none, fn := fnid, tmps := a.tmps, params := ps, assign := assign, body := body, defers := w.heap.size }, ?_, ?_, rt.size, ?_, rfl, rfl, rfl, rfl, rfl⟩
                  · rintro (hF | hF)
                    · have := (r.fr _ hF).1
                      have := r.size
                      simp only at *
                      omega
                    · simp at hF
                  · have := World.alloc_heap_new (w.alloc (.deferred (some []))) (.loop { state := .ready, pending := none, fn := fnid, tmps := a.tmps, params := ps, assign := assign, body := body, defers := w.heap.size })
                    rw [hsz1] at this
                    exact this
                  · intro t u ht
                    obtain ⟨u', x1, x2⟩ := rt.get t u ht
                    exact ⟨u', renO_mono (Ext.one hm0 _) _ _ x1, x2⟩
                have henter := run_enterLoop_outer (P := P) (w := w) fnid a.tmps ps assign body
                generalize ((w.alloc (.deferred (some []))).alloc (.loop { state := .ready, pending := none, fn := fnid, tmps := a.tmps, params := ps, assign := assign, body := body, defers := w.heap.size })) = W1 at rB henter
                refine ⟨w.heap.size + 1, [mk w.heap.size], W1, { target := .fn (.func gf) ⟨lb'⟩, args := #[.func (.yield (w.heap.size + 1)) #[] #[]] }, W1, gf, ⟨.func (.yield (w.heap.size + 1)) #[] #[] :: lb'⟩, W1, henter, ?_, fun _ _ => trivial, ?_, fun hd => by simp [FR, Fence.wide] at hd, ?_⟩
                · have hmap : (rangeCall g (w.heap.size + 1)).args.map a.eval = #[.func (.yield (w.heap.size + 1)) #[] #[]] := by
                    have hc : ∀ v, a.eval (.const v) = v := fun _ => rfl
                    simp [rangeCall, hc]
                  show (Deferred.ofValue (a.eval g) ((rangeCall g (w.heap.size + 1)).args.map a.eval) : Sem _).run P W1 = _
                  rw [hmap, hgv']
                  rfl
                · have hne : ¬ fn.name = "runtime.NumGoroutine" := by simpa using hN gf fn hfn
                  simp [invoke, callFunc, hfn, hne, hb]
                · refine callsIn_fr.2 ?_
                  have ha1 : renOs (m.up h.next ⟨w.heap.size + 1, 0, 0⟩) (.func (.yield (2 * h.next)) ⟨[]⟩ ⟨[]⟩ :: lb) = some (.func (.yield (w.heap.size + 1)) #[] #[] :: lb') := by
                    simp only [renOs, renO, renF, bk_new, Ren.up_same, renOs_mono (Ext.one hm0 ⟨w.heap.size + 1, 0, 0⟩) _ _ hlb]
                  refine (hC.fn gf _ _ v h2 hcall _ _ _ _ _ rB ha1).mono ?_
                  rintro e2 w3 ⟨m', v', s1, k2, r3, rfl⟩
                  have hmi : m' h.next = some ⟨w.heap.size + 1, 0, 0⟩ := s1.ext _ _ (Ren.up_same ..)
                  obtain ⟨rc, o1, o2, o3, o4, o5, o6, o7, o8, o9⟩ := r3.obj _ _ ho2 _ hmi
                  have hend := run_endLoop (P := P) o2 (by rw [o8]; exact stO_busy hst)
                  have r4 : Rel P G m' (fun b => F b ∨ b ∈ [w.heap.size]) (w.alloc (.deferred (some []))) { h2 with bs := h2.bs.set h.next .dead } (w3.putObj (w.heap.size + 1) (.loop { rc with state := .exhausted })) :=
                    r3.setAny ho2 trivial hmi _ trivial
                  have r5 := rA0.unfence r4
                  have stp : Step m m' h { h2 with bs := h2.bs.set h.next .dead } := ((Step.new hm0 _ _).trans s1).trans (Step.set hmi _)
                  have mks : Marks [w.heap.size] K m' { h2 with bs := h2.bs.set h.next .dead } (w3.putObj (w.heap.size + 1) (.loop { rc with state := .exhausted })) := by
                    refine ⟨by simp, fun D hD => ?_, fun D hD => r4.apart_of (.inr hD)⟩
                    have hD' := hD
                    simp at hD
                    subst hD
                    refine ⟨r.size, (r4.fr _ (.inr hD')).2.trans ?_⟩
                    exact World.alloc_heap_new _ _
                  have fin := hq [w.heap.size] m' { a with defers := [mk w.heap.size] ++ a.defers } _ stp r5 (rt.mono stp.ext) mks rfl (fun x => by cases x)
                  refine ⟨_, _, hend, ?_⟩
                  have key : ∀ (pd : Option Code) (w4 : World), pd = j2.map jmpO → Q (exO (jEx j2)) { a with defers := [mk w.heap.size] ++ a.defers } w4 → (match pd with
                      | none => Q .normal { a with defers := [mk w.heap.size] ++ a.defers } w4
                      | some c => c.wpIn (FR none) 0 P Q { a with defers := [mk w.heap.size] ++ a.defers } w4) := by
                    intro pd w4 hpd fin
                    subst hpd
                    cases j2 with
                    | none => exact fin
                    | some j =>
                      cases j with
                      | ret => exact wpIn_ret fin
                      | exit id => exact wpIn_exit fin
                  exact key _ _ o9 fin
              · cases hgv
          · cases hrun
        · cases hrun
      · cases hrun
    · cases hrun
  · cases hrun

theorem runCode_sound (hN : NamesOk P) (hE : ExtOk P E) {D : Drawn} (hD : DrawnOk P G D) (hC : CallOk P G call) {rec_ : Rec} (hR : RecOk P G rec_) : RecOk P G (runCode P G E D call rec_) := by
  intro c nt tm h e tm' h' hrun ρ hρ m F K a w r rt Q hq
  have noLoop : c.wpIn (FR ρ) 0 P Q a w → (∀ b, c ≠ .loop b) → c.wpIn (FR ρ) 0 P Q a w ∧ ∀ b, c = .loop b → LoopWp ρ P b Q a w := fun h1 h2 => ⟨h1, fun b hb => (h2 b hb).elim⟩
  cases c with
  | skip =>
    simp only [runCode, Option.some.injEq, Prod.mk.injEq] at hrun
    obtain ⟨rfl, rfl, rfl⟩ := hrun
    exact noLoop (wpIn_skip (hq.here r rt)) (by simp)
  | label l =>
    simp only [runCode, Option.some.injEq, Prod.mk.injEq] at hrun
    obtain ⟨rfl, rfl, rfl⟩ := hrun
    exact noLoop (wpIn_label (hq.here r rt)) (by simp)
  | ret =>
    simp only [runCode, Option.some.injEq, Prod.mk.injEq] at hrun
    obtain ⟨rfl, rfl, rfl⟩ := hrun
    exact noLoop (wpIn_ret (hq.here r rt)) (by simp)
  | exit id =>
    simp only [runCode, Option.some.injEq, Prod.mk.injEq] at hrun
    obtain ⟨rfl, rfl, rfl⟩ := hrun
    exact noLoop (wpIn_exit (hq.here r rt)) (by simp)
  | goto l => simp [runCode] at hrun
  | scope b => simp [runCode] at hrun
  | refuse s => simp [runCode] at hrun
  | rangeFunc g ps x y =>
    simp only [runCode] at hrun
    cases ρ with
    | some l => have := hρ rfl; simp [noRF] at this
    | none => exact noLoop (runRF_sound hN hC hrun r rt hq) (by simp)
  | region id ops draw =>
    cases draw with
    | false =>
      simp only [runCode] at hrun
      split at hrun
      · rename_i tm2 h2 hr
        cases hrun
        refine noLoop (wpIn_region ?_) (by simp)
        have := runOps_sound (ρ := ρ) (Q := Q) (F := F) (K := K) hN hE hC ops.toList 0 tm tm' h h' m a w (fun j => by simp) hr r rt (fun m' a' w' k1 k2 k3 k4 => hq.plain k1 k2 k3 k4)
        rw [List.range_eq_range']
        simpa using this
      · cases hrun
    | true =>
      simp only [runCode] at hrun
      split at hrun
      · rename_i tm2 h2 hr
        cases hrun
        exact noLoop (hD call hC ops nt tm h tm' h' hr ρ m F K a w id r rt Q (fun m' a' w' k1 k2 k3 k4 => hq.plain k1 k2 k3 k4)) (by simp)
      · cases hrun
  | seq x y =>
    simp only [runCode] at hrun
    have hx : ρ.isSome = true → noRF x = true := fun z => (and_noRF (hρ z)).1
    have hy : ρ.isSome = true → noRF y = true := fun z => (and_noRF (hρ z)).2
    refine noLoop (wpIn_seq ?_) (by simp)
    split at hrun
    · rename_i tm2 h2 h1
      refine (hR x nt tm h _ _ _ h1 ρ hx m F K a w r rt _ ?_).1
      intro ds m' a' w' k1 k2 k3 k4 k5 k6
      show (y.wpIn (FR ρ) 0 P Q) a' w'
      exact (hR y nt tm2 h2 _ _ _ hrun ρ hy m' _ w' a' w' (k4.fence k2) k3 Q (hq.next k1 k2 k4 k5 k6)).1
    · rename_i res hne
      refine (hR x nt tm h _ _ _ hrun ρ hx m F K a w r rt _ ?_).1
      intro ds m' a' w' k1 k2 k3 k4 k5 k6
      have := hq ds m' a' w' k1 k2 k3 k4 k5 k6
      cases e with
      | normal => exact (hne _ _ hrun).elim
      | _ => exact this
  | cond c x y =>
    simp only [runCode] at hrun
    have hx : ρ.isSome = true → noRF x = true := fun z => (and_noRF (hρ z)).1
    have hy : ρ.isSome = true → noRF y = true := fun z => (and_noRF (hρ z)).2
    split at hrun
    · rename_i hc
      exact noLoop (wpIn_cond_true (renO_bool (opnd_sound rt hc)) (hR x nt tm h _ _ _ hrun ρ hx m F K a w r rt Q hq).1) (by simp)
    · rename_i hc
      exact noLoop (wpIn_cond_false (renO_bool (opnd_sound rt hc)) (hR y nt tm h _ _ _ hrun ρ hy m F K a w r rt Q hq).1) (by simp)
    · cases hrun
  | block id b =>
    simp only [runCode] at hrun
    refine noLoop (wpIn_block ?_) (by simp)
    split at hrun
    · rename_i id2 tm2 h2 h1
      refine (hR b nt tm h _ _ _ h1 ρ hρ m F K a w r rt _ ?_).1
      intro ds m' a' w' k1 k2 k3 k4 k5 k6
      show (if id2 = id then Q .normal a' w' else Q (.exit id2) a' w')
      split at hrun
      · rename_i hb
        cases hrun
        rw [if_pos (beqT hb)]
        exact hq ds m' a' w' k1 k2 k3 k4 k5 k6
      · rename_i hb
        cases hrun
        rw [if_neg (fun e => by subst e; simp at hb)]
        exact hq ds m' a' w' k1 k2 k3 k4 k5 k6
    · rename_i res hne
      refine (hR b nt tm h _ _ _ hrun ρ hρ m F K a w r rt _ ?_).1
      intro ds m' a' w' k1 k2 k3 k4 k5 k6
      have := hq ds m' a' w' k1 k2 k3 k4 k5 k6
      cases e with
      | exit id2 => exact (hne _ _ _ hrun).elim
      | _ => exact this
  | loop b =>
    simp only [runCode] at hrun
    have main : LoopWp ρ P b Q a w := by
      refine LoopWp.round ?_
      split at hrun
      · rename_i tm2 h2 h1
        refine (hR b nt tm h _ _ _ h1 ρ hρ m F K a w r rt _ ?_).1
        intro ds m' a' w' k1 k2 k3 k4 k5 k6
        show LoopWp ρ P b Q a' w'
        exact (hR (.loop b) nt tm2 h2 _ _ _ hrun ρ hρ m' _ w' a' w' (k4.fence k2) k3 Q (hq.next k1 k2 k4 k5 k6)).2 b rfl
      · rename_i res hne
        refine (hR b nt tm h _ _ _ hrun ρ hρ m F K a w r rt _ ?_).1
        intro ds m' a' w' k1 k2 k3 k4 k5 k6
        have := hq ds m' a' w' k1 k2 k3 k4 k5 k6
        cases e with
        | normal => exact (hne _ _ hrun).elim
        | _ => exact this
    exact ⟨main.wp, fun b2 hb => by cases hb; exact main⟩

theorem resV_sound (r : Rel P G m F K h w) (rt : TRel m nt tm a.tmps) : ∀ {l : List ResultVar} {vs : List Value}, resV P G tm h l = some vs → ∃ vs', renOs m vs = some vs' ∧
    (l.mapM (fun x : ResultVar => match x with
    | .tmp t => pure (a.tmps.getD t undef)
    | .cell b t => do loadVar t (← asAddr (a.tmps.getD b undef)) : ResultVar → Sem Value)).run P w = .ok vs' w
  | [], vs, hh => by simp only [resV, Option.some.injEq] at hh; subst hh; exact ⟨[], by simp [renOs], by simp⟩
  | .tmp t :: l, vs, hh => by
    simp only [resV] at hh
    split at hh
    · rename_i u rest hu hr
      cases hh
      obtain ⟨vs', h1, h2⟩ := resV_sound r rt hr
      obtain ⟨u', h3, h4⟩ := rt.get t u hu
      refine ⟨u' :: vs', by simp only [renOs, h3, h1], ?_⟩
      rw [List.mapM_cons]
      simp only [Sem.run_bind, Sem.run_pure, Result.andThen_ok, h2]
      rw [Array.getD_eq_getD_getElem?, h4]; rfl
    · cases hh
  | .cell b t :: l, vs, hh => by
    simp only [resV] at hh
    split at hh
    · rename_i ad hb
      split at hh
      · rename_i u rest hu hr
        cases hh
        obtain ⟨vs', h1, h2⟩ := resV_sound r rt hr
        obtain ⟨u', h3, h4⟩ := rt.get b _ hb
        obtain ⟨ad', h5, rfl⟩ := renO_pointer h3
        obtain ⟨u2, h6, h7⟩ := ld_sound r hu h5
        refine ⟨u2 :: vs', by simp only [renOs, h6, h1], ?_⟩
        rw [List.mapM_cons]
        have h8 : (do loadVar t (← asAddr (a.tmps.getD b undef)) : Sem Value).run P w = .ok u2 w := by
          rw [Array.getD_eq_getD_getElem?, h4]; simp [asAddr, h7]
        simp only [Sem.run_bind] at h8
        simp only [Sem.run_bind, Sem.run_pure, Result.andThen_ok, h2, h8]
      · cases hh
    · cases hh

theorem finish_sound (r : Rel P G m F K h w) (rt : TRel m nt tm a.tmps) {fn : Func} (hf : finish P G tm h fn.results.toList = some (v, h')) : h' = h ∧ ∃ v', renO m v = some v' ∧ (results fn a.tmps).run P w = .ok v' w := by
  unfold finish at hf
  split at hf
  · rename_i u hr
    cases hf
    obtain ⟨vs', h1, h2⟩ := resV_sound (a := a) r rt hr
    obtain ⟨x, y, g1, g2, rfl⟩ := renOs_cons h1
    obtain rfl : y = [] := by simpa [renOs] using g2.symm
    refine ⟨rfl, x, g1, ?_⟩
    simp only [results, Sem.run_bind]
    rw [Array.mapM_eq_mapM_toList]
    simp only [Sem.run_map, Sem.run_pure]
    erw [h2]
    rfl
  · rename_i l hne hr
    cases hf
    obtain ⟨vs', h1, h2⟩ := resV_sound (a := a) r rt hr
    refine ⟨rfl, .tuple ⟨vs'⟩, by simp only [renO, h1], ?_⟩
    simp only [results, Sem.run_bind]
    rw [Array.mapM_eq_mapM_toList]
    simp only [Sem.run_map, Sem.run_pure]
    erw [h2]
    simp only [Result.andThen_ok]
    have hlen := renOs_length h1
    have hl1 : ¬ (vs'.toArray.size = 1) := by
      simp only [List.size_toArray]
      rw [hlen]
      intro h1l
      obtain ⟨u, rfl⟩ := List.length_eq_one_iff.1 h1l
      exact hne u rfl
    rw [dif_neg hl1]
  · cases hf

theorem callFn_sound {rec_ : Rec} (hR : RecOk P G rec_) {f : FuncId} {args : List Value} (e : callFn P G rec_ f args h = some (v, h')) {args' : List Value} (r : Rel P G m F K h w) (ha : renOs m args = some args') :
    Calls P f ⟨args'⟩ w (CallPost P G m F K h h' v) := by
  unfold callFn at e
  split at e
  · cases e
  · rename_i fn hfn
    split at e
    · cases e
    · rename_i c hb
      split at e
      · cases e
      · rename_i hle
        have hle := bleT hle
        have hlen := renOs_length ha
        have rt0 : TRel m fn.ntmps (Tr.putL .e 0 args) ((⟨args'⟩ : Array Value) ++ Array.replicate (fn.ntmps - (⟨args'⟩ : Array Value).size) undef) := by
          refine ⟨by simp; omega, fun t x ht => ?_⟩
          rw [Tr.get_putL] at ht
          by_cases hk : 0 ≤ t ∧ t < 0 + args.length
          · rw [if_pos hk, Nat.sub_zero] at ht
            obtain ⟨x', h1, h2⟩ := renOs_get ha t x ht
            refine ⟨x', h1, ?_⟩
            rw [Array.getElem?_append_left (by simp; omega)]
            simpa using h2
          · rw [if_neg hk] at ht; cases ht
        refine (callsIn_fr (ρ := none) (n := 0)).1 (callsIn_of_wp_marks hfn hb trivial ?_)
        have fin : ∀ (tm2 : TM) (h2 : Hp) (ds : List Nat) (m' : Ren) (a' : Act) (w' : World), finish P G tm2 h2 fn.results.toList = some (v, h') → Step m m' h h2 → Rel P G m' F K h2 w' → TRel m' fn.ntmps tm2 a'.tmps → Marks ds K m' h2 w' → a'.defers = ds.map mk ++ [] →
            LeavesInM (FR none) 0 P fn a'.tmps (CallPost P G m F K h h' v) a'.defers .returning w' := by
          intro tm2 h2 ds m' a' w' e k1 k2 k3 k4 k5
          rw [k5, List.append_nil]
          refine leaves_marks ds w' k4 k2 fun w2 r2 => ?_
          obtain ⟨rfl, v', g1, g2⟩ := finish_sound r2 k3 e
          exact ⟨v', g2, m', v', k1, g1, r2, rfl⟩
        split at e
        · rename_i tm2 h2 hr
          refine (hR c fn.ntmps _ h _ _ _ hr none (fun z => by cases z) m F K { tmps := _, defers := [] } w r rt0 _ ?_).1
          intro ds m' a' w' k1 k2 k3 k4 k5 k6
          exact fin tm2 h2 ds m' a' w' e k1 k2 k3 k4 k5
        · rename_i tm2 h2 hr
          refine (hR c fn.ntmps _ h _ _ _ hr none (fun z => by cases z) m F K { tmps := _, defers := [] } w r rt0 _ ?_).1
          intro ds m' a' w' k1 k2 k3 k4 k5 k6
          exact fin tm2 h2 ds m' a' w' e k1 k2 k3 k4 k5
        · cases e

theorem setPs_sound : ∀ {ps : List Nat} {args args' : List Value} {tm tm' : TM} {tmps : Array Value}, psOk nt ps = true → setPs tm ps args = some tm' → renOs m args = some args' → TRel m nt tm tmps →
    ps.length = args'.length ∧ TRel m nt tm' ((ps.zip args').foldl (fun tmps (t, a) => tmps.setIfInBounds t a) tmps)
  | [], [], args', tm, tm', tmps, hp, hs, ha, rt => by
    simp only [setPs, Option.some.injEq] at hs
    subst hs
    simp only [renOs, Option.some.injEq] at ha
    subst ha
    exact ⟨rfl, rt⟩
  | p :: ps, u :: args, args', tm, tm', tmps, hp, hs, ha, rt => by
    obtain ⟨x, y, h1, h2, rfl⟩ := renOs_cons ha
    simp only [setPs] at hs
    simp only [psOk] at hp
    split at hp
    · rename_i hpn
      have hpn := bltT hpn
      have rt2 : TRel m nt (tm.set p u) (tmps.setIfInBounds p x) := by
        refine ⟨by simp [rt.size], fun t z ht => ?_⟩
        rw [Tr.get_set] at ht
        by_cases e : p = t
        · rw [if_pos e] at ht; cases ht; subst e
          exact ⟨x, h1, by simp [rt.size, hpn]⟩
        · rw [if_neg e] at ht
          obtain ⟨z', q1, q2⟩ := rt.get t z ht
          exact ⟨z', q1, by simp [Array.getElem?_setIfInBounds, e, q2]⟩
      obtain ⟨k1, k2⟩ := setPs_sound hp hs h2 rt2
      exact ⟨by simp [k1], k2⟩
    · cases hp
  | [], _ :: _, _, _, _, _, _, hs, _, _ => by simp [setPs] at hs
  | _ :: _, [], _, _, _, _, _, hs, _, _ => by simp [setPs] at hs

theorem yldF_sound {rec_ : Rec} (hR : RecOk P G rec_) {q : Nat} {args : List Value} (e : yldF rec_ q args h = some (v, h')) {args' : List Value} (ρ : Option Nat) {i : Nat} {b : BI} (r : Rel P G m F K h w) (ha : renOs m args = some args')
    (hq : bk q = .new i) (hb : m i = some b) : YieldAt (FR ρ) 0 P b.blk ⟨args'⟩ w (CallPost P G m F K h h' v) := by
  unfold yldF at e
  rw [hq] at e
  dsimp only at e
  split at e
  · rename_i nt tm ps assign body j0 ho
    split at e
    · rename_i tm0 n1 n2 n3 hset
      split at e
      · rename_i tm1 h1 hr1
        split at e
        · rename_i nt2 tm2 ps2 as2 bo2 j2 ho2
          obtain ⟨rc, o1, o2, o3, o4, o5, o6, o7, o8, o9⟩ := r.obj _ _ ho _ hb
          have rtr : TRel m nt tm rc.tmps := ⟨o3, o4⟩
          obtain ⟨k1, k2⟩ := setPs_sound n3 hset ha rtr
          refine ⟨rc.fn, _, rc.assign, rc.body, run_yield o2 (by rw [← Array.length_toList, ← Array.length_toList, o5]; exact k1.symm), ?_⟩
          have hz : (rc.params.zip (⟨args'⟩ : Array Value)).foldl (fun tmps (t, a) => tmps.setIfInBounds t a) rc.tmps = (ps.zip args').foldl (fun tmps (t, a) => tmps.setIfInBounds t a) rc.tmps := by
            rw [← Array.foldl_toList, Array.toList_zip, o5]
          rw [hz, o6, o7]
          refine roundIn_of_wpIn trivial ?_
          refine (hR assign nt tm0 h _ _ _ hr1 (some b.blk) (fun _ => n1) m F K { tmps := _, defers := [] } w r k2 _ ?_).1
          intro ds m1 a1 w1 s1 r1 t1 mk1 de1 z1
          have hb1 := s1.ext _ _ hb
          obtain ⟨rc1, p1, p2, p3, p4, p5, p6, p7, p8, p9⟩ := r1.obj _ _ ho2 _ hb1
          refine ⟨_, run_beginRound p2 p8, ?_⟩
          have r2 : Rel P G m1 F K { h1 with bs := h1.bs.set i (.loop nt2 tm2 ps2 as2 bo2 1 j2) } (w1.putObj b.blk (.loop { rc1 with state := .busy })) :=
            r1.setAny ho2 trivial hb1 _ (fun b2 hb2 => by
              rw [hb1] at hb2; cases hb2
              exact ⟨_, p1, World.putObj_heap_same (getElem?_lt' p2), p3, p4, p5, p6, p7, rfl, p9⟩)
          unfold endYld at e
          split at e
          · rename_i ex tm3 h3 hr3
            split at e
            · rename_i nt4 tm4 ps4 as4 bo4 j4 j ho4 hj
              cases e
              refine (hR body nt tm1 _ _ _ _ hr3 (some b.blk) (fun _ => n2) m1 F K a1 _ r2 t1 _ ?_).1
              intro ds3 m3 a3 w3 s3 r3 t3 mk3 de3 z3
              have hb3 := s3.ext _ _ hb1
              obtain ⟨rc3, q1, q2, q3, q4, q5, q6, q7, q8, q9⟩ := r3.obj _ _ ho4 _ hb3
              have stp : ∀ o, Step m m3 h { h3 with bs := h3.bs.set i o } := fun o => ((s1.trans (Step.set hb1 _)).trans s3).trans (Step.set hb3 o)
              have key : ∀ (j : Option Jmp), ∃ v w', (Instr.endRound b.blk (j.map jmpO)).run P w3 = .ok v w' ∧
                  CallPost P G m F K h { h3 with bs := h3.bs.set i (.loop nt4 tm4 ps4 as4 bo4 (match j with | none => 0 | some _ => 2) j) } (.bool j.isNone) (.returned v) w' := by
                intro j
                refine ⟨_, _, run_endRound (j.map jmpO) q2, m3, .bool (j.map jmpO).isNone, stp _, by cases j <;> simp [renO], ?_, rfl⟩
                refine r3.setAny ho4 trivial hb3 _ (fun b2 hb2 => ?_)
                rw [hb3] at hb2; cases hb2
                refine ⟨_, q1, World.putObj_heap_same (getElem?_lt' q2), q3, q4, q5, q6, q7, ?_, rfl⟩
                cases j <;> simp [stO]
              cases ex with
              | normal => cases hj; exact key none
              | ret => cases hj; exact key (some .ret)
              | exit id => cases hj; exact key (some (.exit id))
              | goto l => cases hj
            · cases e
          · cases e
        · cases e
      · cases e
    · cases e
  · cases e

theorem callF_sound {rec_ : Rec} (hR : RecOk P G rec_) : CallOk P G (callF P G rec_) where
  fn := fun f args h v h' e m F K w args' r ha => callFn_sound hR e r ha
  yld := fun q args h v h' e ρ m F K w args' i b r ha hq hb => yldF_sound hR e ρ r ha hq hb

theorem run_sound (hN : NamesOk P) (hE : ExtOk P E) {D : Drawn} (hD : DrawnOk P G D) : ∀ n, RecOk P G (run P G E D n)
  | 0 => fun c nt tm h e tm' h' hrun => by cases hrun
  | n + 1 => runCode_sound hN hE hD (callF_sound (run_sound hN hE hD n)) (run_sound hN hE hD n)
end
end Go.Sim


namespace Go.Sim
noncomputable section

/-! ## The same evaluator, laid out for the kernel: what hangs on the program's text alone is worked out once ('closures', which the kernel keeps) -/

/-- what goes on with a value and memory -/
abbrev Kt := Value → Hp → Option (TM × Hp)
def bindK (r : Option (Value × Hp)) (k : Kt) : Option (TM × Hp) := Option.rec (motive := fun _ => Option (TM × Hp)) none (fun p => k p.1 p.2) r
theorem bindK_some (p : Value × Hp) (k : Kt) : bindK (some p) k = k p.1 p.2 := rfl
theorem bindK_none (k : Kt) : bindK none k = none := rfl
def optK {α : Type} (r : Option α) (k : α → Option (TM × Hp)) : Option (TM × Hp) := Option.rec (motive := fun _ => Option (TM × Hp)) none k r
theorem optK_some {α : Type} (x : α) (k : α → Option (TM × Hp)) : optK (some x) k = k x := rfl
theorem optK_none {α : Type} (k : α → Option (TM × Hp)) : optK none k = none := rfl

def optV (r : Option Value) (k : Value → Option (TM × Hp)) : Option (TM × Hp) := Option.rec (motive := fun _ => Option (TM × Hp)) none k r
def optL (r : Option (List Value)) (k : List Value → Option (TM × Hp)) : Option (TM × Hp) := Option.rec (motive := fun _ => Option (TM × Hp)) none k r
def optN (r : Option Nat) (k : Nat → Option (TM × Hp)) : Option (TM × Hp) := Option.rec (motive := fun _ => Option (TM × Hp)) none k r

structure CV where
  f : TM → Option Value
structure CVs where
  f : TM → Option (List Value)
structure CS where
  f : TM → Value → TM
structure CO where
  f : Call → TM → Hp → Kt → Option (TM × Hp)
structure CL where
  f : Call → TM → Hp → Option (TM × Hp)

/-! ### the frame -/
def tmL (t : Tr Value) : Tr Value := Tr.rec (motive := fun _ => Tr Value) .e (fun l _ _ _ _ => l) t
def tmR (t : Tr Value) : Tr Value := Tr.rec (motive := fun _ => Tr Value) .e (fun _ _ r _ _ => r) t
def tmV (t : Tr Value) : Option Value := Tr.rec (motive := fun _ => Option Value) none (fun _ v _ _ _ => v) t
def hpL (t : Tr AObj) : Tr AObj := Tr.rec (motive := fun _ => Tr AObj) .e (fun l _ _ _ _ => l) t
def hpR (t : Tr AObj) : Tr AObj := Tr.rec (motive := fun _ => Tr AObj) .e (fun _ _ r _ _ => r) t
def hpV (t : Tr AObj) : Option AObj := Tr.rec (motive := fun _ => Option AObj) none (fun _ v _ _ _ => v) t
/-- the tries' own functions, at one type -/
def hGet (t : Tr AObj) (k : Nat) : Option AObj :=
  Tr.rec (motive := fun _ => Nat → Option AObj) (fun _ => none) (fun _ v _ gl gr k => Bool.rec (motive := fun _ => Option AObj) (Bool.rec (motive := fun _ => Option AObj) (gr (Nat.sub (Nat.div k (nat_lit 2)) (nat_lit 1))) (gl (Nat.div k (nat_lit 2))) (Nat.beq (Nat.mod k (nat_lit 2)) (nat_lit 1))) v (Nat.beq k (nat_lit 0))) t k
theorem hGet_eq (t : Tr AObj) (k : Nat) : hGet t k = t.get k := rfl
def cGet (t : Tr Value) (k : Nat) : Option Value :=
  Tr.rec (motive := fun _ => Nat → Option Value) (fun _ => none) (fun _ v _ gl gr k => Bool.rec (motive := fun _ => Option Value) (Bool.rec (motive := fun _ => Option Value) (gr (Nat.sub (Nat.div k (nat_lit 2)) (nat_lit 1))) (gl (Nat.div k (nat_lit 2))) (Nat.beq (Nat.mod k (nat_lit 2)) (nat_lit 1))) v (Nat.beq k (nat_lit 0))) t k
theorem cGet_eq (t : Tr Value) (k : Nat) : cGet t k = t.get k := rfl
def hSetF (v : AObj) (f : Nat) (t : Tr AObj) (k : Nat) : Tr AObj :=
  Nat.rec (motive := fun _ => Tr AObj → Nat → Tr AObj) (fun t _ => t) (fun _ ih t k =>
    Bool.rec (motive := fun _ => Tr AObj) (Bool.rec (motive := fun _ => Tr AObj) (.n (hpL t) (hpV t) (ih (hpR t) (Nat.sub (Nat.div k (nat_lit 2)) (nat_lit 1)))) (.n (ih (hpL t) (Nat.div k (nat_lit 2))) (hpV t) (hpR t)) (Nat.beq (Nat.mod k (nat_lit 2)) (nat_lit 1))) (.n (hpL t) (some v) (hpR t)) (Nat.beq k (nat_lit 0))) f t k
theorem hSetF_eq (v : AObj) : ∀ (f : Nat) (t : Tr AObj) (k : Nat), hSetF v f t k = Tr.setF v f t k := by
  intro f
  induction f with
  | zero => intro t k; rfl
  | succ f ih =>
    intro t k
    show Bool.rec (motive := fun _ => Tr AObj) (Bool.rec (motive := fun _ => Tr AObj) (.n (hpL t) (hpV t) (hSetF v f (hpR t) (k / 2 - 1))) (.n (hSetF v f (hpL t) (k / 2)) (hpV t) (hpR t)) (Nat.beq (k % 2) 1)) (.n (hpL t) (some v) (hpR t)) (Nat.beq k 0) = _
    rw [Tr.setF_succ]
    cases Nat.beq k 0 <;> cases Nat.beq (k % 2) 1 <;> cases t <;> first | rfl | (simp only [ih]; rfl)
def hSet (t : Tr AObj) (k : Nat) (v : AObj) : Tr AObj := hSetF v (Nat.succ k) t k
theorem hSet_eq (t : Tr AObj) (k : Nat) (v : AObj) : hSet t k v = t.set k v := hSetF_eq v _ _ _
def cSetF (v : Value) (f : Nat) (t : Tr Value) (k : Nat) : Tr Value :=
  Nat.rec (motive := fun _ => Tr Value → Nat → Tr Value) (fun t _ => t) (fun _ ih t k =>
    Bool.rec (motive := fun _ => Tr Value) (Bool.rec (motive := fun _ => Tr Value) (.n (tmL t) (tmV t) (ih (tmR t) (Nat.sub (Nat.div k (nat_lit 2)) (nat_lit 1)))) (.n (ih (tmL t) (Nat.div k (nat_lit 2))) (tmV t) (tmR t)) (Nat.beq (Nat.mod k (nat_lit 2)) (nat_lit 1))) (.n (tmL t) (some v) (tmR t)) (Nat.beq k (nat_lit 0))) f t k
theorem cSetF_eq (v : Value) : ∀ (f : Nat) (t : Tr Value) (k : Nat), cSetF v f t k = Tr.setF v f t k := by
  intro f
  induction f with
  | zero => intro t k; rfl
  | succ f ih =>
    intro t k
    show Bool.rec (motive := fun _ => Tr Value) (Bool.rec (motive := fun _ => Tr Value) (.n (tmL t) (tmV t) (cSetF v f (tmR t) (k / 2 - 1))) (.n (cSetF v f (tmL t) (k / 2)) (tmV t) (tmR t)) (Nat.beq (k % 2) 1)) (.n (tmL t) (some v) (tmR t)) (Nat.beq k 0) = _
    rw [Tr.setF_succ]
    cases Nat.beq k 0 <;> cases Nat.beq (k % 2) 1 <;> cases t <;> first | rfl | (simp only [ih]; rfl)
def cSet (t : Tr Value) (k : Nat) (v : Value) : Tr Value := cSetF v (Nat.succ k) t k
theorem cSet_eq (t : Tr Value) (k : Nat) (v : Value) : cSet t k v = t.set k v := cSetF_eq v _ _ _
def cPutL (t : Tr Value) (k : Nat) (l : List Value) : Tr Value := List.rec (motive := fun _ => Tr Value → Nat → Tr Value) (fun t _ => t) (fun v _ ih t k => ih (cSet t k v) (Nat.succ k)) l t k
theorem cPutL_eq : ∀ (l : List Value) (t : Tr Value) (k : Nat), cPutL t k l = t.putL k l
  | [], _, _ => rfl
  | v :: l, t, k => by
    rw [Tr.putL_cons, ← cSet_eq]
    exact cPutL_eq l _ _

def getC (n k : Nat) : CV := Nat.rec (motive := fun _ => Nat → CV) (fun _ => ⟨fun _ => none⟩) (fun _ ih k =>
  Bool.rec (motive := fun _ => CV) (Bool.rec (motive := fun _ => CV) ⟨fun tm => (ih (Nat.sub (Nat.div k (nat_lit 2)) (nat_lit 1))).f (tmR tm)⟩ ⟨fun tm => (ih (Nat.div k (nat_lit 2))).f (tmL tm)⟩ (Nat.beq (Nat.mod k (nat_lit 2)) (nat_lit 1))) ⟨tmV⟩ (Nat.beq k (nat_lit 0))) n k
theorem getC_eq : ∀ (n k : Nat) (tm : TM), k < n → (getC n k).f tm = tm.get k := by
  intro n
  induction n with
  | zero => intro k tm h; omega
  | succ n ih =>
    intro k tm h
    show (Bool.rec (motive := fun _ => CV) (Bool.rec (motive := fun _ => CV) ⟨fun tm => (getC n (k / 2 - 1)).f (tmR tm)⟩ ⟨fun tm => (getC n (k / 2)).f (tmL tm)⟩ (Nat.beq (k % 2) 1)) ⟨tmV⟩ (Nat.beq k 0) : CV).f tm = tm.get k
    cases tm with
    | e =>
      rw [Tr.get_e]
      by_cases h0 : k = 0
      · subst h0; rfl
      · rw [beqF h0]
        by_cases h1 : k % 2 = 1
        · rw [h1]; exact (ih (k / 2) .e (by omega)).trans (Tr.get_e _)
        · rw [beqF h1]; exact (ih (k / 2 - 1) .e (by omega)).trans (Tr.get_e _)
    | n l v r =>
      rw [Tr.get_n]
      by_cases h0 : k = 0
      · subst h0; rfl
      · rw [beqF h0]
        by_cases h1 : k % 2 = 1
        · rw [h1]; exact ih (k / 2) l (by omega)
        · rw [beqF h1]; exact ih (k / 2 - 1) r (by omega)

def setC (n k : Nat) : CS := Nat.rec (motive := fun _ => Nat → CS) (fun _ => ⟨fun tm _ => tm⟩) (fun _ ih k =>
  Bool.rec (motive := fun _ => CS) (Bool.rec (motive := fun _ => CS) ⟨fun tm v => .n (tmL tm) (tmV tm) ((ih (Nat.sub (Nat.div k (nat_lit 2)) (nat_lit 1))).f (tmR tm) v)⟩ ⟨fun tm v => .n ((ih (Nat.div k (nat_lit 2))).f (tmL tm) v) (tmV tm) (tmR tm)⟩ (Nat.beq (Nat.mod k (nat_lit 2)) (nat_lit 1)))
    ⟨fun tm v => .n (tmL tm) (some v) (tmR tm)⟩ (Nat.beq k (nat_lit 0))) n k
theorem setC_eq (v : Value) : ∀ (n k : Nat) (tm : TM), (setC n k).f tm v = Tr.setF v n tm k := by
  intro n
  induction n with
  | zero => intro k tm; rfl
  | succ n ih =>
    intro k tm
    show (Bool.rec (motive := fun _ => CS) (Bool.rec (motive := fun _ => CS) ⟨fun tm v => .n (tmL tm) (tmV tm) ((setC n (k / 2 - 1)).f (tmR tm) v)⟩ ⟨fun tm v => .n ((setC n (k / 2)).f (tmL tm) v) (tmV tm) (tmR tm)⟩ (Nat.beq (k % 2) 1))
      ⟨fun tm v => .n (tmL tm) (some v) (tmR tm)⟩ (Nat.beq k 0) : CS).f tm v = _
    rw [Tr.setF_succ]
    cases hb : Nat.beq k 0 with
    | true => cases tm <;> rfl
    | false =>
      cases hc : Nat.beq (k % 2) 1 with
      | true =>
        cases tm with
        | e => show Tr.n ((setC n (k / 2)).f .e v) none .e = _; rw [ih]
        | n l u r => show Tr.n ((setC n (k / 2)).f l v) u r = _; rw [ih]
      | false =>
        cases tm with
        | e => show Tr.n .e none ((setC n (k / 2 - 1)).f .e v) = _; rw [ih]
        | n l u r => show Tr.n l u ((setC n (k / 2 - 1)).f r v) = _; rw [ih]
theorem setC_set (k : Nat) (tm : TM) (v : Value) : (setC (Nat.succ k) k).f tm v = tm.set k v := setC_eq v _ _ _

def compX (x : Operand) : CV := match x with
  | .tmp t => getC (Nat.succ t) t
  | .const v => Bool.rec (motive := fun _ => CV) ⟨fun _ => none⟩ ⟨fun _ => some v⟩ (noA v)
  | .global g => ⟨fun _ => some (.pointer (some ⟨Nat.succ (Nat.mul (nat_lit 2) g), nat_lit 0, none⟩))⟩
  | .func f => ⟨fun _ => some (.func (.func f) #[] #[])⟩
theorem compX_eq (x : Operand) (tm : TM) : (compX x).f tm = opnd tm x := by
  cases x with
  | tmp t => exact getC_eq _ _ _ (Nat.lt_succ_self t)
  | const v =>
    show (Bool.rec (motive := fun _ => CV) ⟨fun _ => none⟩ ⟨fun _ => some v⟩ (noA v) : CV).f tm = (match noA v with | true => some v | false => none)
    cases noA v <;> rfl
  | global g => rfl
  | func f => rfl

def consO (v : Option Value) (l : Option (List Value)) : Option (List Value) := Option.rec (motive := fun _ => Option (List Value)) none (fun v => Option.rec (motive := fun _ => Option (List Value)) none (fun l => some (v :: l)) l) v
def compXs (l : List Operand) : CVs := List.rec (motive := fun _ => CVs) ⟨fun _ => some []⟩ (fun x _ ih => ⟨fun tm => consO ((compX x).f tm) (ih.f tm)⟩) l
theorem compXs_eq (tm : TM) : ∀ (l : List Operand), (compXs l).f tm = opnds tm l
  | [] => rfl
  | x :: l => by
    rw [opnds_cons]
    show consO ((compX x).f tm) ((compXs l).f tm) = _
    rw [compX_eq, compXs_eq tm l]
    cases opnd tm x with
    | none => rfl
    | some v => cases opnds tm l <;> rfl

/-! ### views of a value: the branches are closed texts -/
inductive VI where
  | no
  | at (k : IntKind) (n : Int)
def asInt (v : Value) : VI := Value.rec (motive_1 := fun _ => VI) (motive_2 := fun _ => VI) (motive_3 := fun _ => VI) (fun _ => .no) (fun k n => .at k n) (fun _ _ => .no) (fun _ _ _ => .no) (fun _ => .no) (fun _ => .no) (fun _ _ _ => .no) (fun _ => .no) (fun _ => .no) (fun _ _ _ _ _ => .no) .no (fun _ _ _ => .no) .no (fun _ _ => .no) (fun _ _ => .no) (fun _ _ => .no) .no (fun _ _ _ _ => .no) v
inductive VP where
  | no
  | at (a : Addr)
def optP (a : Option Addr) : VP := Option.rec (motive := fun _ => VP) .no (fun a => .at a) a
def asPtr (v : Value) : VP := Value.rec (motive_1 := fun _ => VP) (motive_2 := fun _ => VP) (motive_3 := fun _ => VP) (fun _ => .no) (fun _ _ => .no) (fun _ _ => .no) (fun _ _ _ => .no) (fun _ => .no) (fun a => optP a) (fun _ _ _ => .no) (fun _ => .no) (fun _ => .no) (fun _ _ _ _ _ => .no) .no (fun _ _ _ => .no) .no (fun _ _ => .no) (fun _ _ => .no) (fun _ _ => .no) .no (fun _ _ _ _ => .no) v
inductive VB where
  | no
  | at (b : Bool)
def asBool (v : Value) : VB := Value.rec (motive_1 := fun _ => VB) (motive_2 := fun _ => VB) (motive_3 := fun _ => VB) (fun b => .at b) (fun _ _ => .no) (fun _ _ => .no) (fun _ _ _ => .no) (fun _ => .no) (fun _ => .no) (fun _ _ _ => .no) (fun _ => .no) (fun _ => .no) (fun _ _ _ _ _ => .no) .no (fun _ _ _ => .no) .no (fun _ _ => .no) (fun _ _ => .no) (fun _ _ => .no) .no (fun _ _ _ _ => .no) v
inductive VS where
  | no
  | at (a : Option Addr) (n c : Nat)
def asSlice (v : Value) : VS := Value.rec (motive_1 := fun _ => VS) (motive_2 := fun _ => VS) (motive_3 := fun _ => VS) (fun _ => .no) (fun _ _ => .no) (fun _ _ => .no) (fun _ _ _ => .no) (fun _ => .no) (fun _ => .no) (fun a n c => .at a n c) (fun _ => .no) (fun _ => .no) (fun _ _ _ _ _ => .no) .no (fun _ _ _ => .no) .no (fun _ _ => .no) (fun _ _ => .no) (fun _ _ => .no) .no (fun _ _ _ _ => .no) v
inductive VA where
  | no
  | at (l : List Value)
def asAgg (v : Value) : VA := Value.rec (motive_1 := fun _ => VA) (motive_2 := fun _ => VA) (motive_3 := fun _ => VA) (fun _ => .no) (fun _ _ => .no) (fun _ _ => .no) (fun _ _ _ => .no) (fun _ => .no) (fun _ => .no) (fun _ _ _ => .no) (fun _ => .no) (fun _ => .no) (fun _ _ _ _ _ => .no) .no (fun _ _ _ => .no) .no (fun l _ => .at l.toList) (fun _ _ => .no) (fun _ _ => .no) .no (fun _ _ _ _ => .no) v
def asTup (v : Value) : VA := Value.rec (motive_1 := fun _ => VA) (motive_2 := fun _ => VA) (motive_3 := fun _ => VA) (fun _ => .no) (fun _ _ => .no) (fun _ _ => .no) (fun _ _ _ => .no) (fun _ => .no) (fun _ => .no) (fun _ _ _ => .no) (fun _ => .no) (fun _ => .no) (fun _ _ _ _ _ => .no) .no (fun _ _ _ => .no) .no (fun _ _ => .no) (fun l _ => .at l.toList) (fun _ _ => .no) .no (fun _ _ _ _ => .no) v
inductive VO where
  | no
  | cells (size : Nat) (ty : TypeId) (cs : Tr Value)
def asCells (o : Option AObj) : VO := Option.rec (motive := fun _ => VO) .no (fun o => AObj.rec (motive := fun _ => VO) (fun s t c => .cells s t c) (fun _ => .no) .no (fun _ _ _ _ _ _ _ => .no) o) o
def natI (n : Int) : Option Nat := Int.rec (motive := fun _ => Option Nat) (fun n => some n) (fun _ => none) n
def asNat (v : Value) : Option Nat := Value.rec (motive_1 := fun _ => Option Nat) (motive_2 := fun _ => Option Nat) (motive_3 := fun _ => Option Nat) (fun _ => none) (fun _ n => natI n) (fun _ _ => none) (fun _ _ _ => none) (fun _ => none) (fun _ => none) (fun _ _ _ => none) (fun _ => none) (fun _ => none) (fun _ _ _ _ _ => none) none (fun _ _ _ => none) none (fun _ _ => none) (fun _ _ => none) (fun _ _ => none) none (fun _ _ _ _ => none) v
theorem asNat_eq (v : Value) : asNat v = natOf v := by
  cases v with
  | int k n => cases n <;> rfl
  | _ => rfl
/-- of one cell -/
def oneC (v : Value) : Bool := Value.rec (motive_1 := fun _ => Bool) (motive_2 := fun _ => Bool) (motive_3 := fun _ => Bool) (fun _ => true) (fun _ _ => true) (fun _ _ => true) (fun _ _ _ => true) (fun _ => true) (fun _ => true) (fun _ _ _ => true) (fun _ => true) (fun _ => true) (fun _ _ _ _ _ => true) true (fun _ _ _ => true) true (fun _ _ => false) (fun _ _ => false) (fun _ _ => true) true (fun _ _ _ _ => true) v
theorem oneC_eq (v : Value) : oneC v = oneCell v := by cases v <;> rfl

/-! ### the program's tables as tries -/
def fnT (P : Program) : Tr Func := Tr.putL .e (nat_lit 0) P.funcs.toList
def fnAt (P : Program) (f : Nat) : Option Func := (fnT P).get f
theorem putL_get {α : Type} (l : List α) (j : Nat) : (Tr.putL .e 0 l).get j = l[j]? := by
  rw [Tr.get_putL]
  by_cases h : j < l.length
  · rw [if_pos (by omega)]; simp
  · rw [if_neg (by omega), Tr.get_e]
    exact (List.getElem?_eq_none (by omega)).symm
theorem fnAt_eq (P : Program) (f : Nat) : fnAt P f = P.funcs[f]? := by
  unfold fnAt fnT
  rw [putL_get, Array.getElem?_toList]
def tyT (P : Program) : Tr TypeInfo := Tr.putL .e (nat_lit 0) P.types.toList
def tyAt (P : Program) (t : TypeId) : Option TypeInfo := match (tyT P).get t with
  | some i => some i
  | none => P.info? t
theorem tyAt_eq (P : Program) (t : TypeId) : tyAt P t = P.info? t := by
  unfold tyAt tyT
  rw [putL_get, Array.getElem?_toList]
  cases h : P.types[t]? with
  | none => rfl
  | some i =>
    have hlt : t < P.types.size := (Array.getElem?_eq_some_iff.1 h).1
    show some i = P.info? t
    unfold Tables.info?
    rw [if_pos hlt, h]
def szF (P : Program) (t : TypeId) : Option Nat := match tyAt P t with
  | some i => some i.size
  | none => none
theorem szF_eq (P : Program) (t : TypeId) : szF P t = szOf P t := by unfold szF szOf; rw [tyAt_eq]; cases P.info? t <;> rfl
def descOf (i : Option TypeInfo) : Option TypeDesc := match i with
  | some i => some i.desc
  | none => none
def undF (P : Program) (t : TypeId) : Option TypeDesc := match tyAt P t with
  | some i => match i.desc with
    | .named _ u => descOf (tyAt P u)
    | d => some d
  | none => none
theorem undF_eq (P : Program) (t : TypeId) : undF P t = P.underlying t := by
  unfold undF Program.underlying
  rw [tyAt_eq]
  cases P.info? t with
  | none => rfl
  | some i =>
    cases i with
    | mk desc str size bytes hp al fa zero cmp ms =>
    dsimp only
    cases desc with
    | named n u =>
      dsimp only
      rw [tyAt_eq]
      cases P.info? u <;> rfl
    | _ => rfl
def aggF (P : Program) (t : TypeId) : Option Bool := match undF P t with
  | some (.struct _) => some true
  | some (.array _ _) => some true
  | some _ => some false
  | none => none
theorem aggF_eq (P : Program) (t : TypeId) : aggF P t = aggQ P t := by unfold aggF aggQ; rw [undF_eq]; cases P.underlying t with | none => rfl | some d => cases d <;> rfl
def zcF (P : Program) (t : TypeId) : Option (List Value) := match tyAt P t with
  | some i => match i.zero with
    | some z => match noA z with
      | true => some (cellsL z)
      | false => none
    | none => none
  | none => none
theorem zcF_eq (P : Program) (t : TypeId) : zcF P t = zeroCells P t := by
  unfold zcF zeroCells zeroQ
  rw [tyAt_eq]
  cases P.info? t <;> rfl
def allSzF (P : Program) : List Field → Bool
  | [] => true
  | f :: l => match szF P f.type with
    | some _ => allSzF P l
    | none => false
theorem allSzF_eq (P : Program) : ∀ l, allSzF P l = allSized P l
  | [] => rfl
  | f :: l => by simp only [allSzF, allSized, szF_eq]; cases szOf P f.type with | none => rfl | some n => exact allSzF_eq P l
def sz1F (P : Program) (t : TypeId) : Bool := match szF P t with
  | some n => Nat.beq n (nat_lit 1)
  | none => false
theorem sz1F_eq (P : Program) (t : TypeId) : sz1F P t = sz1 P t := by unfold sz1F sz1; rw [szF_eq]; cases szOf P t <;> rfl

end
end Go.Sim


namespace Go.Sim
noncomputable section
variable (P : Program) (G : Nat → Option (List Value))

abbrev Ans := Option (TM × Hp)
def dead : CO := ⟨fun _ _ _ _ => none⟩

/-! ### moves -/
def cMove (x : Operand) : CO := ⟨fun _ tm h k => optV ((compX x).f tm) (fun v => k v h)⟩
theorem cMove_eq (x : Operand) (call : Call) (tm : TM) (h : Hp) (k : Kt) : (cMove x).f call tm h k = bindK (f_move x tm h) k := by
  show optV ((compX x).f tm) (fun v => k v h) = _
  rw [compX_eq]
  unfold f_move
  cases opnd tm x <;> rfl

def boolK (v : Value) (a b : Ans) : Ans := VB.rec (motive := fun _ => Ans) none (fun q => Bool.rec (motive := fun _ => Ans) b a q) (asBool v)
def cPick (c a b : Operand) : CO := ⟨fun _ tm h k => optV ((compX c).f tm) (fun v => boolK v (optV ((compX a).f tm) (fun v => k v h)) (optV ((compX b).f tm) (fun v => k v h)))⟩
theorem cPick_eq (c a b : Operand) (call : Call) (tm : TM) (h : Hp) (k : Kt) : (cPick c a b).f call tm h k = bindK (f_pick c a b tm h) k := by
  show optV ((compX c).f tm) (fun v => boolK v (optV ((compX a).f tm) (fun v => k v h)) (optV ((compX b).f tm) (fun v => k v h))) = _
  simp only [compX_eq]
  unfold f_pick
  cases opnd tm c with
  | none => rfl
  | some v =>
    cases v with
    | bool q =>
      cases q with
      | true => show optV (opnd tm a) _ = bindK (match opnd tm a with | some v => some (v, h) | none => none) k; cases opnd tm a <;> rfl
      | false => show optV (opnd tm b) _ = bindK (match opnd tm b with | some v => some (v, h) | none => none) k; cases opnd tm b <;> rfl
    | _ => rfl

/-! ### new rows -/
def lenR {α : Type} (l : List α) : Nat := List.rec (motive := fun _ => Nat) (nat_lit 0) (fun _ _ n => Nat.succ n) l
theorem lenR_eq {α : Type} : ∀ l : List α, lenR l = l.length
  | [] => rfl
  | x :: l => by show Nat.succ (lenR l) = _; rw [lenR_eq l]; rfl
def newO (h : Hp) (o : AObj) (k : Kt) : Ans := Hp.rec (motive := fun _ => Ans) (fun n bs => k (.pointer (some ⟨Nat.mul (nat_lit 2) n, nat_lit 0, none⟩)) ⟨Nat.succ n, hSet bs n o⟩) h
def newK (h : Hp) (t : TypeId) (l : List Value) (k : Kt) : Ans := newO h (.cells (lenR l) t (cPutL .e (nat_lit 0) l)) k
theorem newO_eq (h : Hp) (o : AObj) (k : Kt) : newO h o k = k (.pointer (some ⟨2 * h.next, 0, none⟩)) { next := h.next + 1, bs := h.bs.set h.next o } := by
  show k _ ⟨Nat.succ h.next, hSet h.bs h.next o⟩ = _
  rw [hSet_eq]; rfl
theorem newK_eq (h : Hp) (t : TypeId) (l : List Value) (k : Kt) : newK h t l k = bindK (some (newC h t l)) k := by
  unfold newK
  rw [lenR_eq, newO_eq, cPutL_eq]
  rfl
def cAlloc (t : TypeId) : CO := match zcF P t with
  | some l => ⟨fun _ _ h k => newK h t l k⟩
  | none => dead
theorem cAlloc_eq (t : TypeId) (call : Call) (tm : TM) (h : Hp) (k : Kt) : (cAlloc P t).f call tm h k = bindK (f_alloc P t tm h) k := by
  unfold cAlloc f_alloc
  simp only [undF_eq, szF_eq, aggF_eq, zcF_eq, fnAt_eq, allSzF_eq, sz1F_eq]
  cases zeroCells P t with
  | none => rfl
  | some l => exact newK_eq h t l k
def boxK (h : Hp) (t : TypeId) (k : Kt) (v : Value) : Ans := VA.rec (motive := fun _ => Ans) (newO h (.cells (nat_lit 1) t (.n .e (some v) .e)) k) (fun l => newK h t l k) (asAgg v)
theorem boxK_eq (h : Hp) (t : TypeId) (k : Kt) (v : Value) : boxK h t k v = bindK (some (newC h t (cellsL v))) k := by
  cases v with
  | agg l => cases l; exact newK_eq h t _ k
  | _ => exact newO_eq ..
def cBox (t : TypeId) (x : Operand) : CO := ⟨fun _ tm h k => optV ((compX x).f tm) (boxK h t k)⟩
theorem cBox_eq (t : TypeId) (x : Operand) (call : Call) (tm : TM) (h : Hp) (k : Kt) : (cBox t x).f call tm h k = bindK (f_box t x tm h) k := by
  show optV ((compX x).f tm) (boxK h t k) = _
  rw [compX_eq]
  unfold f_box
  cases opnd tm x with
  | none => rfl
  | some v => exact boxK_eq h t k v

/-! ### loads and stores -/
def rowOf (h : Hp) (i : Nat) : VO := asCells (hGet h.bs i)
def cellOf (o : VO) (off : Nat) : Option Value := VO.rec (motive := fun _ => Option Value) none (fun _ _ cs => cGet cs off) o
def ldOld (b off : Nat) : Option Value := match G (Nat.div b (nat_lit 2)) with
  | some l => l[off]?
  | none => none
def ldF (h : Hp) (a : Addr) : Option Value := Addr.rec (motive := fun _ => Option Value) (fun b off _ => Bool.rec (motive := fun _ => Option Value) (ldOld G b off) (cellOf (rowOf h (Nat.div b (nat_lit 2))) off) (Nat.beq (Nat.mod b (nat_lit 2)) (nat_lit 0))) a
theorem ldF_eq (h : Hp) (a : Addr) : ldF G h a = ldCell G h a 0 := by
  obtain ⟨b, off, sp⟩ := a
  show Bool.rec (motive := fun _ => Option Value) (ldOld G b off) (cellOf (rowOf h (Nat.div b 2)) off) (Nat.beq (Nat.mod b 2) 0) = _
  unfold ldCell bk
  cases Nat.beq (Nat.mod b 2) 0 with
  | true =>
    show cellOf (rowOf h (Nat.div b 2)) off = (match h.bs.get (Nat.div b 2) with
      | some (.cells _ _ cs) => cs.get (Nat.add off 0)
      | _ => none)
    unfold rowOf
    rw [hGet_eq]
    cases h.bs.get (Nat.div b 2) with
    | none => rfl
    | some o => cases o <;> rfl
  | false => rfl
def grab (cs : Tr Value) (off n : Nat) : Option (List Value) := Nat.rec (motive := fun _ => Nat → Option (List Value)) (fun _ => some []) (fun _ ih off => consO (cGet cs off) (ih (Nat.succ off))) n off
def rowL (o : VO) (off n : Nat) : Option (List Value) := VO.rec (motive := fun _ => Option (List Value)) none (fun _ _ cs => grab cs off n) o
def ldL (h : Hp) (a : Addr) (n : Nat) : Option (List Value) := Bool.rec (motive := fun _ => Option (List Value)) (ldCells G h a (nat_lit 0) n) (rowL (rowOf h (Nat.div a.block (nat_lit 2))) a.off n) (Nat.beq (Nat.mod a.block (nat_lit 2)) (nat_lit 0))
theorem grab_eq (h : Hp) (a : Addr) (cs : Tr Value) (size : Nat) (ty : TypeId) (ho : h.bs.get (Nat.div a.block 2) = some (.cells size ty cs)) (hb : Nat.beq (Nat.mod a.block 2) 0 = true) :
    ∀ (n j : Nat), grab cs (a.off + j) n = ldCells G h a j n := by
  intro n
  induction n with
  | zero => intro j; rfl
  | succ n ih =>
    intro j
    rw [ldCells_succ]
    have : ldCell G h a j = cs.get (a.off + j) := by
      unfold ldCell bk
      rw [hb]
      dsimp only
      rw [ho]
      rfl
    rw [this]
    show consO (cs.get (a.off + j)) (grab cs (a.off + j + 1) n) = _
    rw [show a.off + j + 1 = a.off + (j + 1) from rfl, ih (j + 1)]
    cases cs.get (a.off + j) with
    | none => rfl
    | some v => cases ldCells G h a (j + 1) n <;> rfl
theorem ldL_eq (h : Hp) (a : Addr) (n : Nat) (hn : n ≠ 0) : ldL G h a n = ldCells G h a 0 n := by
  unfold ldL
  cases hb : Nat.beq (Nat.mod a.block 2) 0 with
  | false => rfl
  | true =>
    show rowL (asCells (h.bs.get (Nat.div a.block 2))) a.off n = _
    cases ho : h.bs.get (Nat.div a.block 2) with
    | none =>
      obtain ⟨n, rfl⟩ := Nat.exists_eq_succ_of_ne_zero hn
      rw [ldCells_succ]
      have : ldCell G h a 0 = none := by unfold ldCell bk; rw [hb]; dsimp only; rw [ho]
      rw [this]; rfl
    | some o =>
      cases o with
      | cells size ty cs => exact grab_eq G h a cs size ty ho hb n 0
      | map es =>
        obtain ⟨n, rfl⟩ := Nat.exists_eq_succ_of_ne_zero hn
        rw [ldCells_succ]
        have : ldCell G h a 0 = none := by unfold ldCell bk; rw [hb]; dsimp only; rw [ho]
        rw [this]; rfl
      | dead =>
        obtain ⟨n, rfl⟩ := Nat.exists_eq_succ_of_ne_zero hn
        rw [ldCells_succ]
        have : ldCell G h a 0 = none := by unfold ldCell bk; rw [hb]; dsimp only; rw [ho]
        rw [this]; rfl
      | loop =>
        obtain ⟨n, rfl⟩ := Nat.exists_eq_succ_of_ne_zero hn
        rw [ldCells_succ]
        have : ldCell G h a 0 = none := by unfold ldCell bk; rw [hb]; dsimp only; rw [ho]
        rw [this]; rfl

def ptrK (v : Value) (k : Addr → Ans) : Ans := VP.rec (motive := fun _ => Ans) none k (asPtr v)
/-- left to the text that stands for the operation -/
def cAny (E : FuncId → List Value → Option Value) (op : Op) : CO := ⟨fun call tm h k => bindK (stepF P G E call op tm h) k⟩
def cLoad (t : TypeId) (x : Operand) : CO := match aggF P t with
  | some false => ⟨fun _ tm h k => optV ((compX x).f tm) (fun v => ptrK v (fun a => optV (ldF G h a) (fun v => k v h)))⟩
  | some true => match szF P t with
    | some n => Bool.rec (motive := fun _ => CO) ⟨fun _ tm h k => optV ((compX x).f tm) (fun v => ptrK v (fun a => optL (ldL G h a n) (fun l => k (.agg ⟨l⟩) h)))⟩ ⟨fun _ tm h k => bindK (f_load P G t x tm h) k⟩ (Nat.beq n (nat_lit 0))
    | none => dead
  | none => dead
theorem ptrK_eq (v : Value) (k : Addr → Ans) : ptrK v k = match v with | .pointer (some a) => k a | _ => none := by
  cases v with
  | pointer a => cases a <;> rfl
  | _ => rfl
theorem cLoad_eq (t : TypeId) (x : Operand) (call : Call) (tm : TM) (h : Hp) (k : Kt) : (cLoad P G t x).f call tm h k = bindK (f_load P G t x tm h) k := by
  have ld0 : ∀ (u : Option Bool) (hu : aggQ P t = u), (match u with | none => none | some true => none | some false => none : Option Nat) = none → True := fun _ _ _ => trivial
  unfold cLoad
  simp only [undF_eq, szF_eq, aggF_eq, zcF_eq, fnAt_eq, allSzF_eq, sz1F_eq]
  cases e1 : aggQ P t with
  | none =>
    show none = _
    unfold f_load ld
    rw [e1]
    cases opnd tm x with
    | none => rfl
    | some v =>
      cases v with
      | pointer a => cases a <;> rfl
      | _ => rfl
  | some b =>
    cases b with
    | false =>
      show optV ((compX x).f tm) (fun v => ptrK v (fun a => optV (ldF G h a) (fun v => k v h))) = _
      rw [compX_eq]
      unfold f_load ld
      rw [e1]
      cases opnd tm x with
      | none => rfl
      | some v =>
        cases v with
        | pointer a =>
          cases a with
          | none => rfl
          | some a =>
            show optV (ldF G h a) (fun v => k v h) = bindK (match ldCell G h a 0 with | some v => some (v, h) | none => none) k
            rw [ldF_eq]
            cases ldCell G h a 0 <;> rfl
        | _ => rfl
    | true =>
      dsimp only
      cases e2 : szOf P t with
      | none =>
        show none = _
        unfold f_load ld
        rw [e1, e2]
        cases opnd tm x with
        | none => rfl
        | some v =>
          cases v with
          | pointer a => cases a <;> rfl
          | _ => rfl
      | some n =>
        dsimp only
        cases hn : Nat.beq n (nat_lit 0) with
        | true => rfl
        | false =>
          have hn0 : n ≠ 0 := by rintro rfl; cases hn
          show optV ((compX x).f tm) (fun v => ptrK v (fun a => optL (ldL G h a n) (fun l => k (.agg ⟨l⟩) h))) = _
          rw [compX_eq]
          unfold f_load ld
          rw [e1, e2]
          cases opnd tm x with
          | none => rfl
          | some v =>
            cases v with
            | pointer a =>
              cases a with
              | none => rfl
              | some a =>
                show optL (ldL G h a n) (fun l => k (.agg ⟨l⟩) h) = bindK (match (match ldCells G h a 0 n with | none => none | some l => some (.agg ⟨l⟩)) with | some v => some (v, h) | none => none) k
                rw [ldL_eq G h a n hn0]
                cases ldCells G h a 0 n <;> rfl
            | _ => rfl

def putK (i off : Nat) (v : Value) (h : Hp) (k : Kt) (o : VO) : Ans := VO.rec (motive := fun _ => Ans) none (fun size ty cs => Bool.rec (motive := fun _ => Ans) none (Hp.rec (motive := fun _ => Ans) (fun n bs => k undef ⟨n, hSet bs i (.cells size ty (cSet cs off v))⟩) h) (Nat.ble (Nat.succ off) size)) o
def stK (a : Addr) (v : Value) (h : Hp) (k : Kt) : Ans := Addr.rec (motive := fun _ => Ans) (fun b off _ => Bool.rec (motive := fun _ => Ans) none (putK (Nat.div b (nat_lit 2)) off v h k (rowOf h (Nat.div b (nat_lit 2)))) (Nat.beq (Nat.mod b (nat_lit 2)) (nat_lit 0))) a
theorem stK_eq (a : Addr) (v : Value) (h : Hp) (k : Kt) : stK a v h k = bindK (v_stB (bk a.block) a.off v h) k := by
  obtain ⟨b, off, sp⟩ := a
  show Bool.rec (motive := fun _ => Ans) none (putK (Nat.div b 2) off v h k (rowOf h (Nat.div b 2))) (Nat.beq (Nat.mod b 2) 0) = bindK (v_stB (bk b) off v h) k
  unfold bk
  cases Nat.beq (Nat.mod b 2) 0 with
  | false => rfl
  | true =>
    show putK (Nat.div b 2) off v h k (asCells (h.bs.get (Nat.div b 2))) = bindK (v_st1 (Nat.div b 2) off v (h.bs.get (Nat.div b 2)) h) k
    cases h.bs.get (Nat.div b 2) with
    | none => rfl
    | some o =>
      cases o with
      | cells size ty cs =>
        show Bool.rec (motive := fun _ => Ans) none (k undef ⟨h.next, hSet h.bs (Nat.div b 2) (.cells size ty (cSet cs off v))⟩) (Nat.ble (Nat.succ off) size) = bindK (Bool.rec (motive := fun _ => Option (Value × Hp)) none _ (Nat.ble (Nat.succ off) size)) k
        rw [hSet_eq, cSet_eq]
        cases Nat.ble (Nat.succ off) size <;> rfl
      | map es => rfl
      | dead => rfl
      | loop => rfl
def cStore (t : TypeId) (x y : Operand) : CO := Bool.rec (motive := fun _ => CO) ⟨fun _ tm h k => bindK (v_store P t x y tm h) k⟩
  ⟨fun _ tm h k => optV ((compX x).f tm) (fun p => ptrK p (fun a => optV ((compX y).f tm) (fun v => Bool.rec (motive := fun _ => Ans) (bindK (v_slowSt P t a v h) k) (stK a v h k) (oneC v))))⟩ (sz1F P t)
theorem cStore_eq (t : TypeId) (x y : Operand) (call : Call) (tm : TM) (h : Hp) (k : Kt) : (cStore P t x y).f call tm h k = bindK (v_store P t x y tm h) k := by
  unfold cStore
  simp only [undF_eq, szF_eq, aggF_eq, zcF_eq, fnAt_eq, allSzF_eq, sz1F_eq]
  cases e1 : sz1 P t with
  | false => rfl
  | true =>
    show optV ((compX x).f tm) (fun p => ptrK p (fun a => optV ((compX y).f tm) (fun v => Bool.rec (motive := fun _ => Ans) (bindK (v_slowSt P t a v h) k) (stK a v h k) (oneC v)))) = _
    simp only [compX_eq, stK_eq, oneC_eq]
    unfold v_store v_st
    rw [e1]
    cases opnd tm x with
    | none => rfl
    | some p =>
      cases p with
      | pointer a =>
        cases a with
        | none => rfl
        | some a =>
          cases opnd tm y with
          | none => rfl
          | some v =>
            show Bool.rec (motive := fun _ => Ans) (bindK (v_slowSt P t a v h) k) (bindK (v_stB (bk a.block) a.off v h) k) (oneCell v) = bindK (Bool.rec (motive := fun _ => Option (Value × Hp)) (v_slowSt P t a v h) (v_stB (bk a.block) a.off v h) (oneCell v)) k
            cases oneCell v <;> rfl
      | _ => rfl

/-! ### numbers -/
structure CB where
  f : IntKind → Int → Int → Option Value
def binC (op : BinOp) : CB := match op with
  | .add => ⟨fun k a b => some (.int k (wrapF k (addF a b)))⟩
  | .sub => ⟨fun k a b => some (.int k (wrapF k (subF a b)))⟩
  | .mul => ⟨fun k a b => some (.int k (wrapF k (mulF a b)))⟩
  | .eql => ⟨fun _ a b => some (.bool (eqF a b))⟩
  | .neq => ⟨fun _ a b => some (.bool (notF (eqF a b)))⟩
  | .lss => ⟨fun _ a b => some (.bool (notF (leF b a)))⟩
  | .leq => ⟨fun _ a b => some (.bool (leF a b))⟩
  | .gtr => ⟨fun _ a b => some (.bool (notF (leF a b)))⟩
  | .geq => ⟨fun _ a b => some (.bool (leF b a))⟩
  | .quo => ⟨fun k a b => onNN (quoN k) a b⟩
  | .rem => ⟨fun k a b => onNN (remN k) a b⟩
  | .shl => ⟨fun k a b => onNN (shlN k) a b⟩
  | .shr => ⟨fun k a b => onNN (shrN k) a b⟩
  | _ => ⟨fun _ _ _ => none⟩
theorem binC_eq (op : BinOp) (k : IntKind) (a b : Int) : (binC op).f k a b = binI op k a b := by cases op <;> rfl
def intK {α : Type} (v : Value) (z : α) (k : IntKind → Int → α) : α := VI.rec (motive := fun _ => α) z k (asInt v)
def binFC (B : CB) (a b : Value) : Option Value := intK a none (fun k n => intK b none (fun l m => Bool.rec (motive := fun _ => Option Value) none (B.f k n m) (ikEq k l)))
theorem binFC_eq (op : BinOp) (a b : Value) : binFC (binC op) a b = binF op a b := by
  cases a with
  | int k n =>
    cases b with
    | int l m =>
      show Bool.rec (motive := fun _ => Option Value) none ((binC op).f k n m) (ikEq k l) = Bool.rec (motive := fun _ => Option Value) none (binI op k n m) (ikEq k l)
      rw [binC_eq]
    | _ => rfl
  | _ => rfl
def binK (B : CB) (op : BinOp) (t : TypeId) (x y : Operand) (h : Hp) (k : Kt) (a b : Value) : Ans := Option.rec (motive := fun _ => Ans) (optV (binV P op t x y a b) (fun v => k v h)) (fun v => k v h) (binFC B a b)
def cBin (op : BinOp) (t : TypeId) (x y : Operand) : CO := ⟨fun _ tm h k => optV ((compX x).f tm) (fun a => optV ((compX y).f tm) (binK P (binC op) op t x y h k a))⟩
theorem cBin_eq (op : BinOp) (t : TypeId) (x y : Operand) (call : Call) (tm : TM) (h : Hp) (k : Kt) : (cBin P op t x y).f call tm h k = bindK (v_binOp P op t x y tm h) k := by
  show optV ((compX x).f tm) (fun a => optV ((compX y).f tm) (binK P (binC op) op t x y h k a)) = _
  simp only [compX_eq]
  unfold v_binOp
  cases opnd tm x with
  | none => rfl
  | some a =>
    cases opnd tm y with
    | none => rfl
    | some b =>
      show binK P (binC op) op t x y h k a b = bindK (match binVF P op t x y a b with | some v => some (v, h) | none => none) k
      unfold binK binVF
      rw [binFC_eq]
      cases binF op a b with
      | none => show optV (binV P op t x y a b) _ = bindK (match binV P op t x y a b with | some v => some (v, h) | none => none) k; cases binV P op t x y a b <;> rfl
      | some v => rfl

/-! ### addresses -/
def cFieldAddr (s : TypeId) (x : Operand) (f : Nat) : CO := match undF P s with
  | some (.struct fs) => match fs.toList[f]? with
    | some fd => match szF P fd.type with
      | some n => Bool.rec (motive := fun _ => CO)
        (Bool.rec (motive := fun _ => CO) ⟨fun _ tm h k => optV ((compX x).f tm) (fun v => ptrK v (fun a => k (.pointer (some ⟨a.block, Nat.add a.off fd.offset, a.spot⟩)) h))⟩
          ⟨fun _ tm h k => optV ((compX x).f tm) (fun v => ptrK v (fun a => k (.pointer (some a)) h))⟩ (Nat.beq fd.offset (nat_lit 0)))
        dead (Nat.beq n (nat_lit 0))
      | none => dead
    | none => dead
  | _ => dead
def fa (s : TypeId) (f : Nat) (a : Addr) (h : Hp) : Option (Value × Hp) := match P.underlying s with
  | some (.struct fs) => match fs.toList[f]? with
    | some fd => match szOf P fd.type with
      | some 0 => none
      | some _ => some (.pointer (some (addOff a fd.offset)), h)
      | none => none
    | none => none
  | _ => none
theorem fa_eq (s : TypeId) (x : Operand) (f : Nat) (tm : TM) (h : Hp) (k : Kt) : bindK (f_fieldAddr P s x f tm h) k = optV (opnd tm x) (fun v => ptrK v (fun a => bindK (fa P s f a h) k)) := by
  unfold f_fieldAddr fa
  cases opnd tm x with
  | none => rfl
  | some v =>
    cases v with
    | pointer a =>
      cases a with
      | none => rfl
      | some a =>
        show _ = bindK _ k
        cases P.underlying s with
        | none => rfl
        | some d => cases d <;> rfl
    | _ => rfl
theorem optV_no (r : Option Value) : optV r (fun _ => none) = none := by cases r <;> rfl
theorem ptrK_no (v : Value) : ptrK v (fun _ => none) = none := by rw [ptrK_eq]; split <;> rfl
theorem cFieldAddr_eq (s : TypeId) (x : Operand) (f : Nat) (call : Call) (tm : TM) (h : Hp) (k : Kt) : (cFieldAddr P s x f).f call tm h k = bindK (f_fieldAddr P s x f tm h) k := by
  rw [fa_eq]
  unfold cFieldAddr fa
  simp only [undF_eq, szF_eq, aggF_eq, zcF_eq, fnAt_eq, allSzF_eq, sz1F_eq]
  cases e1 : P.underlying s with
  | none => simp only [bindK_none, ptrK_no, optV_no]; rfl
  | some d =>
    cases d with
    | struct fs =>
      dsimp only
      cases e2 : fs.toList[f]? with
      | none => simp only [bindK_none, ptrK_no, optV_no]; rfl
      | some fd =>
        dsimp only
        cases e3 : szOf P fd.type with
        | none => simp only [bindK_none, ptrK_no, optV_no]; rfl
        | some n =>
          dsimp only
          cases n with
          | zero => simp only [bindK_none, ptrK_no, optV_no]; rfl
          | succ n =>
            show (Bool.rec (motive := fun _ => CO) ⟨fun _ tm h k => optV ((compX x).f tm) (fun v => ptrK v (fun a => k (.pointer (some ⟨a.block, Nat.add a.off fd.offset, a.spot⟩)) h))⟩
              ⟨fun _ tm h k => optV ((compX x).f tm) (fun v => ptrK v (fun a => k (.pointer (some a)) h))⟩ (Nat.beq fd.offset (nat_lit 0)) : CO).f call tm h k = optV (opnd tm x) (fun v => ptrK v (fun a => k (.pointer (some (addOff a fd.offset))) h))
            cases e4 : Nat.beq fd.offset (nat_lit 0) with
            | true =>
              have : ∀ a, addOff a fd.offset = a := fun a => by unfold addOff; rw [e4]
              simp only [this]
              rw [← compX_eq]
            | false =>
              have : ∀ a, addOff a fd.offset = ⟨a.block, Nat.add a.off fd.offset, a.spot⟩ := fun a => by unfold addOff; rw [e4]; rfl
              simp only [this]
              rw [← compX_eq]
    | _ => simp only [bindK_none, ptrK_no, optV_no]; rfl

/-! ### parts of a tuple, interfaces -/
def nth {α : Type} (l : List α) (i : Nat) : Option α := List.rec (motive := fun _ => Nat → Option α) (fun _ => none) (fun x _ ih i => Nat.rec (motive := fun _ => Option α) (some x) (fun j _ => ih j) i) l i
theorem nth_eq {α : Type} : ∀ (l : List α) (i : Nat), nth l i = l[i]?
  | [], i => rfl
  | x :: l, 0 => rfl
  | x :: l, i + 1 => by show nth l i = _; rw [nth_eq l i]; simp
def cExtract (x : Operand) (i : Nat) : CO := ⟨fun _ tm h k => optV ((compX x).f tm) (fun v => VA.rec (motive := fun _ => Ans) none (fun l => optV (nth l i) (fun v => k v h)) (asTup v))⟩
theorem cExtract_eq (x : Operand) (i : Nat) (call : Call) (tm : TM) (h : Hp) (k : Kt) : (cExtract x i).f call tm h k = bindK (f_extract x i tm h) k := by
  show optV ((compX x).f tm) (fun v => VA.rec (motive := fun _ => Ans) none (fun l => optV (nth l i) (fun v => k v h)) (asTup v)) = _
  rw [compX_eq]
  unfold f_extract
  cases opnd tm x with
  | none => rfl
  | some v =>
    cases v with
    | tuple l =>
      obtain ⟨l⟩ := l
      show optV (nth l i) (fun v => k v h) = bindK (match l[i]? with | some v => some (v, h) | none => none) k
      rw [nth_eq]
      cases l[i]? <;> rfl
    | _ => rfl
def cIface (t : TypeId) (x : Operand) : CO := match undF P t with
  | some (.interface _) => dead
  | some _ => ⟨fun _ tm h k => optV ((compX x).f tm) (fun v => k (.iface t v) h)⟩
  | none => dead
theorem cIface_eq (t : TypeId) (x : Operand) (call : Call) (tm : TM) (h : Hp) (k : Kt) : (cIface P t x).f call tm h k = bindK (f_makeInterface P t x tm h) k := by
  unfold cIface f_makeInterface
  simp only [undF_eq, szF_eq, aggF_eq, zcF_eq, fnAt_eq, allSzF_eq, sz1F_eq]
  cases P.underlying t with
  | none => cases opnd tm x <;> rfl
  | some d =>
    cases d with
    | interface _ => cases opnd tm x <;> rfl
    | _ =>
      show optV ((compX x).f tm) (fun v => k (.iface t v) h) = _
      rw [compX_eq]
      cases opnd tm x <;> rfl

end
end Go.Sim


namespace Go.Sim
noncomputable section
variable (P : Program) (G : Nat → Option (List Value))

/-! ### aggregates -/
def cl (v : Value) : List Value := VA.rec (motive := fun _ => List Value) [v] (fun l => l) (asAgg v)
theorem cl_eq (v : Value) : cl v = cellsL v := by
  cases v with
  | agg l => cases l; rfl
  | _ => rfl
structure CP where
  f : TM → Option (List (Nat × List Value))
def partO (off n : Nat) (v : Option Value) (r : Option (List (Nat × List Value))) : Option (List (Nat × List Value)) := Option.rec (motive := fun _ => Option (List (Nat × List Value))) none (fun v =>
  Option.rec (motive := fun _ => Option (List (Nat × List Value))) none (fun r => Bool.rec (motive := fun _ => Option (List (Nat × List Value))) none (some ((off, cl v) :: r)) (Nat.beq (lenR (cl v)) n)) r) v
def partsC (fs : List Field) (l : List (Nat × Operand)) : CP := List.rec (motive := fun _ => CP) ⟨fun _ => some []⟩ (fun p _ ih => match fs[p.1]? with
  | some f => match szF P f.type with
    | some n => ⟨fun tm => partO f.offset n ((compX p.2).f tm) (ih.f tm)⟩
    | none => ⟨fun _ => none⟩
  | none => ⟨fun _ => none⟩) l
theorem partsC_eq (fs : List Field) (tm : TM) : ∀ (l : List (Nat × Operand)), (partsC P fs l).f tm = structParts P tm fs l
  | [] => rfl
  | (i, x) :: l => by
    show (match fs[i]? with
      | some f => match szF P f.type with
        | some n => ⟨fun tm => partO f.offset n ((compX x).f tm) ((partsC P fs l).f tm)⟩
        | none => ⟨fun _ => none⟩
      | none => ⟨fun _ => none⟩ : CP).f tm = _
    simp only [structParts, szF_eq]
    cases fs[i]? with
    | none => rfl
    | some f =>
      dsimp only
      cases hs : szOf P f.type with
      | none =>
        cases opnd tm x with
        | none => rfl
        | some v =>
          cases structParts P tm fs l with
          | none => rfl
          | some r => dsimp only; rw [hs]
      | some n =>
        show partO f.offset n ((compX x).f tm) ((partsC P fs l).f tm) = _
        rw [compX_eq, partsC_eq fs tm l]
        cases opnd tm x with
        | none => rfl
        | some v =>
          cases structParts P tm fs l with
          | none => rfl
          | some r =>
            dsimp only
            rw [hs]
            show Bool.rec (motive := fun _ => Option (List (Nat × List Value))) none (some ((f.offset, cl v) :: r)) (Nat.beq (lenR (cl v)) n) = (match Nat.beq (cellsL v).length n with
              | true => some ((f.offset, cellsL v) :: r)
              | false => none)
            rw [lenR_eq, cl_eq]
            cases Nat.beq (cellsL v).length n <;> rfl
def overR (cs l : List Value) : List Value := List.rec (motive := fun _ => List Value → List Value) (fun cs => cs) (fun v _ ih cs => List.rec (motive := fun _ => List Value) [] (fun _ cs' _ => v :: ih cs') cs) l cs
theorem overR_eq : ∀ (l cs : List Value), overR cs l = overL cs l
  | [], cs => by cases cs <;> rfl
  | v :: l, [] => rfl
  | v :: l, c :: cs => by show v :: overR cs l = v :: overL cs l; rw [overR_eq l cs]
def putAtR (l : List Value) (k : Nat) (cs : List Value) : List Value := Nat.rec (motive := fun _ => List Value → List Value) (fun cs => overR cs l) (fun _ ih cs => List.rec (motive := fun _ => List Value) [] (fun c cs' _ => c :: ih cs') cs) k cs
theorem putAtR_eq (l : List Value) : ∀ (k : Nat) (cs : List Value), putAtR l k cs = putAt l k cs
  | 0, cs => overR_eq l cs
  | k + 1, [] => rfl
  | k + 1, c :: cs => by show c :: putAtR l k cs = c :: putAt l k cs; rw [putAtR_eq l k cs]
def fillR (ps : List (Nat × List Value)) (cs : List Value) : Option (List Value) := List.rec (motive := fun _ => List Value → Option (List Value)) (fun cs => some cs) (fun p _ ih cs =>
  Prod.rec (motive := fun _ => Option (List Value)) (fun off l => Bool.rec (motive := fun _ => Option (List Value)) none (ih (putAtR l off cs)) (Nat.ble (Nat.add off (lenR l)) (lenR cs))) p) ps cs
theorem fillR_eq : ∀ (ps : List (Nat × List Value)) (cs : List Value), fillR ps cs = fillL ps cs
  | [], cs => rfl
  | (off, l) :: ps, cs => by
    show Bool.rec (motive := fun _ => Option (List Value)) none (fillR ps (putAtR l off cs)) (Nat.ble (Nat.add off (lenR l)) (lenR cs)) = _
    simp only [fillL]
    rw [lenR_eq, lenR_eq, fillR_eq ps, putAtR_eq]
    show _ = (match Nat.ble (Nat.add off l.length) cs.length with
      | false => none
      | true => fillL ps (putAt l off cs))
    cases Nat.ble (Nat.add off l.length) cs.length <;> rfl
def optP2 (r : Option (List (Nat × List Value))) (k : List (Nat × List Value) → Ans) : Ans := Option.rec (motive := fun _ => Ans) none k r
def cBuild (t : TypeId) (parts : Array (Nat × Operand)) : CO := match zcF P t with
  | some z => match undF P t with
    | some (.struct fs) => match allSzF P fs.toList with
      | true => ⟨fun _ tm h k => optP2 ((partsC P fs.toList parts.toList).f tm) (fun ps => optL (fillR ps z) (fun l => k (.agg ⟨l⟩) h))⟩
      | false => dead
    | _ => ⟨fun _ tm h k => bindK (f_build P t parts tm h) k⟩
  | none => ⟨fun _ tm h k => bindK (f_build P t parts tm h) k⟩
theorem cBuild_eq (t : TypeId) (parts : Array (Nat × Operand)) (call : Call) (tm : TM) (h : Hp) (k : Kt) : (cBuild P t parts).f call tm h k = bindK (f_build P t parts tm h) k := by
  unfold cBuild
  simp only [undF_eq, szF_eq, aggF_eq, zcF_eq, fnAt_eq, allSzF_eq, sz1F_eq]
  cases e1 : zeroCells P t with
  | none => rfl
  | some z =>
    dsimp only
    cases e2 : P.underlying t with
    | none => rfl
    | some d =>
      cases d with
      | struct fs =>
        dsimp only
        unfold f_build
        rw [e1, e2]
        cases e3 : allSized P fs.toList with
        | false =>
          show none = bindK (match allSized P fs.toList, structParts P tm fs.toList parts.toList with
            | true, some ps => match fillL ps z with
              | some l => some (.agg ⟨l⟩, h)
              | none => none
            | _, _ => none) k
          rw [e3]
          cases structParts P tm fs.toList parts.toList <;> rfl
        | true =>
          show optP2 ((partsC P fs.toList parts.toList).f tm) (fun ps => optL (fillR ps z) (fun l => k (.agg ⟨l⟩) h)) = bindK (match allSized P fs.toList, structParts P tm fs.toList parts.toList with
            | true, some ps => match fillL ps z with
              | some l => some (.agg ⟨l⟩, h)
              | none => none
            | _, _ => none) k
          rw [e3, partsC_eq]
          cases structParts P tm fs.toList parts.toList with
          | none => rfl
          | some ps =>
            show optL (fillR ps z) (fun l => k (.agg ⟨l⟩) h) = bindK (match fillL ps z with
              | some l => some (.agg ⟨l⟩, h)
              | none => none) k
            rw [fillR_eq]
            cases fillL ps z <;> rfl
      | _ => rfl

/-! ### stores of aggregates -/
def stR (l : List Value) (k size : Nat) (cs : Tr Value) : Option (Tr Value) := List.rec (motive := fun _ => Nat → Tr Value → Option (Tr Value)) (fun _ cs => some cs) (fun v _ ih k cs =>
  Bool.rec (motive := fun _ => Option (Tr Value)) none (Bool.rec (motive := fun _ => Option (Tr Value)) none (ih (Nat.succ k) (cSet cs k v)) (oneC v)) (Nat.ble (Nat.succ k) size)) l k cs
theorem stR_eq (size : Nat) : ∀ (l : List Value) (k : Nat) (cs : Tr Value), stR l k size cs = stCells l k size cs
  | [], _, _ => rfl
  | v :: l, k, cs => by
    show Bool.rec (motive := fun _ => Option (Tr Value)) none (Bool.rec (motive := fun _ => Option (Tr Value)) none (stR l (k + 1) size (cSet cs k v)) (oneC v)) (Nat.ble (Nat.succ k) size) = _
    rw [stCells_cons, oneC_eq, cSet_eq, stR_eq size l]
    show _ = (match Nat.ble (Nat.succ k) size, oneCell v with
      | true, true => stCells l (k + 1) size (cs.set k v)
      | _, _ => none)
    cases Nat.ble (Nat.succ k) size <;> cases oneCell v <;> rfl
def optT (r : Option (Tr Value)) (k : Tr Value → Ans) : Ans := Option.rec (motive := fun _ => Ans) none k r
def putLK (i off : Nat) (l : List Value) (h : Hp) (k : Kt) (o : VO) : Ans := VO.rec (motive := fun _ => Ans) none (fun size ty cs => optT (stR l off size cs) (fun cs' => Hp.rec (motive := fun _ => Ans) (fun n bs => k undef ⟨n, hSet bs i (.cells size ty cs')⟩) h)) o
def stLK (a : Addr) (l : List Value) (h : Hp) (k : Kt) : Ans := Addr.rec (motive := fun _ => Ans) (fun b off _ => Bool.rec (motive := fun _ => Ans) none (putLK (Nat.div b (nat_lit 2)) off l h k (rowOf h (Nat.div b (nat_lit 2)))) (Nat.beq (Nat.mod b (nat_lit 2)) (nat_lit 0))) a
def stA (n : Nat) (a : Addr) (v : Value) (h : Hp) (k : Kt) : Ans := Bool.rec (motive := fun _ => Ans) none (stLK a (cl v) h k) (Nat.beq (lenR (cl v)) n)
theorem stA_eq (t : TypeId) (n : Nat) (hn : szOf P t = some n) (a : Addr) (v : Value) (h : Hp) (k : Kt) : stA n a v h k = bindK (v_slowSt P t a v h) k := by
  obtain ⟨b, off, sp⟩ := a
  unfold stA v_slowSt st
  rw [lenR_eq, cl_eq]
  show Bool.rec (motive := fun _ => Ans) none (Bool.rec (motive := fun _ => Ans) none (putLK (Nat.div b 2) off (cellsL v) h k (rowOf h (Nat.div b 2))) (Nat.beq (Nat.mod b 2) 0)) (Nat.beq (cellsL v).length n) = _
  unfold bk
  cases e1 : Nat.beq (Nat.mod b 2) 0 with
  | false => cases Nat.beq (cellsL v).length n <;> rfl
  | true =>
    show Bool.rec (motive := fun _ => Ans) none (putLK (Nat.div b 2) off (cellsL v) h k (asCells (hGet h.bs (Nat.div b 2)))) (Nat.beq (cellsL v).length n) = _
    rw [hGet_eq]
    dsimp only
    cases h.bs.get (Nat.div b 2) with
    | none => cases Nat.beq (cellsL v).length n <;> rfl
    | some o =>
      cases o with
      | cells size ty cs =>
        rw [hn]
        show Bool.rec (motive := fun _ => Ans) none (optT (stR (cellsL v) off size cs) (fun cs' => k undef ⟨h.next, hSet h.bs (Nat.div b 2) (.cells size ty cs')⟩)) (Nat.beq (cellsL v).length n) = bindK (match (match Nat.beq (cellsL v).length n with
          | false => none
          | true => match stCells (cellsL v) off size cs with
            | none => none
            | some cs' => some { h with bs := h.bs.set (Nat.div b 2) (.cells size ty cs') } : Option Hp) with
          | some h => some (undef, h)
          | none => none) k
        cases Nat.beq (cellsL v).length n with
        | false => rfl
        | true =>
          show optT (stR (cellsL v) off size cs) (fun cs' => k undef ⟨h.next, hSet h.bs (Nat.div b 2) (.cells size ty cs')⟩) = bindK (match (match stCells (cellsL v) off size cs with
            | none => none
            | some cs' => some { h with bs := h.bs.set (Nat.div b 2) (.cells size ty cs') } : Option Hp) with
            | some h => some (undef, h)
            | none => none) k
          rw [stR_eq]
          simp only [hSet_eq]
          cases stCells (cellsL v) off size cs <;> rfl
      | map es => cases Nat.beq (cellsL v).length n <;> rfl
      | dead => cases Nat.beq (cellsL v).length n <;> rfl
      | loop => cases Nat.beq (cellsL v).length n <;> rfl
def cStoreA (t : TypeId) (x y : Operand) : CO := match szF P t with
  | some n => Bool.rec (motive := fun _ => CO) ⟨fun _ tm h k => optV ((compX x).f tm) (fun p => ptrK p (fun a => optV ((compX y).f tm) (fun v => stA n a v h k)))⟩ (cStore P t x y) (Nat.beq n (nat_lit 1))
  | none => cStore P t x y
theorem cStoreA_eq (t : TypeId) (x y : Operand) (call : Call) (tm : TM) (h : Hp) (k : Kt) : (cStoreA P t x y).f call tm h k = bindK (v_store P t x y tm h) k := by
  unfold cStoreA
  simp only [undF_eq, szF_eq, aggF_eq, zcF_eq, fnAt_eq, allSzF_eq, sz1F_eq]
  cases e : szOf P t with
  | none => exact cStore_eq P t x y call tm h k
  | some n =>
    dsimp only
    cases e1 : Nat.beq n (nat_lit 1) with
    | true => exact cStore_eq P t x y call tm h k
    | false =>
      show optV ((compX x).f tm) (fun p => ptrK p (fun a => optV ((compX y).f tm) (fun v => stA n a v h k))) = _
      simp only [compX_eq, stA_eq P t n e]
      unfold v_store v_st sz1
      rw [e]
      dsimp only
      rw [e1]
      cases opnd tm x with
      | none => rfl
      | some p =>
        cases p with
        | pointer a =>
          cases a with
          | none => rfl
          | some a => cases opnd tm y <;> rfl
        | _ => rfl

/-! ### one operand -/
def cUn (op : UnOp) (x : Operand) : CO := match op with
  | .not => ⟨fun _ tm h k => optV ((compX x).f tm) (fun v => VB.rec (motive := fun _ => Ans) (bindK (v_un P .not v h) k) (fun q => k (.bool (notF q)) h) (asBool v))⟩
  | .neg => ⟨fun _ tm h k => optV ((compX x).f tm) (fun v => intK v (bindK (v_un P .neg v h) k) (fun i n => k (.int i (wrapF i (negF n))) h))⟩
  | op => ⟨fun _ tm h k => bindK (v_unOp P op x tm h) k⟩
theorem cUn_eq (op : UnOp) (x : Operand) (call : Call) (tm : TM) (h : Hp) (k : Kt) : (cUn P op x).f call tm h k = bindK (v_unOp P op x tm h) k := by
  cases op with
  | not =>
    show optV ((compX x).f tm) (fun v => VB.rec (motive := fun _ => Ans) (bindK (v_un P .not v h) k) (fun q => k (.bool (notF q)) h) (asBool v)) = _
    rw [compX_eq]
    unfold v_unOp
    cases opnd tm x with
    | none => rfl
    | some v => cases v <;> rfl
  | neg =>
    show optV ((compX x).f tm) (fun v => intK v (bindK (v_un P .neg v h) k) (fun i n => k (.int i (wrapF i (negF n))) h)) = _
    rw [compX_eq]
    unfold v_unOp
    cases opnd tm x with
    | none => rfl
    | some v => cases v <;> rfl
  | _ => rfl
end
end Go.Sim


namespace Go.Sim
noncomputable section

/-! ## Regions that draw their order: one canonical order is run, and it is asked of each operation that what it yields hangs on no other order -/

/-- what is known of an operation by its text -/
structure Inf where
  i : Nat
  o : Oper
  cls : Nat        -- 0 quiet, 1 makes memory, 2 else
  mask : Nat       -- what comes before it
  looks : List Nat

structure Rc where
  inf : Inf
  sub : TM
  go : Bool
  v : Value
  id : Nat

def tmpsOf : List Operand → List Nat
  | [] => []
  | .tmp t :: l => t :: tmpsOf l
  | _ :: l => tmpsOf l

def guardTmp (ops : List Oper) : Option (Nat × Bool) → List Nat
  | none => []
  | some (j, _) => match ops[j]? with
    | some o => match o.dst with
      | some d => [d]
      | none => []
    | none => []

def predsL : List Edge → List Nat
  | [] => []
  | e :: l => match Region.binds .any e with
    | true => e.on :: predsL l
    | false => predsL l

def maskOf (acc : List Nat) : List Nat → Nat
  | [] => 0
  | p :: l => (1 <<< p) ||| ((acc.getD p 0) ||| maskOf acc l)

def masksL : List Oper → List Nat → List Nat
  | [], acc => acc
  | o :: l, acc => masksL l (acc ++ [maskOf acc (predsL o.after.toList)])

/-- the tmps that are read, out of the frame -/
def subT (tm : TM) : List Nat → TM → TM
  | [], acc => acc
  | t :: l, acc => match tm.get t with
    | some v => subT tm l (acc.set t v)
    | none => subT tm l acc

section
variable (P : Program) (G : Nat → Option (List Value))

def clsOf (o : Op) : Nat := match quietOp P o with
  | true => 0
  | false => match isMake o with
    | true => 1
    | false => 2

def infsL (ops : List Oper) (ms : List Nat) : Nat → List Oper → List Inf
  | _, [] => []
  | i, o :: l => ⟨i, o, clsOf P o.op, ms.getD i 0, tmpsOf o.op.operands.toList ++ guardTmp ops o.guard⟩ :: infsL ops ms (i + 1) l

def infs (ops : List Oper) : List Inf := infsL P ops (masksL ops []) 0 ops

/-- how many of the heavy operations stand in a mask -/
def cntW (mask : Nat) : List Inf → Nat
  | [] => 0
  | f :: l => match mask.testBit f.i with
    | true => cntW mask l + 1
    | false => cntW mask l

def heavy : List Inf → List Inf
  | [] => []
  | f :: l => match Nat.beq f.cls 2 with
    | true => f :: heavy l
    | false => heavy l

/-- those that come up between the s-th heavy operation and the next -/
def light (ws : List Inf) (s : Nat) : List Inf → List Inf
  | [] => []
  | f :: l => match Nat.beq f.cls 2, Nat.beq (cntW f.mask ws) s with
    | false, true => f :: light ws s l
    | _, _ => light ws s l

/-- operations that are no heavy ones, one behind the other -/
def runLight (ops : List Oper) (nt : Nat) : List Inf → TM → Hp → Option (TM × Hp × List Rc)
  | [], tm, h => some (tm, h, [])
  | f :: l, tm, h =>
    let sub := subT tm f.looks .e
    match guardOk ops sub f.o.guard with
    | some true => match aopF P G f.o.op sub h with
      | some (v, h') => match putT tm f.o.dst nt v with
        | some tm' => match runLight ops nt l tm' (match Nat.beq f.cls 1 with
            | true => h'
            | false => h) with
          | some (tm2, h2, rs) => some (tm2, h2, ⟨f, sub, true, v, h.next⟩ :: rs)
          | none => none
        | none => none
      | none => none
    | some false => match putT tm f.o.dst nt undef with
      | some tm' => match runLight ops nt l tm' h with
        | some (tm2, h2, rs) => some (tm2, h2, ⟨f, sub, false, undef, h.next⟩ :: rs)
        | none => none
      | none => none
    | none => none

def runWs (E : FuncId → List Value → Option Value) (call : Call) (ops : List Oper) (nt : Nat) (all ws0 : List Inf) : List Inf → Nat → TM → Hp → Option (TM × List Hp × List Rc)
  | [], s, tm, h => match runLight P G ops nt (light ws0 s all) tm h with
    | some (tm, h, rs) => some (tm, [h], rs)
    | none => none
  | f :: ws, s, tm, h => match runLight P G ops nt (light ws0 s all) tm h with
    | none => none
    | some (tm, h1, rs) =>
      let sub := subT tm f.looks .e
      match guardOk ops sub f.o.guard with
      | some true => match stepF P G E call f.o.op sub h1 with
        | some (v, h2) => match putT tm f.o.dst nt v with
          | some tm' => match runWs E call ops nt all ws0 ws (s + 1) tm' h2 with
            | some (tm2, hs, rs2) => some (tm2, h1 :: hs, rs ++ ⟨f, sub, true, v, 0⟩ :: rs2)
            | none => none
          | none => none
        | none => none
      | some false => match putT tm f.o.dst nt undef with
        | some tm' => match runWs E call ops nt all ws0 ws (s + 1) tm' h1 with
          | some (tm2, hs, rs2) => some (tm2, h1 :: hs, rs ++ ⟨f, sub, false, undef, 0⟩ :: rs2)
          | none => none
        | none => none
      | none => none

/-! ### what is asked behind the run -/
mutual
def vEq : Value → Value → Bool
  | .bool a, .bool b => a == b
  | .int k a, .int k' b => decide (k = k') && decide (a = b)
  | .float k a, .float k' b => decide (k = k') && Nat.beq a b
  | .string a, .string b => bytesEq a.data.toList b.data.toList
  | .pointer a, .pointer b => decide (a = b)
  | .slice a n c, .slice b n' c' => decide (a = b) && (Nat.beq n n' && Nat.beq c c')
  | .map a, .map b => decide (a = b)
  | .func f ⟨a⟩ ⟨c⟩, .func g ⟨b⟩ ⟨d⟩ => decide (f = g) && (vEqs a b && vEqs c d)
  | .nilFunc, .nilFunc => true
  | .iface t v, .iface u w => Nat.beq t u && vEq v w
  | .nilIface, .nilIface => true
  | .agg ⟨a⟩, .agg ⟨b⟩ => vEqs a b
  | .tuple ⟨a⟩, .tuple ⟨b⟩ => vEqs a b
  | _, _ => false
def vEqs : List Value → List Value → Bool
  | [], [] => true
  | v :: a, w :: b => vEq v w && vEqs a b
  | _, _ => false
end

def sameTmps (a b : TM) : List Nat → Bool
  | [] => true
  | t :: l => match a.get t, b.get t with
    | some v, some u => match vEq v u with
      | true => sameTmps a b l
      | false => false
    | none, _ => sameTmps a b l
    | _, _ => false

def dstIs (tm : TM) (dst : Option Nat) (v : Value) : Bool := match dst with
  | none => true
  | some d => match tm.get d with
    | some u => vEq v u
    | none => false

/-- a quiet operation yields the same in this memory -/
def quietAt (r : Rc) (h : Hp) : Bool := match aopF P G r.inf.o.op r.sub h with
  | some (v, _) => vEq v r.v
  | none => false

/-- in all the memories from number lo to number hi -/
def quietIn (r : Rc) (lo hi : Nat) : Nat → List Hp → Bool
  | _, [] => true
  | s, h :: hs => match Nat.ble lo s, Nat.ble s hi with
    | true, true => match quietAt P G r h with
      | true => quietIn r lo hi (s + 1) hs
      | false => false
    | _, _ => quietIn r lo hi (s + 1) hs

/-- how many of the heavy operations do not wait for operation i -/
def cntFree (i : Nat) : List Inf → Nat
  | [] => 0
  | f :: l => match f.mask.testBit i with
    | true => cntFree i l
    | false => cntFree i l + 1

def rcOk (ws : List Inf) (hs : List Hp) (tm : TM) (r : Rc) : Bool :=
  sameTmps r.sub tm r.inf.looks && (dstIs tm r.inf.o.dst r.v && (match Nat.beq r.inf.cls 0, r.go with
    | true, true => quietIn P G r (cntW r.inf.mask ws) (cntFree r.inf.i ws) 0 hs
    | _, _ => true))

def rcsOk (ws : List Inf) (hs : List Hp) (tm : TM) : List Rc → Bool
  | [] => true
  | r :: l => match rcOk P G ws hs tm r with
    | true => rcsOk ws hs tm l
    | false => false

/-! ### what is asked of the text -/
/-- whoever writes one of these tmps stands in the mask -/
def writersIn (mask : Nat) (looks : List Nat) : List Inf → Bool
  | [] => true
  | f :: l => match f.o.dst with
    | none => writersIn mask looks l
    | some d => match looks.contains d with
      | false => writersIn mask looks l
      | true => match mask.testBit f.i with
        | true => writersIn mask looks l
        | false => false

/-- the heavy operations stand in one row -/
def chainW : List Inf → Bool
  | [] => true
  | f :: l => match l with
    | [] => true
    | g :: _ => match g.mask.testBit f.i with
      | true => chainW l
      | false => false

def predsOk (n : Nat) : List Nat → Bool
  | [] => true
  | p :: l => match Nat.blt p n with
    | true => predsOk n l
    | false => false

def infOk (all : List Inf) (f : Inf) : Bool := predsOk f.i (predsL f.o.after.toList) && writersIn f.mask f.looks all

def infsOk (all : List Inf) : List Inf → Bool
  | [] => true
  | f :: l => match infOk all f with
    | true => infsOk all l
    | false => false

def lastH : List Hp → Option Hp
  | [] => none
  | [h] => some h
  | _ :: l => lastH l

def drawn (E : FuncId → List Value → Option Value) (call : Call) (ops : Array Oper) (nt : Nat) (tm : TM) (h : Hp) : Option (TM × Hp) :=
  let all := infs P ops.toList
  let ws := heavy all
  match infsOk all all, chainW ws with
  | true, true => match runWs P G E call ops.toList nt all ws ws 0 tm h with
    | none => none
    | some (tm2, hs, rs) => match rcsOk P G ws hs tm2 rs, lastH hs with
      | true, some h2 => some (tm2, h2)
      | _, _ => none
  | _, _ => none
end
end
end Go.Sim


namespace Go.Sim
noncomputable section
variable (P : Program) (G : Nat → Option (List Value))

def sliceK (v : Value) (k : Addr → Nat → Ans) : Ans := VS.rec (motive := fun _ => Ans) none (fun a n _ => Option.rec (motive := fun _ => Ans) none (fun a => k a n) a) (asSlice v)
def cIndexAddr (t : TypeId) (x i : Operand) : CO := match undF P t with
  | some (.slice e) => match szF P e with
    | some size => ⟨fun _ tm h k => optV ((compX x).f tm) (fun v => sliceK v (fun a n => optV ((compX i).f tm) (fun j => optN (asNat j) (fun j =>
        Bool.rec (motive := fun _ => Ans) none (k (.pointer (some ⟨a.block, Nat.add a.off (Nat.mul j size), none⟩)) h) (Nat.ble (Nat.succ j) n)))))⟩
    | none => dead
  | _ => ⟨fun _ tm h k => bindK (f_indexAddr P t x i tm h) k⟩
theorem cIndexAddr_eq (t : TypeId) (x i : Operand) (call : Call) (tm : TM) (h : Hp) (k : Kt) : (cIndexAddr P t x i).f call tm h k = bindK (f_indexAddr P t x i tm h) k := by
  unfold cIndexAddr
  simp only [undF_eq, szF_eq, aggF_eq, zcF_eq, fnAt_eq, allSzF_eq, sz1F_eq]
  cases e1 : P.underlying t with
  | none => rfl
  | some d =>
    cases d with
    | slice e =>
      dsimp only
      have hadd : ∀ (a : Addr) (m : Nat), addOff { a with spot := none } m = ⟨a.block, Nat.add a.off m, none⟩ := by
        intro a m
        unfold addOff
        cases hm : Nat.beq m 0 with
        | true => rw [show m = 0 from beqT hm]; rfl
        | false => rfl
      cases e2 : szOf P e with
      | none =>
        show none = _
        unfold f_indexAddr
        rw [e1]
        cases opnd tm x with
        | none => rfl
        | some v =>
          cases v with
          | slice a n c =>
            cases a with
            | none => cases opnd tm i <;> rfl
            | some a =>
              cases opnd tm i with
              | none => rfl
              | some j => dsimp only; rw [e2]; cases natOf j <;> rfl
          | pointer a => cases a <;> cases opnd tm i <;> rfl
          | _ => cases opnd tm i <;> rfl
      | some size =>
        show optV ((compX x).f tm) (fun v => sliceK v (fun a n => optV ((compX i).f tm) (fun j => optN (asNat j) (fun j =>
          Bool.rec (motive := fun _ => Ans) none (k (.pointer (some ⟨a.block, Nat.add a.off (Nat.mul j size), none⟩)) h) (Nat.ble (Nat.succ j) n))))) = _
        simp only [compX_eq, asNat_eq]
        unfold f_indexAddr
        rw [e1]
        cases opnd tm x with
        | none => rfl
        | some v =>
          cases v with
          | slice a n c =>
            cases a with
            | none => cases opnd tm i <;> rfl
            | some a =>
              cases opnd tm i with
              | none => rfl
              | some j =>
                dsimp only
                rw [e2]
                show optN (natOf j) (fun j => Bool.rec (motive := fun _ => Ans) none (k (.pointer (some ⟨a.block, Nat.add a.off (Nat.mul j size), none⟩)) h) (Nat.ble (Nat.succ j) n)) = _
                cases natOf j with
                | none => rfl
                | some j =>
                  show Bool.rec (motive := fun _ => Ans) none (k (.pointer (some ⟨a.block, Nat.add a.off (Nat.mul j size), none⟩)) h) (Nat.ble (Nat.succ j) n) = bindK (match Nat.blt j n with
                    | true => some (.pointer (some (addOff { a with spot := none } (j * size))), h)
                    | false => none) k
                  rw [hadd]
                  show _ = bindK (match Nat.ble (Nat.succ j) n with
                    | true => some (.pointer (some ⟨a.block, Nat.add a.off (Nat.mul j size), none⟩), h)
                    | false => none) k
                  cases Nat.ble (Nat.succ j) n <;> rfl
          | pointer a => cases a <;> cases opnd tm i <;> rfl
          | _ => cases opnd tm i <;> rfl
    | _ => rfl

/-! ### the length of a slice -/
def cLen (x : Operand) (t : TypeId) (d : Option TypeDesc) : Option CO := match d with
  | some (.slice _) => some ⟨fun _ tm h k => optV ((compX x).f tm) (fun v => VS.rec (motive := fun _ => Ans) none (fun _ n _ => k (.int .i64 (.ofNat n)) h) (asSlice v))⟩
  | _ => none
/-- the lesser, the greater of two operands -/
def cMM (b : Builtin) (least : Bool) (x y : Operand) (ts : List TypeId) : CO := ⟨fun _ tm h k => optV ((compX x).f tm) (fun a => optV ((compX y).f tm) (fun c =>
  intK a (bindK (v_builtinL P G b [a, c] ts h) k) (fun i n => intK c (bindK (v_builtinL P G b [a, c] ts h) k) (fun _ m => k (mmI (Bool.rec (motive := fun _ => Bool) (leF m n) (leF n m) least) i n m) h))))⟩
theorem cMM_eq (b : Builtin) (least : Bool) (hb : (b = .min ∧ least = true) ∨ (b = .max ∧ least = false)) (x y : Operand) (ts : List TypeId) (call : Call) (tm : TM) (h : Hp) (k : Kt) :
    (cMM P G b least x y ts).f call tm h k = optL (opnds tm [x, y]) (fun l => bindK (v_builtinL P G b l ts h) k) := by
  show optV ((compX x).f tm) (fun a => optV ((compX y).f tm) (fun c =>
    intK a (bindK (v_builtinL P G b [a, c] ts h) k) (fun i n => intK c (bindK (v_builtinL P G b [a, c] ts h) k) (fun _ m => k (mmI (Bool.rec (motive := fun _ => Bool) (leF m n) (leF n m) least) i n m) h)))) = _
  simp only [compX_eq]
  rw [opnds_cons, opnds_cons, opnds_nil]
  cases opnd tm x with
  | none => rfl
  | some a =>
    cases opnd tm y with
    | none => rfl
    | some c =>
      show intK a _ _ = bindK (v_builtinL P G b [a, c] ts h) k
      rcases hb with ⟨rfl, rfl⟩ | ⟨rfl, rfl⟩
      · cases a with
        | int i n => cases c <;> rfl
        | _ => rfl
      · cases a with
        | int i n => cases c <;> rfl
        | _ => rfl

def cBuiltinL (b : Builtin) (l : CVs) (ts : List TypeId) : CO := match b with
  | .append => ⟨fun _ tm h k => optL (l.f tm) (fun l => bindK (b_append P G l ts h) k)⟩
  | .min => ⟨fun _ tm h k => optL (l.f tm) (fun l => bindK (b_min P l h) k)⟩
  | .max => ⟨fun _ tm h k => optL (l.f tm) (fun l => bindK (b_max P l h) k)⟩
  | b => ⟨fun _ tm h k => optL (l.f tm) (fun l => bindK (v_builtinL P G b l ts h) k)⟩
theorem cBuiltinL_eq (b : Builtin) (l : CVs) (ts : List TypeId) (call : Call) (tm : TM) (h : Hp) (k : Kt) : (cBuiltinL P G b l ts).f call tm h k = optL (l.f tm) (fun l => bindK (v_builtinL P G b l ts h) k) := by cases b <;> rfl
def lenOf (b : Builtin) (args : List Operand) (ts : List TypeId) : Option CO := match b with
  | .len => match args with
    | [x] => match ts with
      | t :: _ => cLen x t (undF P t)
      | [] => none
    | _ => none
  | .min => match args with
    | [x, y] => some (cMM P G .min true x y ts)
    | _ => none
  | .max => match args with
    | [x, y] => some (cMM P G .max false x y ts)
    | _ => none
  | _ => none
theorem lenOf_eq {b : Builtin} {args : List Operand} {ts : List TypeId} {c : CO} (e : lenOf P G b args ts = some c) (call : Call) (tm : TM) (h : Hp) (k : Kt) : c.f call tm h k = optL (opnds tm args) (fun l => bindK (v_builtinL P G b l ts h) k) := by
  cases b with
  | len =>
    unfold lenOf at e
    simp only [undF_eq] at e
    split at e
    · rename_i x
      split at e
      · rename_i t ts
        cases hd : P.underlying t with
        | none => rw [hd] at e; cases e
        | some d =>
          rw [hd] at e
          cases d with
          | slice el =>
            cases e
            show optV ((compX x).f tm) _ = _
            rw [compX_eq, opnds_cons, opnds_nil]
            cases opnd tm x with
            | none => rfl
            | some v =>
              show VS.rec (motive := fun _ => Ans) none (fun _ n _ => k (.int .i64 (.ofNat n)) h) (asSlice v) = bindK (b_len P [v] (t :: ts) h) k
              unfold b_len
              dsimp only
              rw [hd]
              cases v <;> rfl
          | _ => cases e
      · cases e
    · cases e
  | min =>
    unfold lenOf at e
    dsimp only at e
    split at e
    · cases e; exact cMM_eq P G .min true (.inl ⟨rfl, rfl⟩) ..
    · cases e
  | max =>
    unfold lenOf at e
    dsimp only at e
    split at e
    · cases e; exact cMM_eq P G .max false (.inr ⟨rfl, rfl⟩) ..
    · cases e
  | _ => cases e
def cBuiltin (b : Builtin) (args : List Operand) (ts : List TypeId) : CO := match lenOf P G b args ts with
  | some c => c
  | none => cBuiltinL P G b (compXs args) ts
theorem cBuiltin_eq (b : Builtin) (args : Array Operand) (ts : Array TypeId) (call : Call) (tm : TM) (h : Hp) (k : Kt) : (cBuiltin P G b args.toList ts.toList).f call tm h k = bindK (v_builtin P G b args ts tm h) k := by
  have e2 : bindK (v_builtin P G b args ts tm h) k = optL (opnds tm args.toList) (fun l => bindK (v_builtinL P G b l ts.toList h) k) := by
    unfold v_builtin
    cases opnds tm args.toList <;> rfl
  rw [e2]
  unfold cBuiltin
  cases e : lenOf P G b args.toList ts.toList with
  | none => show (cBuiltinL P G b (compXs args.toList) ts.toList).f call tm h k = _; rw [cBuiltinL_eq, compXs_eq]
  | some c => exact lenOf_eq P G e call tm h k

/-! ### calls -/
variable (E : FuncId → List Value → Option Value)
def cFn (g : FuncId) (args : List Operand) (c : Go.Call) : CO := match fnAt P g with
  | some fn => match fn.body with
    | some _ => ⟨fun call tm h k => optL ((compXs args).f tm) (fun l => bindK (call (.fn g) l h) k)⟩
    | none => cAny P G E (.call c)
  | none => cAny P G E (.call c)
theorem cFn_eq (g : FuncId) (args : Array Operand) (ts : Array TypeId) (call : Call) (tm : TM) (h : Hp) (k : Kt) :
    (cFn P G E g args.toList ⟨.value (.func g), args, ts⟩).f call tm h k = bindK (stepF P G E call (.call ⟨.value (.func g), args, ts⟩) tm h) k := by
  unfold cFn
  simp only [undF_eq, szF_eq, aggF_eq, zcF_eq, fnAt_eq, allSzF_eq, sz1F_eq]
  cases hf : P.funcs[g]? with
  | none => rfl
  | some fn =>
    dsimp only
    cases hb : fn.body with
    | none => rfl
    | some c =>
      show optL ((compXs args.toList).f tm) (fun l => bindK (call (.fn g) l h) k) = bindK (f_callV P E call (some (.func (.func g) #[] #[])) (opnds tm args.toList) h) k
      rw [compXs_eq]
      unfold f_callV
      cases opnds tm args.toList with
      | none => rfl
      | some l =>
        dsimp only
        have ht : target (.func (.func g) #[] #[]) l = some (.fn g, l) := by show some (Tg.fn g, [] ++ l ++ []) = _; simp
        rw [ht]
        dsimp only
        rw [hf]
        dsimp only
        rw [hb]
        rfl
def cBuiltinE (b : Builtin) (args : Array Operand) (ts : Array TypeId) : CO := match b with
  | .clear => cAny P G E (.call ⟨.builtin .clear, args, ts⟩)
  | b => cBuiltin P G b args.toList ts.toList
theorem cBuiltinE_eq (b : Builtin) (args : Array Operand) (ts : Array TypeId) (call : Call) (tm : TM) (h : Hp) (k : Kt) : (cBuiltinE P G E b args ts).f call tm h k = bindK (stepF P G E call (.call ⟨.builtin b, args, ts⟩) tm h) k := by
  have main : b ≠ .clear → (cBuiltin P G b args.toList ts.toList).f call tm h k = bindK (v_builtinE P G b args ts tm h) k := by
    intro hb
    rw [cBuiltin_eq]
    unfold v_builtinE
    have : endOp P (.call ⟨.builtin b, args, ts⟩) tm h = none := by cases b <;> first | rfl | exact absurd rfl hb
    rw [this]
    cases v_builtin P G b args ts tm h <;> rfl
  cases b with
  | clear => rfl
  | _ => exact main (by intro hh; cases hh)
/-- a function's value -/
inductive VF where
  | no
  | at (g : Nat) (first captured : List Value)
  | yld (r : Nat)
def fnV (g : Fn) (a c : List Value) : VF := match g with
  | .func g => .at g a c
  | .yield r => List.rec (motive := fun _ => VF) (List.rec (motive := fun _ => VF) (.yld r) (fun _ _ _ => .no) c) (fun _ _ _ => .no) a
  | _ => .no
def asFn (v : Value) : VF := Value.rec (motive_1 := fun _ => VF) (motive_2 := fun _ => VF) (motive_3 := fun _ => VF) (fun _ => .no) (fun _ _ => .no) (fun _ _ => .no) (fun _ _ _ => .no) (fun _ => .no) (fun _ => .no) (fun _ _ _ => .no) (fun _ => .no) (fun _ => .no) (fun g a c _ _ => fnV g a.toList c.toList) .no (fun _ _ _ => .no) .no (fun _ _ => .no) (fun _ _ => .no) (fun _ _ => .no) .no (fun _ _ _ _ => .no) v
def appR (a b : List Value) : List Value := List.rec (motive := fun _ => List Value) b (fun x _ ih => x :: ih) a
theorem appR_eq : ∀ a b : List Value, appR a b = a ++ b
  | [], b => rfl
  | x :: a, b => by show x :: appR a b = _; rw [appR_eq a b]; rfl
structure CG where
  f : Call → List Value → Hp → Kt → Ans
def cG (g : FuncId) : CG := match fnAt P g with
  | some fn => match fn.body with
    | some _ => ⟨fun call l h k => bindK (call (.fn g) l h) k⟩
    | none => ⟨fun _ l h k => optV (E g l) (fun v => k v h)⟩
  | none => ⟨fun _ _ _ _ => none⟩
def cFv (x : Operand) (args : List Operand) : CO := ⟨fun call tm h k => optV ((compX x).f tm) (fun fv => optL ((compXs args).f tm) (fun l => VF.rec (motive := fun _ => Ans) none (fun g a c => (cG P E g).f call (appR a (appR l c)) h k) (fun r => bindK (call (.yld r) l h) k) (asFn fv)))⟩
theorem cFv_eq (x : Operand) (args : Array Operand) (call : Call) (tm : TM) (h : Hp) (k : Kt) : (cFv P E x args.toList).f call tm h k = bindK (f_callV P E call (opnd tm x) (opnds tm args.toList) h) k := by
  show optV ((compX x).f tm) (fun fv => optL ((compXs args.toList).f tm) (fun l => VF.rec (motive := fun _ => Ans) none (fun g a c => (cG P E g).f call (appR a (appR l c)) h k) (fun r => bindK (call (.yld r) l h) k) (asFn fv))) = _
  simp only [compX_eq, compXs_eq]
  unfold f_callV
  cases opnd tm x with
  | none => rfl
  | some fv =>
    cases opnds tm args.toList with
    | none => rfl
    | some l =>
      show VF.rec (motive := fun _ => Ans) none (fun g a c => (cG P E g).f call (appR a (appR l c)) h k) (fun r => bindK (call (.yld r) l h) k) (asFn fv) = _
      cases fv with
      | func g a c =>
        obtain ⟨a⟩ := a
        obtain ⟨c⟩ := c
        cases g with
        | func g =>
          show (cG P E g).f call (appR a (appR l c)) h k = _
          dsimp only
          have ht : target (.func (.func g) ⟨a⟩ ⟨c⟩) l = some (.fn g, a ++ l ++ c) := rfl
          rw [ht]
          dsimp only
          rw [appR_eq, appR_eq, ← List.append_assoc]
          unfold cG
          simp only [undF_eq, szF_eq, aggF_eq, zcF_eq, fnAt_eq, allSzF_eq, sz1F_eq]
          cases P.funcs[g]? with
          | none => rfl
          | some fn =>
            dsimp only
            cases fn.body with
            | some b => rfl
            | none =>
              show optV (E g (a ++ l ++ c)) (fun v => k v h) = bindK (match E g (a ++ l ++ c) with
                | some v => some (v, h)
                | none => none) k
              cases E g (a ++ l ++ c) <;> rfl
        | yield r =>
          cases a with
          | nil => cases c <;> rfl
          | cons _ _ => rfl
        | _ => rfl
      | _ => rfl
def cCall (c : Go.Call) : CO := match c with
  | { callee := .value (.func g), args, argTypes } => cFn P G E g args.toList ⟨.value (.func g), args, argTypes⟩
  | { callee := .builtin b, args, argTypes } => cBuiltinE P G E b args argTypes
  | { callee := .value f, args, argTypes := _ } => cFv P E f args.toList
  | c => cAny P G E (.call c)

def cConv (s d : TypeId) (x : Operand) : CO := match undF P s with
  | some _ => match undF P d with
    | some (.int k2) => ⟨fun _ tm h k => optV ((compX x).f tm) (fun v => intK v (bindK (v_conv P G s d v h) k) (fun _ n => k (.int k2 (wrapF k2 n)) h))⟩
    | _ => ⟨fun _ tm h k => bindK (v_convert P G s d x tm h) k⟩
  | none => ⟨fun _ tm h k => bindK (v_convert P G s d x tm h) k⟩
theorem cConv_eq (s d : TypeId) (x : Operand) (call : Call) (tm : TM) (h : Hp) (k : Kt) : (cConv P G s d x).f call tm h k = bindK (v_convert P G s d x tm h) k := by
  unfold cConv
  simp only [undF_eq, szF_eq, aggF_eq, zcF_eq, fnAt_eq, allSzF_eq, sz1F_eq]
  cases e1 : P.underlying s with
  | none => rfl
  | some d1 =>
    dsimp only
    cases e2 : P.underlying d with
    | none => rfl
    | some d2 =>
      cases d2 with
      | int k2 =>
        show optV ((compX x).f tm) (fun v => intK v (bindK (v_conv P G s d v h) k) (fun _ n => k (.int k2 (wrapF k2 n)) h)) = _
        rw [compX_eq]
        unfold v_convert
        cases opnd tm x with
        | none => rfl
        | some v =>
          cases v with
          | int i n =>
            show k (.int k2 (wrapF k2 n)) h = bindK (v_conv P G s d (.int i n) h) k
            unfold v_conv v_convI
            dsimp only
            rw [e1, e2]
            rfl
          | _ => rfl
      | _ => rfl

inductive OV where
  | move (x : Operand)
  | pick (a b c : Operand)
  | alloc (t : TypeId)
  | box (t : TypeId) (x : Operand)
  | load (t : TypeId) (x : Operand)
  | store (t : TypeId) (x y : Operand)
  | bin (op : BinOp) (t : TypeId) (x y : Operand)
  | fieldAddr (s : TypeId) (x : Operand) (f : Nat)
  | indexAddr (t : TypeId) (x i : Operand)
  | extract (x : Operand) (i : Nat)
  | iface (t : TypeId) (x : Operand)
  | conv (s d : TypeId) (x : Operand)
  | build (t : TypeId) (ps : Array (Nat × Operand))
  | un (op : UnOp) (x : Operand)
  | call (c : Go.Call)
  | other
def opV (o : Op) : OV := Op.rec (motive := fun _ => OV) (fun a0 => .move a0) (fun a0 => .move a0) (fun a0 a1 a2 => .pick a0 a1 a2) (fun a0 => .alloc a0) (fun a0 a1 => .box a0 a1) (fun a0 a1 => .build a0 a1) (fun _ _ _ => .other) (fun _ _ _ _ => .other) (fun a0 a1 => .load a0 a1) (fun a0 a1 a2 => .store a0 a1 a2) (fun _ => .other) (fun _ => .other) (fun _ => .other) (fun a0 a1 a2 a3 _ => .bin a0 a1 a2 a3) (fun a0 _ a2 => .un a0 a2) (fun a0 a1 a2 => .conv a0 a1 a2) (fun _ _ => .other) (fun a0 a1 => .iface a0 a1) (fun _ _ _ => .other) (fun _ _ => .other) (fun _ _ => .other) (fun _ _ _ => .other) (fun _ _ _ _ _ => .other) (fun a0 a1 a2 => .fieldAddr a0 a1 a2) (fun _ _ _ => .other) (fun a0 a1 a2 => .indexAddr a0 a1 a2) (fun _ _ _ => .other) (fun _ _ _ _ => .other) (fun _ _ _ _ => .other) (fun _ _ _ => .other) (fun _ _ _ _ => .other) (fun _ _ => .other) (fun _ _ => .other) (fun _ => .other) (fun _ _ _ _ => .other) (fun a0 a1 => .extract a0 a1) (fun a0 => .call a0) (fun _ => .other) (fun _ => .other) (fun _ => .other) (fun _ _ => .other) (fun _ _ _ => .other) (fun _ _ => .other) o

/-- one operation -/
def compOp (op : Op) : CO := OV.rec (motive := fun _ => CO) cMove cPick (cAlloc P) cBox (cLoad P G) (cStoreA P) (cBin P) (cFieldAddr P) (cIndexAddr P) cExtract (cIface P) (cConv P G) (cBuild P) (cUn P) (cCall P G E) (cAny P G E op) (opV op)
theorem compOp_eq (op : Op) (call : Call) (tm : TM) (h : Hp) (k : Kt) : (compOp P G E op).f call tm h k = bindK (stepF P G E call op tm h) k := by
  cases op with
  | move x => exact cMove_eq x call tm h k
  | assign x => exact cMove_eq x call tm h k
  | pick a b c => exact cPick_eq a b c call tm h k
  | alloc t => exact cAlloc_eq P t call tm h k
  | box t x => exact cBox_eq t x call tm h k
  | load t x => exact cLoad_eq P G t x call tm h k
  | store t x y => exact cStoreA_eq P t x y call tm h k
  | build t ps => exact cBuild_eq P t ps call tm h k
  | unOp op t x => exact cUn_eq P op x call tm h k
  | binOp a b c d e => exact cBin_eq P a b c d call tm h k
  | fieldAddr s x f => exact cFieldAddr_eq P s x f call tm h k
  | indexAddr t x i => exact cIndexAddr_eq P t x i call tm h k
  | extract x i => exact cExtract_eq x i call tm h k
  | makeInterface t x => exact cIface_eq P t x call tm h k
  | convert s d x => exact cConv_eq P G s d x call tm h k
  | call c =>
    obtain ⟨callee, args, ts⟩ := c
    cases callee with
    | value f =>
      cases f with
      | func g => exact cFn_eq P G E g args ts call tm h k
      | _ => exact cFv_eq P E _ args call tm h k
    | builtin b => exact cBuiltinE_eq P G E b args ts call tm h k
    | invoke x n => rfl
  | _ => rfl

/-! ### rows of operations -/
def seqO (d : Option Nat) (nt : Nat) (c : CO) (rest : CL) : CL := match d with
  | none => ⟨fun call tm h => c.f call tm h (fun _ h => rest.f call tm h)⟩
  | some d => Bool.rec (motive := fun _ => CL) ⟨fun _ _ _ => none⟩ ⟨fun call tm h => c.f call tm h (fun v h => rest.f call ((setC (Nat.succ d) d).f tm v) h)⟩ (Nat.ble (Nat.succ d) nt)
def skipO (d : Option Nat) (nt : Nat) (rest : CL) : CL := match d with
  | none => rest
  | some d => Bool.rec (motive := fun _ => CL) ⟨fun _ _ _ => none⟩ ⟨fun call tm h => rest.f call ((setC (Nat.succ d) d).f tm undef) h⟩ (Nat.ble (Nat.succ d) nt)
def guardC (c : Option Bool) (a b : Ans) : Ans := Option.rec (motive := fun _ => Ans) none (fun q => Bool.rec (motive := fun _ => Ans) b a q) c
def compOper (all : List Oper) (nt : Nat) (o : Oper) (rest : CL) : CL := match o.guard with
  | none => seqO o.dst nt (compOp P G E o.op) rest
  | some g => ⟨fun call tm h => guardC (guardOk all tm (some g)) ((seqO o.dst nt (compOp P G E o.op) rest).f call tm h) ((skipO o.dst nt rest).f call tm h)⟩
def compOps (all : List Oper) (nt : Nat) (l : List Oper) : CL := List.rec (motive := fun _ => CL) ⟨fun _ tm h => some (tm, h)⟩ (fun o _ ih => compOper P G E all nt o ih) l

theorem seqO_eq (d : Option Nat) (nt : Nat) (op : Op) (rest : CL) (call : Call) (tm : TM) (h : Hp) :
    (seqO d nt (compOp P G E op) rest).f call tm h = match stepF P G E call op tm h with
      | some (v, h) => match putT tm d nt v with
        | some tm => rest.f call tm h
        | none => none
      | none => none := by
  cases d with
  | none =>
    show (compOp P G E op).f call tm h (fun _ h => rest.f call tm h) = _
    rw [compOp_eq]
    cases stepF P G E call op tm h with
    | none => rfl
    | some p => obtain ⟨v, h⟩ := p; rfl
  | some d =>
    show (Bool.rec (motive := fun _ => CL) ⟨fun _ _ _ => none⟩ ⟨fun call tm h => (compOp P G E op).f call tm h (fun v h => rest.f call ((setC (Nat.succ d) d).f tm v) h)⟩ (Nat.ble (Nat.succ d) nt) : CL).f call tm h = (match stepF P G E call op tm h with
      | some (v, h) => match (match Nat.ble (Nat.succ d) nt with | true => some (tm.set d v) | false => none) with
        | some tm => rest.f call tm h
        | none => none
      | none => none)
    cases Nat.ble (Nat.succ d) nt with
    | false => cases stepF P G E call op tm h <;> rfl
    | true =>
      show (compOp P G E op).f call tm h (fun v h => rest.f call ((setC (Nat.succ d) d).f tm v) h) = _
      rw [compOp_eq]
      simp only [setC_set]
      cases stepF P G E call op tm h with
      | none => rfl
      | some p => obtain ⟨v, h⟩ := p; rfl
theorem skipO_eq (d : Option Nat) (nt : Nat) (rest : CL) (call : Call) (tm : TM) (h : Hp) :
    (skipO d nt rest).f call tm h = match putT tm d nt undef with
        | some tm => rest.f call tm h
        | none => none := by
  cases d with
  | none => rfl
  | some d =>
    show (Bool.rec (motive := fun _ => CL) ⟨fun _ _ _ => none⟩ ⟨fun call tm h => rest.f call ((setC (Nat.succ d) d).f tm undef) h⟩ (Nat.ble (Nat.succ d) nt) : CL).f call tm h = (match (match Nat.ble (Nat.succ d) nt with | true => some (tm.set d undef) | false => none) with
        | some tm => rest.f call tm h
        | none => none)
    cases Nat.ble (Nat.succ d) nt with
    | false => rfl
    | true => show rest.f call ((setC (Nat.succ d) d).f tm undef) h = _; rw [setC_set]
theorem compOps_eq (all : List Oper) (nt : Nat) (call : Call) : ∀ (l : List Oper) (tm : TM) (h : Hp), (compOps P G E all nt l).f call tm h = runOps P G E call all nt l tm h
  | [], tm, h => rfl
  | o :: l, tm, h => by
    rw [runOps_cons]
    show (compOper P G E all nt o (compOps P G E all nt l)).f call tm h = _
    have ih := compOps_eq all nt call l
    unfold compOper
    cases hg : o.guard with
    | none =>
      show (seqO o.dst nt (compOp P G E o.op) (compOps P G E all nt l)).f call tm h = _
      rw [seqO_eq]
      simp only [ih]
      rfl
    | some g =>
      show guardC (guardOk all tm (some g)) ((seqO o.dst nt (compOp P G E o.op) (compOps P G E all nt l)).f call tm h) ((skipO o.dst nt (compOps P G E all nt l)).f call tm h) = _
      rw [seqO_eq, skipO_eq]
      simp only [ih]
      cases guardOk all tm (some g) with
      | none => rfl
      | some q => cases q <;> rfl

/-! ### code -/
structure CC where
  f : Call → Rec → TM → Hp → Res
def compC (DC : Array Oper → Nat → CL) (c : Code) (nt : Nat) : CC := match c with
  | .skip => ⟨fun _ _ tm h => some (.normal, tm, h)⟩
  | .label _ => ⟨fun _ _ tm h => some (.normal, tm, h)⟩
  | .ret => ⟨fun _ _ tm h => some (.ret, tm, h)⟩
  | .exit id => ⟨fun _ _ tm h => some (.exit id, tm, h)⟩
  | .region _ ops d => Bool.rec (motive := fun _ => CC) ⟨fun call _ tm h => c_normal ((compOps P G E ops.toList nt ops.toList).f call tm h)⟩ ⟨fun call _ tm h => c_normal ((DC ops nt).f call tm h)⟩ d
  | .seq a b => ⟨fun _ rec_ tm h => c_then rec_ b nt (rec_ a nt tm h)⟩
  | .cond c a b => ⟨fun _ rec_ tm h => Option.rec (motive := fun _ => Res) none (fun v => VB.rec (motive := fun _ => Res) none (fun q => Bool.rec (motive := fun _ => Res) (rec_ b nt tm h) (rec_ a nt tm h) q) (asBool v)) ((compX c).f tm)⟩
  | .block id b => ⟨fun _ rec_ tm h => c_block id (rec_ b nt tm h)⟩
  | .loop b => ⟨fun _ rec_ tm h => c_then rec_ (.loop b) nt (rec_ b nt tm h)⟩
  | .rangeFunc g ps a b => ⟨fun call _ tm h => runRF P call g ps.toList a b nt tm h⟩
  | _ => ⟨fun _ _ _ _ => none⟩
theorem compC_eq (DC : Array Oper → Nat → CL) (c : Code) (nt : Nat) (call : Call) (rec_ : Rec) (tm : TM) (h : Hp) : (compC P G E DC c nt).f call rec_ tm h = runCodeF P G E (fun call ops nt tm h => (DC ops nt).f call tm h) call rec_ c nt tm h := by
  cases c with
  | region id ops d =>
    cases d with
    | false =>
      show c_normal ((compOps P G E ops.toList nt ops.toList).f call tm h) = c_normal (runOps P G E call ops.toList nt ops.toList tm h)
      rw [compOps_eq]
    | true => rfl
  | cond c a b =>
    show Option.rec (motive := fun _ => Res) none (fun v => VB.rec (motive := fun _ => Res) none (fun q => Bool.rec (motive := fun _ => Res) (rec_ b nt tm h) (rec_ a nt tm h) q) (asBool v)) ((compX c).f tm) = c_cond rec_ a b nt tm h (opnd tm c)
    rw [compX_eq]
    cases opnd tm c with
    | none => rfl
    | some v => cases v <;> rfl
  | _ => rfl

/-! ### functions -/
structure CF where
  f : Rec → List Value → Hp → Option (Value × Hp)
structure CR where
  f : TM → Hp → Option (List Value)
def cellR (t : TypeId) (h : Hp) (v : Option Value) : Option Value := Option.rec (motive := fun _ => Option Value) none (fun v => VP.rec (motive := fun _ => Option Value) none (fun a => ld P G t h a) (asPtr v)) v
def resC (l : List ResultVar) : CR := List.rec (motive := fun _ => CR) ⟨fun _ _ => some []⟩ (fun r _ ih => match r with
  | .tmp t => ⟨fun tm h => consO ((getC (Nat.succ t) t).f tm) (ih.f tm h)⟩
  | .cell a t => ⟨fun tm h => consO (cellR P G t h ((getC (Nat.succ a) a).f tm)) (ih.f tm h)⟩) l
theorem resC_eq (tm : TM) (h : Hp) : ∀ (l : List ResultVar), (resC P G l).f tm h = resV P G tm h l
  | [] => rfl
  | .tmp t :: l => by
    show consO ((getC (Nat.succ t) t).f tm) ((resC P G l).f tm h) = _
    rw [getC_eq _ _ _ (Nat.lt_succ_self t), resC_eq tm h l]
    simp only [resV]
    cases tm.get t <;> cases resV P G tm h l <;> rfl
  | .cell a t :: l => by
    show consO (cellR P G t h ((getC (Nat.succ a) a).f tm)) ((resC P G l).f tm h) = _
    rw [getC_eq _ _ _ (Nat.lt_succ_self a), resC_eq tm h l]
    simp only [resV]
    cases tm.get a with
    | none => rfl
    | some v =>
      cases v with
      | pointer p =>
        cases p with
        | none => rfl
        | some p =>
          show consO (ld P G t h p) (resV P G tm h l) = _
          dsimp only
          cases ld P G t h p <;> cases resV P G tm h l <;> rfl
      | _ => rfl
def oneOf (l : List Value) (h : Hp) : Value × Hp := List.rec (motive := fun _ => Value × Hp) (.tuple ⟨[]⟩, h) (fun v r _ => List.rec (motive := fun _ => Value × Hp) (v, h) (fun u r' _ => (.tuple ⟨v :: u :: r'⟩, h)) r) l
def finR (r : Option (List Value)) (h : Hp) : Option (Value × Hp) := Option.rec (motive := fun _ => Option (Value × Hp)) none (fun l => some (oneOf l h)) r
theorem finR_eq (tm : TM) (h : Hp) (l : List ResultVar) : finR ((resC P G l).f tm h) h = finish P G tm h l := by
  rw [resC_eq]
  unfold finish
  cases resV P G tm h l with
  | none => rfl
  | some l =>
    cases l with
    | nil => rfl
    | cons v l => cases l <;> rfl
def endF (l : CR) (r : Res) : Option (Value × Hp) := Option.rec (motive := fun _ => Option (Value × Hp)) none (fun p => Prod.rec (motive := fun _ => Option (Value × Hp)) (fun e q => Prod.rec (motive := fun _ => Option (Value × Hp)) (fun tm h =>
  Ex.rec (motive := fun _ => Option (Value × Hp)) (finR (l.f tm h) h) (fun _ => none) (fun _ => none) (finR (l.f tm h) h) e) q) p) r
def putF (l : List Value) (k : Nat) (t : TM) : TM := List.rec (motive := fun _ => Nat → TM → TM) (fun _ t => t) (fun v _ ih k t => ih (Nat.succ k) ((setC (Nat.succ k) k).f t v)) l k t
theorem putF_eq : ∀ (l : List Value) (k : Nat) (t : TM), putF l k t = Tr.putL t k l
  | [], k, t => rfl
  | v :: l, k, t => by
    rw [Tr.putL_cons, ← setC_set]
    exact putF_eq l (k + 1) _
def compF (f : FuncId) : CF := match fnAt P f with
  | none => ⟨fun _ _ _ => none⟩
  | some fn => match fn.body with
    | none => ⟨fun _ _ _ => none⟩
    | some c => ⟨fun rec_ args h => Bool.rec (motive := fun _ => Option (Value × Hp)) none (endF (resC P G fn.results.toList) (rec_ c fn.ntmps (putF args (nat_lit 0) .e) h)) (Nat.ble (lenR args) fn.ntmps)⟩
theorem compF_eq (rec_ : Rec) (f : FuncId) (args : List Value) (h : Hp) : (compF P G f).f rec_ args h = callFn P G rec_ f args h := by
  unfold compF callFn
  simp only [undF_eq, szF_eq, aggF_eq, zcF_eq, fnAt_eq, allSzF_eq, sz1F_eq]
  cases P.funcs[f]? with
  | none => rfl
  | some fn =>
    dsimp only
    cases fn.body with
    | none => rfl
    | some c =>
      show Bool.rec (motive := fun _ => Option (Value × Hp)) none (endF (resC P G fn.results.toList) (rec_ c fn.ntmps (putF args 0 .e) h)) (Nat.ble (lenR args) fn.ntmps) = _
      rw [lenR_eq, putF_eq]
      cases Nat.ble args.length fn.ntmps with
      | false => rfl
      | true =>
        show endF (resC P G fn.results.toList) (rec_ c fn.ntmps (Tr.putL .e 0 args) h) = (match rec_ c fn.ntmps (Tr.putL .e 0 args) h with
          | some (.normal, tm, h) => finish P G tm h fn.results.toList
          | some (.ret, tm, h) => finish P G tm h fn.results.toList
          | _ => none)
        cases rec_ c fn.ntmps (Tr.putL .e 0 args) h with
        | none => rfl
        | some p =>
          obtain ⟨e, tm, h⟩ := p
          cases e with
          | normal => exact finR_eq P G tm h _
          | ret => exact finR_eq P G tm h _
          | _ => rfl
/-- a call, of a function or a loop's round -/
def compT (rec_ : Rec) : Call := fun t args h => Tg.rec (motive := fun _ => Option (Value × Hp)) (fun f => (compF P G f).f rec_ args h) (fun r => yldF rec_ r args h) t
theorem compT_eq (rec_ : Rec) : compT P G rec_ = callF P G rec_ := by
  funext t args h
  cases t with
  | fn f => exact compF_eq P G rec_ f args h
  | yld r => rfl
end
end Go.Sim


