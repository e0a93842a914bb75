/-
  Proved here: the evaluator's soundness: what it tells of a call holds of the model's call under every draw, where the program's functions bear no name that the model singles out and mixed orders are followed; and how a row's data tell what variables hold.
-/
import Derived.Test.YthhkgbbmaimgkaaGreatDoorSim1
import Derived.KernelRfl
import Derived.OpenShut
import Derived.MakeChecks
import Derived.FnData
set_option linter.unusedVariables false
set_option linter.unusedSimpArgs false
namespace Go.Sim
variable {P : Program} {G : Nat → Option (List Value)}
section
variable {m : Ren} {F : Nat → Prop} {K : World} {h h' : Hp} {w : World} {nt : Nat} {tm : TM} {a : Act} {v : Value}

/-! ### parts -/
theorem part_sound {t : TypeId} {cs cs' : List Value} {off : Nat} (e : partOp P t cs off = some v) (hc : renOs m cs = some cs') : ∃ v', renO m v = some v' ∧ ∀ w : World, (part t ⟨cs'⟩ off).run P w = .ok v' w := by
  unfold partOp at e
  split at e
  · rename_i n hq hn
    split at e
    · rename_i hle
      cases e
      refine ⟨.agg ⟨(cs'.drop off).take n⟩, by simp only [renO, renOs_take n (renOs_drop off hc)], fun w => ?_⟩
      simp only [part, Sem.run_bind, run_agg hq, Result.andThen_ok, if_true, run_info hn, Sem.run_pure]
      congr 2
      apply Array.ext'
      simp [List.extract_eq_take_drop]
    · cases e
  · rename_i hq
    obtain ⟨v', h1, h2⟩ := renOs_get hc _ _ e
    refine ⟨v', h1, fun w => ?_⟩
    have : (⟨cs'⟩ : Array Value)[off]? = some v' := by simpa using h2
    simp [part, run_agg hq, this]
  · cases e

theorem op_field (r : Rel P G m F K h w) {t : TypeId} {cs : List Value} {x : Value} {fs : Array Field} {f : Nat} {fd : Field} (hx : renO m (.agg ⟨cs⟩) = some x) (ht : P.underlying t = some (.struct fs)) (hf : fs.toList[f]? = some fd)
    (e : partOp P fd.type cs fd.offset = some v) : OpQ P m v w ((do pure (.value (← Instr.field t x f)) : Sem Next).run P w) := by
  obtain ⟨cs', h1, rfl⟩ := renO_aggI hx
  obtain ⟨v', h2, h3⟩ := part_sound e h1
  have hf' : fs[f]? = some fd := by simpa using hf
  exact .of_value (v' := v') (by simp [Instr.field, run_und ht, hf', asAgg, h3]) h2

theorem op_indexAgg (r : Rel P G m F K h w) {t e : TypeId} {n i size : Nat} {cs : List Value} {x y iv : Value} (hx : renO m (.agg ⟨cs⟩) = some x) (hy : renO m iv = some y) (hi : natOf iv = some i)
    (ht : P.underlying t = some (.array n e)) (hn : szOf P e = some size) (hlt : i < n) (hp : partOp P e cs (i * size) = some v) :
    OpQ P m v w ((do pure (.value (← Instr.index t x y)) : Sem Next).run P w) := by
  obtain ⟨cs', h1, rfl⟩ := renO_aggI hx
  obtain ⟨k, rfl⟩ := natOf_some hi
  obtain rfl := renO_int hy
  obtain ⟨v', h2, h3⟩ := part_sound hp h1
  refine .of_value (v' := v') ?_ h2
  have h2' : (0 : Int) ≤ i ∧ (i : Int) < n := ⟨by omega, by omega⟩
  simp only [Instr.index, asIntOf, Sem.run_bind, Sem.run_pure, Result.andThen_ok, run_und ht, if_pos h2', run_info hn, Int.toNat_natCast, h3]

theorem op_indexString (r : Rel P G m F K h w) {t : TypeId} {i : Nat} {s : ByteArray} {b : UInt8} {x y iv : Value} (hx : renO m (.string s) = some x) (hy : renO m iv = some y) (hi : natOf iv = some i)
    (ht : P.underlying t = some .string) (hb : s.data.toList[i]? = some b) :
    OpQ P m (.int .u8 b.toNat) w ((do pure (.value (← Instr.index t x y)) : Sem Next).run P w) := by
  obtain rfl := renO_string hx
  obtain ⟨k, rfl⟩ := natOf_some hi
  obtain rfl := renO_int hy
  refine .of_value (v' := .int .u8 b.toNat) ?_ (by simp [renO])
  have hlt : i < s.size := by have := lgetElem?_lt hb; simpa using this
  have hg : s[i]? = some b := by
    rw [ByteArray.getElem?_lt' s i hlt]
    have : s.data.toList[i]? = some s[i] := by rw [Array.getElem?_toList, Array.getElem?_eq_getElem hlt]; rfl
    rw [this] at hb
    exact hb
  have h0 : (0 : Int) ≤ i := by omega
  simp only [Instr.index, asIntOf, Sem.run_bind, Sem.run_pure, Result.andThen_ok, run_und ht, if_pos h0, Int.toNat_natCast, hg]

/-! ### maps -/
theorem baBeq (a b : ByteArray) : (a == b) = (a.data.toList == b.data.toList) := by
  obtain ⟨⟨a⟩⟩ := a
  obtain ⟨⟨b⟩⟩ := b
  show ((⟨a⟩ : Array UInt8) == ⟨b⟩) = _
  simp

theorem keyEq_same {d : TypeDesc} {k e : Value} {q : Bool} (hk : kindOk (some d) k = true) (hq : keyEq k e = some q) : Instr.sameNow d k e = some q := by
  unfold keyEq at hq
  split at hq
  · split at hq
    · rename_i he
      cases hq
      have he := of_decide_eq_true he
      subst he
      cases d <;> simp [kindOk] at hk
      simp [Instr.sameNow]
      exact Bool.beq_eq_decide_eq ..
    · cases hq
  · cases hq
    cases d <;> simp [kindOk] at hk
    rename_i a b
    simp only [Instr.sameNow, bytesEq_iff]
    rw [baBeq]
  · cases hq
    cases d <;> simp [kindOk] at hk
    rfl
  · cases hq

theorem find_sound {d : TypeDesc} {k : Value} (hk : kindOk (some d) k = true) : ∀ {es : List (Value × Value)} {ms : List MapEntry} (i : Nat) {o : Option Value}, entR m es ms → mapFind k es = some o →
    (o = none ∧ Instr.findNow d k ms i = some none) ∨ ∃ v v' j, o = some v ∧ renO m v = some v' ∧ Instr.findNow d k ms i = some (some (j, v'))
  | [], [], i, o, _, h => by simp only [mapFind, Option.some.injEq] at h; subst h; exact .inl ⟨rfl, rfl⟩
  | [], _ :: _, i, o, h, _ => h.elim
  | _ :: _, [], i, o, h, _ => h.elim
  | (k', v) :: es, e :: ms, i, o, hr, h => by
    obtain ⟨h1, h2, h3, h4⟩ := hr
    obtain rfl := noA_inv h2 h1
    simp only [mapFind] at h
    cases hq : keyEq k e.key with
    | none => rw [hq] at h; cases h
    | some q =>
      rw [hq] at h
      have hs := keyEq_same hk hq
      cases q with
      | true =>
        cases h
        exact .inr ⟨v, e.val, i, rfl, h3, by simp only [Instr.findNow, hs]⟩
      | false =>
        dsimp only at h
        have := find_sound hk (i + 1) h4 h
        simp only [Instr.findNow, hs]
        exact this

theorem run_checkKey {t : TypeId} {d : TypeDesc} {k : Value} (ht : P.underlying t = some d) (hk : kindOk (some d) k = true) (b : Bool) (w : World) : (Instr.checkKey b 10000 t k).run P w = .ok () w := by
  rw [show (10000 : Nat) = 9999 + 1 from rfl, Instr.checkKey]
  cases d <;> simp [kindOk] at hk <;> cases k <;> simp at hk <;> simp [run_und ht]

theorem op_lookup (r : Rel P G m F K h w) {t kt e : TypeId} {rr : Option Nat} {k x y : Value} {ok : Bool} {es : List (Value × Value)} {o : Option Value} {d : TypeDesc} (hx : renO m (.map rr) = some x) (hy : renO m k = some y) (ht : P.underlying t = some (.map kt e)) (hkt : P.underlying kt = some d)
    (hes : mapOf h rr = some es) (hk : kindOk (some d) k = true) (hf : mapFind k es = some o) {z : Value} (hz : o = none → zeroQ P e = some z ∧ noA z = true)
    (hv : v = (if ok then .tuple ⟨[o.getD z, .bool o.isSome]⟩ else o.getD z)) :
    OpQ P m v w ((do pure (.value (← Instr.lookup t x y ok)) : Sem Next).run P w) := by
  have hky : y = k := by
    have : noA k = true := by unfold kindOk at hk; split at hk <;> first | rfl | cases hk
    exact noA_inv this hy
  subst hky
  have main : ∀ (ms : Array MapEntry), entR m es ms.toList → ∃ v', renO m v = some v' ∧ ((do
      Instr.checkKey ms.isEmpty 10000 kt y
      let (v, q) ← match ← Instr.findKey kt y ms.toList with
        | some (_, v) => pure (v, true)
        | none => pure (← zeroValue e, false)
      pure (if ok then .tuple #[v, .bool q] else v)) : Sem Value).run P w = .ok v' w := by
    intro ms hr
    rcases find_sound hk 0 hr hf with ⟨rfl, h1⟩ | ⟨v1, v1', j, rfl, h2, h1⟩
    · obtain ⟨hz1, hz2⟩ := hz rfl
      have hfk : (Instr.findKey kt y ms.toList).run P w = .ok none w := by simp [Instr.findKey, run_und hkt, h1]
      subst hv
      refine ⟨if ok then .tuple #[z, .bool false] else z, ?_, ?_⟩
      · cases ok
        · simpa using renO_noA m z hz2
        · simp [renO, renOs, renO_noA m z hz2]
      · simp [run_checkKey hkt hk, hfk, run_zero hz1]
    · have hfk : (Instr.findKey kt y ms.toList).run P w = .ok (some (j, v1')) w := by simp [Instr.findKey, run_und hkt, h1]
      subst hv
      refine ⟨if ok then .tuple #[v1', .bool true] else v1', ?_, ?_⟩
      · cases ok
        · simpa using h2
        · simp [renO, renOs, h2]
      · simp [run_checkKey hkt hk, hfk]
  unfold mapOf at hes
  cases rr with
  | none =>
    cases hes
    obtain rfl : _ = x := by simpa [renO] using hx
    obtain ⟨v', h1, h2⟩ := main #[] trivial
    refine .of_value (v' := v') ?_ h1
    simp only [Instr.lookup, Sem.run_bind, run_und ht, Result.andThen_ok, Sem.run_pure]
    simp only [Sem.run_bind] at h2; exact h2
  | some q =>
    dsimp only at hes
    cases hb : bk q with
    | old g => rw [hb] at hes; cases hes
    | new i =>
      rw [hb] at hes
      dsimp only at hes
      cases ho : h.bs.get i with
      | none => rw [ho] at hes; cases hes
      | some ob =>
        rw [ho] at hes
        cases ob with
        | dead => cases hes
        | cells _ _ _ => cases hes
        | map es2 =>
          cases hes
          simp only [renO, hb] at hx
          cases h1 : m i with
          | none => rw [h1] at hx; cases hx
          | some b =>
          rw [h1] at hx
          obtain ⟨ms, cl, h2, h3, h4⟩ := r.obj i _ ho b h1
          have hx' : x = .map (some b.blk) := (Option.some.inj hx).symm
          subst hx'
          have hg : (getObj b.blk).run P w = .ok (.map ms cl) w := by simp [getObj, Sem.run, h3]
          obtain ⟨v', g1, g2⟩ := main ms h4
          refine .of_value (v' := v') ?_ g1
          simp only [Instr.lookup, Sem.run_bind, run_und ht, Result.andThen_ok, Sem.run_pure, hg]
          simp only [Sem.run_bind] at g2; exact g2

theorem put_sound {d : TypeDesc} {k v v' : Value} (hk : kindOk (some d) k = true) (hv : renO m v = some v') : ∀ {es es' : List (Value × Value)} {ms : List MapEntry} (i : Nat), entR m es ms → mapPut k v es = some es' →
    (Instr.findNow d k ms i = some none ∧ ∀ born, entR m es' (ms ++ [{ key := k, val := v', born := born }])) ∨
      ∃ j e u, Instr.findNow d k ms i = some (some (i + j, u)) ∧ ms[j]? = some e ∧ e.key = k ∧ entR m es' (ms.set j { e with key := k, val := v' })
  | [], es', [], i, _, h => by
    simp only [mapPut, Option.some.injEq] at h
    subst h
    refine .inl ⟨rfl, fun born => ?_⟩
    have hn : noA k = true := by unfold kindOk at hk; split at hk <;> first | rfl | cases hk
    exact ⟨renO_noA m k hn, hn, hv, trivial⟩
  | [], _, _ :: _, i, h, _ => h.elim
  | _ :: _, _, [], i, h, _ => h.elim
  | (k', u) :: es, es', e :: ms, i, hr, h => by
    obtain ⟨h1, h2, h3, h4⟩ := hr
    obtain hke := noA_inv h2 h1
    subst hke
    simp only [mapPut] at h
    have hn : noA k = true := by unfold kindOk at hk; split at hk <;> first | rfl | cases hk
    cases hq : keyEq k e.key with
    | none => rw [hq] at h; cases h
    | some q =>
      rw [hq] at h
      have hs := keyEq_same hk hq
      cases q with
      | true =>
        cases h
        have hek : e.key = k := by
          unfold keyEq at hq
          split at hq
          · rename_i ke a kk b hk2
            split at hq
            · rename_i he
              have he := of_decide_eq_true he
              have hb : decide (a = b) = true := Option.some.inj hq
              have := of_decide_eq_true hb
              rw [hk2, he, this]
            · cases hq
          · rename_i a b hk2
            have hb := Option.some.inj hq
            rw [bytesEq_iff] at hb
            have : a = b := by apply ByteArray.ext; exact Array.toList_inj.1 (by simpa using hb)
            rw [hk2, this]
          · rename_i a b hk2
            have hb := Option.some.inj hq
            rw [hk2]; congr 1; exact (by simpa using hb : a = b).symm
          · cases hq
        refine .inr ⟨0, e, e.val, by simp only [Instr.findNow, hs, Nat.add_zero], rfl, hek, ?_⟩
        exact ⟨renO_noA m k hn, hn, hv, h4⟩
      | false =>
        dsimp only at h
        cases hp : mapPut k v es with
        | none => rw [hp] at h; cases h
        | some es2 =>
          rw [hp] at h
          cases h
          rcases put_sound hk hv (i + 1) h4 hp with ⟨g1, g2⟩ | ⟨j, e2, u2, g1, g2, g3, g4⟩
          · exact .inl ⟨by simp only [Instr.findNow, hs, g1], fun born => ⟨h1, h2, h3, g2 born⟩⟩
          · refine .inr ⟨j + 1, e2, u2, by simp only [Instr.findNow, hs, g1]; rw [show i + 1 + j = i + (j + 1) by omega], by simpa using g2, g3, ?_⟩
            exact ⟨h1, h2, h3, g4⟩

/-- a map is given other entries -/
theorem Rel.setMap (r : Rel P G m F K h w) {i : Nat} {es es' : List (Value × Value)} {b : BI} {ms ms' : Array MapEntry} {cl cl' : Nat} (hi : h.bs.get i = some (.map es)) (hb : m i = some b) (hF : ¬ F b.blk)
    (hh : w.heap[b.blk]? = some (.map ms cl)) (he : entR m es' ms'.toList) :
    Rel P G m F K { h with bs := h.bs.set i (.map es') } { w with heap := w.heap.setIfInBounds b.blk (.map ms' cl') } := by
  have hlt := getElem?_lt' hh
  have hother : ∀ q, q ≠ b.blk → (w.heap.setIfInBounds b.blk (.map ms' cl'))[q]? = w.heap[q]? := fun q hq => by rw [Array.getElem?_setIfInBounds, if_neg (fun e => hq e.symm)]
  refine ⟨r.len, r.os, r.tape, r.output, by simpa using r.size, fun q hq => ⟨(r.fr q hq).1, ?_⟩, r.glob, ?_, ?_⟩
  · rw [show ({ w with heap := w.heap.setIfInBounds b.blk (.map ms' cl') } : World).heap[q]? = w.heap[q]? from hother q (fun e => hF (e ▸ hq))]
    exact (r.fr q hq).2
  · intro j o hj
    rw [Tr.get_set] at hj
    by_cases e : i = j
    · rw [if_pos e] at hj; cases hj; subst e
      intro b2 hb2
      rw [hb] at hb2; cases hb2
      exact ⟨ms', cl', hF, by simp [hlt], he⟩
    · rw [if_neg e] at hj
      refine ObjR_heap (r.obj j o hj) fun hl b2 hb2 => hother _ fun eb => ?_
      exact e (r.inj i j _ o b b2 hi hj trivial hl hb hb2 eb.symm)
  · intro j1 j2 o1 o2 b1 b2 hj1 hj2 l1 l2
    rw [Tr.get_set] at hj1 hj2
    have key : ∀ j o, (if i = j then some (AObj.map es') else h.bs.get j) = some o → o.live → ∃ o', h.bs.get j = some o' ∧ o'.live := by
      intro j o ho hl
      by_cases e : i = j
      · subst e; exact ⟨_, hi, trivial⟩
      · rw [if_neg e] at ho; exact ⟨o, ho, hl⟩
    obtain ⟨o1', h1', l1'⟩ := key _ _ hj1 l1
    obtain ⟨o2', h2', l2'⟩ := key _ _ hj2 l2
    exact r.inj j1 j2 o1' o2' b1 b2 h1' h2' l1' l2'

theorem sb_int (n : Nat) (k : IntKind) (a : Int) : Instr.sameBits n (.int k a) (.int k a) = true := by cases n <;> (show (k == k && a == a) = true; simp)
theorem sb_string (n : Nat) (a : ByteArray) : Instr.sameBits n (.string a) (.string a) = true := by cases n <;> (show (a == a) = true; simp [baBeq])
theorem sb_bool (n : Nat) (a : Bool) : Instr.sameBits n (.bool a) (.bool a) = true := by cases n <;> (show (a == a) = true; simp)
theorem sameBits_plain {d : TypeDesc} {k : Value} (hk : kindOk (some d) k = true) (n : Nat) : Instr.sameBits n k k = true := by
  unfold kindOk at hk
  split at hk
  · exact sb_int ..
  · exact sb_string ..
  · exact sb_bool ..
  · cases hk

theorem op_mapStore (r : Rel P G m F K h w) {t rr : Nat} {k v x y z u : Value} (hx : renO m (.map (some rr)) = some x) (hy : renO m k = some y) (hz : renO m v = some z) (e : mapStore P t rr k v h = some (u, h')) :
    OpOk P G m F K h h' u ((do Instr.mapUpdate t x y z; pure .skip : Sem Next).run P w) := by
  unfold mapStore at e
  split at e
  · rename_i kt el ht
    split at e
    · rename_i i hk hb
      split at e
      · rename_i es hi
        split at e
        · rename_i es' hp
          cases e
          cases hkt : P.underlying kt with
          | none => rw [hkt] at hk; simp [kindOk] at hk
          | some d =>
            rw [hkt] at hk
            have hn : noA k = true := by unfold kindOk at hk; split at hk <;> first | rfl | cases hk
            have hyk := noA_inv hn hy
            subst hyk
            simp only [renO, hb] at hx
            cases h1 : m i with
            | none => rw [h1] at hx; cases hx
            | some b =>
            rw [h1] at hx
            obtain ⟨ms, cl, h2, h3, h4⟩ := r.obj i _ hi b h1
            have hx' : x = .map (some b.blk) := (Option.some.inj hx).symm
            subst hx'
            have hg : (getObj b.blk).run P w = .ok (.map ms cl) w := by simp [getObj, Sem.run, h3]
            have hset : ∀ ms' cl', (setObj b.blk (.map ms' cl')).run P w = .ok () { w with heap := w.heap.setIfInBounds b.blk (.map ms' cl') } := by intro ms' cl'; simp [setObj, Sem.run, h3]
            rcases put_sound hk hz 0 h4 hp with ⟨g1, g2⟩ | ⟨j, en, u2, g1, g2, g3, g4⟩
            · have hfk : (Instr.findKey kt y ms.toList).run P w = .ok none w := by simp [Instr.findKey, run_und hkt, g1]
              refine ⟨m, undef, _, Step.set h1 _, by simp [undef, renO, renOs], r.setMap hi h1 h2 h3 (ms' := ms.push { key := y, val := z, born := cl }) (cl' := cl + 1) (by simpa using g2 cl), .inr ⟨bind_unit ?_, rfl⟩⟩
              simp [Instr.mapUpdate, run_und ht, hg, run_checkKey hkt hk, hfk, hset]
            · have hfk : (Instr.findKey kt y ms.toList).run P w = .ok (some (j, u2)) w := by simp [Instr.findKey, run_und hkt, g1]
              have hgj : ms[j]? = some en := by simpa using g2
              have hstay : (Instr.keyThatStays en.key y).run P w = .ok y w := by rw [g3]; simp [Instr.keyThatStays, sameBits_plain hk]
              refine ⟨m, undef, _, Step.set h1 _, by simp [undef, renO, renOs], r.setMap hi h1 h2 h3 (ms' := ms.modify j fun e => { e with key := y, val := z }) (cl' := cl) ?_, .inr ⟨bind_unit ?_, rfl⟩⟩
              · have : (ms.modify j fun e => { e with key := y, val := z }).toList = ms.toList.set j { en with key := y, val := z } := by
                  apply List.ext_getElem?
                  intro q
                  rw [Array.getElem?_toList, Array.getElem?_modify, List.getElem?_set, Array.getElem?_toList]
                  by_cases hq : j = q
                  · subst hq
                    have := getElem?_lt' hgj
                    have hge : ms[j] = en := by rw [Array.getElem?_eq_getElem this] at hgj; exact Option.some.inj hgj
                    simp [hgj, this, hge]
                  · simp [hq]
                rw [this]; exact g4
              · simp [Instr.mapUpdate, run_und ht, hg, run_checkKey hkt hk, hfk, hset, hgj, hstay]
        · cases e
      · cases e
    · cases e
  · cases e

theorem op_makeMap {s : Sem Value} (hs : s.run P w = .ok (.map (some w.heap.size)) (w.alloc (.map #[] 0))) :
    OpA P m F h { next := h.next + 1, bs := h.bs.set h.next (.map []) } (.map (some (2 * h.next))) w ((do pure (.value (← s)) : Sem Next).run P w) := by
  refine ⟨_, _, ⟨_, _, rfl, rfl, fun m' he hm => ?_, fun m' he hm hF => ?_⟩, bind_value hs⟩
  · simp only [renO, bk_new, hm]
  · intro b hb
    rw [hm] at hb; cases hb
    refine ⟨#[], 0, hF, ?_, trivial⟩
    show (w.heap.push _)[w.heap.size]? = _
    simp
end
end Go.Sim


namespace Go.Sim
variable {P : Program} {G : Nat → Option (List Value)}
section
variable {m : Ren} {F : Nat → Prop} {K : World} {h h' : Hp} {w : World} {nt : Nat} {tm : TM} {a : Act} {v : Value}

/-! ### conversions -/
theorem bytesOf_sound : ∀ {l : List Value} {bs : List UInt8}, bytesOf l = some bs → ∃ ns : List Int, l = ns.map (Value.int .u8) ∧ bs = ns.map (fun n => UInt8.ofNat n.toNat)
  | [], bs, h => by simp only [bytesOf, Option.some.injEq] at h; subst h; exact ⟨[], rfl, rfl⟩
  | x :: l, bs, h => by
    unfold bytesOf at h
    split at h
    · cases ‹_ :: _ = []›
    · rename_i n l2 he
      cases he
      split at h
      · rename_i r hr
        cases h
        obtain ⟨ns, h1, h2⟩ := bytesOf_sound hr
        exact ⟨(n : Int) :: ns, by simp [h1], by simp [h2]⟩
      · cases h
    · cases h

theorem foldl_push (ns : List Int) : ∀ s : ByteArray, (ns.foldl (fun r n => r.push (UInt8.ofNat n.toNat)) s).data.toList = s.data.toList ++ ns.map (fun n => UInt8.ofNat n.toNat) := by
  induction ns with
  | nil => intro s; simp
  | cons n ns ih => intro s; simp only [List.foldl_cons]; rw [ih]; simp [ByteArray.push]

theorem run_mark {w : World} {c : Array Value} {e : TypeId} (hb : w.heap.back? = some (.cells c e)) (hs : 0 < w.heap.size) : (markStringish ⟨w.heap.size - 1, 0, none⟩).run P w = .ok () (w.freeze ⟨w.heap.size - 1, c.size, none⟩ 1) := by
  have h1 : w.heap[w.heap.size - 1]? = some (.cells c e) := by rw [← hb]; simp [Array.back?]
  simp only [markStringish, Sem.run_bind, run_shape, Result.andThen_ok, World.shape?, h1, run_freeze]

theorem conv_bytes_cells {w : World} {e : TypeId} {s : ByteArray} {src dst : TypeId} (hs : P.underlying src = some .string) (hd : P.underlying dst = some (.slice e)) (he : P.underlying e = some (.int .u8)) :
    (convert src dst (.string s)).run P w = .ok (.slice (some ⟨w.heap.size, 0, none⟩) s.size (grownCap w s.size 0 e))
      ((w.drew.alloc (.cells (s.data.map (fun b => Value.int .u8 b.toNat) ++ Array.replicate (grownCap w s.size 0 e - s.size) (.int .u8 0)) e)).freeze ⟨w.heap.size, s.size + (grownCap w s.size 0 e - s.size), none⟩ 1) := by
  have hq : (Question.appendCap s.size 0 e).forced = false := rfl
  have hch : (choose (.appendCap s.size 0 e)).run P w = .ok (grownCap w s.size 0 e) w.drew := by rw [run_choose, if_neg (by rw [hq]; decide)]; rfl
  generalize hcap : grownCap w s.size 0 e = cap at *
  have hmk := run_mark (P := P) (w := w.drew.alloc (.cells (s.data.map (fun b => Value.int .u8 b.toNat) ++ Array.replicate (cap - s.size) (.int .u8 0)) e)) (e := e) (by simp [World.alloc]; rfl) (by simp)
  have hsz : (w.drew.alloc (.cells (s.data.map (fun b => Value.int .u8 b.toNat) ++ Array.replicate (cap - s.size) (.int .u8 0)) e)).heap.size - 1 = w.heap.size := by simp
  rw [hsz] at hmk
  have hcs : (s.data.map (fun b : UInt8 => Value.int .u8 b.toNat) ++ Array.replicate (cap - s.size) (Value.int .u8 0)).size = s.size + (cap - s.size) := by rw [Array.size_append, Array.size_map, Array.size_replicate]; rfl
  rw [hcs] at hmk
  simp only [convert, Sem.run_bind, run_und hs, run_und hd, Result.andThen_ok, run_und he, Conv.stringToBytes, hch, newRow, run_newObj, Sem.run_pure]
  have hw : w.drew.heap.size = w.heap.size := rfl
  have ha : ({ w.drew with heap := w.drew.heap.push (.cells (s.data.map (fun b => Value.int .u8 b.toNat) ++ Array.replicate (cap - s.size) (.int .u8 0)) e) } : World) = w.drew.alloc (.cells (s.data.map (fun b => Value.int .u8 b.toNat) ++ Array.replicate (cap - s.size) (.int .u8 0)) e) := rfl
  rw [hw, ha, hmk]
  rfl

theorem op_convQ (r : Rel P G m F K h w) {src dst : TypeId} {x x' : Value} (hx : renO m x = some x') (e : convOp P G src dst x h = some (v, h')) (hq : ∀ e, P.underlying dst ≠ some (.slice e)) :
    h' = h ∧ OpQ P m v w ((do pure (.value (← convert src dst x')) : Sem Next).run P w) := by
  unfold convOp at e
  split at e
  · rename_i k n
    split at e
    · rename_i u hg
      cases e
      obtain rfl := renO_int hx
      obtain ⟨h1, h2⟩ := guarded_some hg
      exact ⟨rfl, .of_value (v' := v) (pureRun_sound _ h1 w) (renO_noA m v h2)⟩
    · cases e
  · rename_i s
    obtain rfl := renO_string hx
    split at e
    · rename_i hs hd
      cases e
      exact ⟨rfl, .of_value (v' := .string s) (by simp [convert, run_und hs, run_und hd]) (by simp [renO])⟩
    · rename_i e2 hs hd
      exact (hq _ hd).elim
    · cases e
  · rename_i b n c
    split at e
    · rename_i el hs hd
      split at e
      · rename_i he
        split at e
        · cases e
          obtain rfl : _ = x' := by simpa [renO] using hx
          refine ⟨rfl, .of_value (v' := .string .empty) ?_ (by simp [renO]; rfl)⟩
          simp [convert, run_und hs, run_und hd, run_und he, Conv.bytesToString]
        · rename_i a
          obtain ⟨a', g1, rfl⟩ := renO_slice hx
          split at e
          · rename_i l hl
            split at e
            · rename_i bs hb
              cases e
              obtain ⟨l', h1, h2⟩ := ldCells_sound r g1 _ _ _ hl
              obtain ⟨ns, rfl, rfl⟩ := bytesOf_sound hb
              have hna : noA.noAs (ns.map (Value.int .u8)) = true := by
                clear hl h1 h2 hb
                induction ns with
                | nil => rfl
                | cons n ns ih => simp only [List.map_cons, noA.noAs, noA, ih]
              obtain rfl := renOs_noA' hna h1
              have hlen := ldCells_length _ _ _ hl
              have hrun := run_loadCells_list (P := P) (w := w) a' (ns.map (Value.int .u8)) (fun j v hj => by simpa using h2 j v hj)
              rw [hlen] at hrun
              have hfin := run_bytesToString (P := P) w a' n (c + exA m a) ns (by rw [hrun])
              refine ⟨rfl, .of_value (v' := .string (ns.foldl (fun r n => r.push (UInt8.ofNat n.toNat)) ByteArray.empty)) ?_ ?_⟩
              · rw [run_convert_bytes_string w src dst el (some a') n (c + exA m a) hs he hd]; exact hfin
              · have : ns.foldl (fun r n => r.push (UInt8.ofNat n.toNat)) ByteArray.empty = ⟨⟨ns.map (fun n => UInt8.ofNat n.toNat)⟩⟩ := by
                  apply ByteArray.ext; apply Array.toList_inj.1
                  rw [foldl_push]; simp
                rw [this]; simp [renO]
            · cases e
          · cases e
      · cases e
    · cases e
  · cases e

theorem op_conv (r : Rel P G m F K h w) {src dst : TypeId} {x x' : Value} (hx : renO m x = some x') (e : convOp P G src dst x h = some (v, h')) :
    OpOk P G m F K h h' v ((do pure (.value (← convert src dst x')) : Sem Next).run P w) := by
  by_cases hq : ∀ e, P.underlying dst ≠ some (.slice e)
  · obtain ⟨rfl, hh⟩ := op_convQ r hx e hq
    exact hh.ok r
  have hdst : ∃ e, P.underlying dst = some (.slice e) := Classical.byContradiction fun hc => hq fun e he => hc ⟨e, he⟩
  obtain ⟨ed, hed⟩ := hdst
  unfold convOp at e
  split at e
  · rename_i k n
    split at e
    · rename_i u hg
      cases e
      obtain rfl := renO_int hx
      obtain ⟨h1, h2⟩ := guarded_some hg
      exact (OpQ.of_value (v' := v) (pureRun_sound _ h1 w) (renO_noA m v h2)).ok r
    · cases e
  · rename_i s
    obtain rfl := renO_string hx
    split at e
    · rename_i hs hd
      cases e
      rw [hed] at hd; cases hd
    · rename_i e2 hs hd
      split at e
      · rename_i he hn
        cases e
        have hcap := grownCap_ge w s.size 0 e2
        let b2 : BI := ⟨w.heap.size, 0, grownCap w s.size 0 e2 - s.size⟩
        have hcs : renOs m (s.data.toList.map (fun b => Value.int .u8 b.toNat)) = some (s.data.toList.map (fun b => Value.int .u8 b.toNat)) := renOs_noA m _ (noAs_bytes _)
        have hmn : m h.next = none := r.len _ (Nat.le_refl _)
        refine .of_value (m' := m.up h.next b2) (conv_bytes_cells hs hd he) (Step.new hmn b2 _) ?_ ?_
        · rw [renO_grown]
          show some (Value.slice (some ⟨w.heap.size, 0, none⟩) s.size (s.size + (grownCap w s.size 0 e2 - s.size))) = _
          rw [show s.size + (grownCap w s.size 0 e2 - s.size) = grownCap w s.size 0 e2 by omega]
        · have hheap : ∀ q, q < w.heap.size → ((w.drew.alloc (.cells (s.data.map (fun b => Value.int .u8 b.toNat) ++ Array.replicate (grownCap w s.size 0 e2 - s.size) (.int .u8 0)) e2)).freeze ⟨w.heap.size, s.size + (grownCap w s.size 0 e2 - s.size), none⟩ 1).heap[q]? = w.heap[q]? := by
            intro q hq
            have : q ≠ w.heap.size := by omega
            have hw : w.drew.heap = w.heap := rfl
            simp [World.freeze, World.alloc, hw, Array.getElem?_modify, Array.getElem?_push, this, Ne.symm this]
          refine r.grow b2 _ rfl rfl rfl ?_ hheap (r.fresh (Nat.le_refl _)) ?_
          · have hw : w.drew.heap = w.heap := rfl
            simp [World.freeze, World.alloc, hw]
          intro b3 hb3
          rw [Ren.up_same] at hb3; cases hb3
          refine ⟨s.data.map (fun b => Value.int .u8 b.toNat) ++ Array.replicate (grownCap w s.size 0 e2 - s.size) (.int .u8 0), (s.size + (grownCap w s.size 0 e2 - s.size), s.size + (grownCap w s.size 0 e2 - s.size) + 1), ?_, ?_, ?_, ?_, ?_⟩
          · intro hF; have := (r.fr _ hF).1; have := r.size; simp only [b2] at *; omega
          · have hw : w.drew.heap = w.heap := rfl
            show (World.freeze _ _ _).heap[w.heap.size]? = _
            rw [World.freeze, if_neg (by decide)]
            simp only [Array.getElem?_modify, if_pos]
            have : (w.drew.alloc (.cells (s.data.map (fun b => Value.int .u8 b.toNat) ++ Array.replicate (grownCap w s.size 0 e2 - s.size) (.int .u8 0)) e2)).heap[w.heap.size]? = some (.cells (s.data.map (fun b => Value.int .u8 b.toNat) ++ Array.replicate (grownCap w s.size 0 e2 - s.size) (.int .u8 0)) e2) := by
              show (w.heap.push _)[w.heap.size]? = _
              simp
            rw [this]
            rfl
          · intro k u hk
            obtain ⟨g1, u', g2, g3⟩ := cells_new (renOs_mono (Ext.one hmn _) _ _ hcs) (w := w) k u hk
            simp only [List.length_map, Array.length_toList] at g1
            refine ⟨by simpa using g1, u', g2, ?_⟩
            have g1' : k < s.data.size := g1
            rw [Array.getElem?_append_left (by simp [b2]; exact g1')]
            have hb : b2.sh = 0 := rfl
            rw [hb]
            have : (⟨s.data.toList.map (fun b => Value.int .u8 b.toNat)⟩ : Array Value) = s.data.map (fun b => Value.int .u8 b.toNat) := by apply Array.ext'; simp
            rw [← this]; exact g3
          · have : exC P e2 b2 = grownCap w s.size 0 e2 - s.size := by simp only [exC, hn, Option.getD_some, b2, Nat.mul_one]
            rw [this]
            have hs1 : s.size = s.data.size := rfl
            rw [Array.size_append, Array.size_map, Array.size_replicate, hs1]
            show 0 + s.data.size + _ ≤ _
            omega
          · have : exC P e2 b2 = grownCap w s.size 0 e2 - s.size := by simp only [exC, hn, Option.getD_some, b2, Nat.mul_one]
            rw [this]
            intro k k1 k2
            have hb : b2.sh = 0 := rfl
            have h1 : ¬ (s.size + (grownCap w s.size 0 e2 - s.size) ≤ k) := by omega
            simp [h1]
      · cases e
    · cases e
  · split at e
    · rename_i el hs hd
      rw [hed] at hd; cases hd
    · cases e
  · cases e
end
end Go.Sim


namespace Go.Sim
variable {P : Program} {G : Nat → Option (List Value)}
section
variable {m : Ren} {F : Nat → Prop} {K : World} {h h' : Hp} {w : World} {nt : Nat} {tm : TM} {a : Act} {v : Value}

theorem natOf_ren {u u' : Value} {n : Nat} (h : natOf u = some n) (hu : renO m u = some u') : ∃ k, u' = .int k n := by
  obtain ⟨k, rfl⟩ := natOf_some h
  exact ⟨k, renO_int hu⟩

theorem sliceOp_sound (r : Rel P G m F K h w) {t : TypeId} {x x' : Value} {lo hi mx lo' hi' mx' : Option Value} (hx : renO m x = some x') (hlo : OptR m lo lo') (hhi : OptR m hi hi') (hmx : OptR m mx mx') (e : sliceOp P t x lo hi mx = some v) :
    OpQ P m v w ((do pure (.value (← Instr.sliceAt t x' lo' hi' mx')) : Sem Next).run P w) := by
  unfold sliceOp at e
  split at e
  · rename_i s
    split at e
    · rename_i ht
      split at e
      · rename_i q l e2 e1
        split at e
        · rename_i h2 h1
          cases e
          exact op_sliceString r hx ht hlo hhi hmx e1 e2 (bleT h2) (bleT h1)
        · cases e
      · cases e
    · cases e
  · rename_i b len cap
    split at e
    · rename_i el ht
      split at e
      · rename_i size z q l hn e3 e2 e1
        split at e
        · rename_i h3 h2 h1
          have hmh : mx.isSome → hi.isSome := by
            intro hm
            cases hh : hi.isSome with
            | true => rfl
            | false => rw [hm, hh] at e; cases e
          refine op_slice r hx ht hn hlo hhi hmx e1 e2 e3 (bleT h3) (bleT h2) (bleT h1) hmh ?_
          revert e
          cases hm : mx.isSome <;> cases hh : hi.isSome <;> first | exact id | (intro e; cases e; done) | (cases b <;> exact id)
        · cases e
      · cases e
    · cases e
  · rename_i a0
    split at e
    · rename_i n el ht
      split at e
      · rename_i size z q l hn e3 e2 e1
        split at e
        · rename_i h3 h2 h1
          split at e
          · cases e
          · cases e
          · rename_i hsp hbad
            cases e
            have hmh : mx.isSome → hi.isSome := by
              intro hm
              cases hh : hi.isSome with
              | true => rfl
              | false => exact (hbad hm hh).elim
            exact op_sliceArray r hx ht hn hlo hhi hmx e1 e2 e3 (bleT h3) (bleT h2) (bleT h1) hmh hsp
        · cases e
      · cases e
    · cases e
  · cases e


theorem aop_builtinQ (r : Rel P G m F K h w) (rt : TRel m nt tm a.tmps) {o : Oper} {b : Builtin} {args : Array Operand} {ts : Array TypeId} (ho : o.op = .call { callee := .builtin b, args := args, argTypes := ts }) (hq : quietOp P o.op = true)
    (e : aop P G o.op tm h = some (v, h')) : h' = h ∧ OpQ P m v w ((execOp a.eval o).run P w) := by
  rw [ho] at hq
  rw [ho] at e
  have hex : execOp a.eval o = builtin b ts o.type (args.map fun | .const _ => true | _ => false) (args.map a.eval) := by
    unfold execOp
    rw [ho]
    rfl
  rw [hex]
  simp only [aop] at e
  split at e
  · rename_i l hl
    have hl' := opnds_sound rt hl
    rw [← Array.toList_map] at hl'
    have two : ∀ {d x : Value}, l = [d, x] → ∃ s' x', renO m d = some s' ∧ renO m x = some x' ∧ args.map a.eval = #[s', x'] := by
      intro d x hd
      subst hd
      obtain ⟨s', y, h1, h2, h3⟩ := renOs_cons hl'
      obtain ⟨x', y2, h4, h5, h6⟩ := renOs_cons h2
      obtain rfl : y2 = [] := by simpa [renOs] using h5.symm
      subst h6
      exact ⟨s', x', h1, h4, by apply Array.ext'; rw [h3]⟩
    have plain : noA (.tuple ⟨l⟩) = true → args.map a.eval = ⟨l⟩ := by
      intro hn
      simp only [noA] at hn
      have hl2 := renOs_noA' hn hl'
      apply Array.ext'; rw [hl2]
    unfold aopB at e
    cases b <;> simp only [quietOp] at hq <;> try (exact absurd hq (by decide))
    · dsimp only at e
      split at e
      · rename_i u
        obtain ⟨x, y, h1, h2, h3⟩ := renOs_cons hl'
        obtain rfl : y = [] := by simpa [renOs] using h2.symm
        have hargs : args.map a.eval = #[x] := by apply Array.ext'; rw [h3]
        rw [hargs]
        split at e
        · rename_i t tl hts
          split at e
          · rename_i d hd
            split at e
            · rename_i u2 hu
              cases e
              exact ⟨rfl, op_len r hts hd h1 hu⟩
            · cases e
          · cases e
        · cases e
      · cases e
    · dsimp only at e
      split at e
      · rename_i hn
        split at e
        · rename_i u hu
          cases e
          obtain ⟨g1, g2⟩ := guarded_some hu
          rw [plain hn]
          have hr := pureRun_sound _ g1 w
          exact ⟨rfl, OpQ.of_value (v' := v) (s := Builtin.max_ ts o.type ⟨l⟩) hr (renO_noA m v g2)⟩
        · cases e
      · cases e
    · dsimp only at e
      split at e
      · rename_i hn
        split at e
        · rename_i u hu
          cases e
          obtain ⟨g1, g2⟩ := guarded_some hu
          rw [plain hn]
          have hr := pureRun_sound _ g1 w
          exact ⟨rfl, OpQ.of_value (v' := v) (s := Builtin.min_ ts o.type ⟨l⟩) hr (renO_noA m v g2)⟩
        · cases e
      · cases e
  · cases e

theorem aop_builtin (r : Rel P G m F K h w) (rt : TRel m nt tm a.tmps) {o : Oper} {b : Builtin} {args : Array Operand} {ts : Array TypeId} (ho : o.op = .call { callee := .builtin b, args := args, argTypes := ts })
    (e : aop P G o.op tm h = some (v, h')) : OpOk P G m F K h h' v ((execOp a.eval o).run P w) := by
  rw [ho] at e
  have hex : execOp a.eval o = builtin b ts o.type (args.map fun | .const _ => true | _ => false) (args.map a.eval) := by
    unfold execOp
    rw [ho]
    rfl
  rw [hex]
  simp only [aop] at e
  split at e
  · rename_i l hl
    have hl' := opnds_sound rt hl
    rw [← Array.toList_map] at hl'
    have two : ∀ {d x : Value}, l = [d, x] → ∃ s' x', renO m d = some s' ∧ renO m x = some x' ∧ args.map a.eval = #[s', x'] := by
      intro d x hd
      subst hd
      obtain ⟨s', y, h1, h2, h3⟩ := renOs_cons hl'
      obtain ⟨x', y2, h4, h5, h6⟩ := renOs_cons h2
      obtain rfl : y2 = [] := by simpa [renOs] using h5.symm
      subst h6
      exact ⟨s', x', h1, h4, by apply Array.ext'; rw [h3]⟩
    have plain : noA (.tuple ⟨l⟩) = true → args.map a.eval = ⟨l⟩ := by
      intro hn
      simp only [noA] at hn
      have hl2 := renOs_noA' hn hl'
      apply Array.ext'; rw [hl2]
    unfold aopB at e
    split at e
    · split at e
      · rename_i u
        obtain ⟨x, y, h1, h2, h3⟩ := renOs_cons hl'
        obtain rfl : y = [] := by simpa [renOs] using h2.symm
        have hargs : args.map a.eval = #[x] := by apply Array.ext'; rw [h3]
        rw [hargs]
        split at e
        · rename_i t tl hts
          split at e
          · rename_i d hd
            split at e
            · rename_i u2 hu
              cases e
              exact (op_len r hts hd h1 hu).ok r
            · cases e
          · cases e
        · cases e
      · cases e
    · split at e
      · rename_i s x
        obtain ⟨s', x', h1, h4, hargs⟩ := two rfl
        rw [hargs]
        split at e
        · rename_i t u tl hts
          split at e
          · rename_i hp
            exact op_append r hts hp h1 h4 e
          · cases e
        · cases e
      · cases e
    · split at e
      · rename_i hn
        split at e
        · rename_i u hu
          cases e
          obtain ⟨g1, g2⟩ := guarded_some hu
          rw [plain hn]
          have hr := pureRun_sound _ g1 w
          exact (OpQ.of_value (v' := v) (s := Builtin.min_ ts o.type ⟨l⟩) hr (renO_noA m v g2)).ok r
        · cases e
      · cases e
    · split at e
      · rename_i hn
        split at e
        · rename_i u hu
          cases e
          obtain ⟨g1, g2⟩ := guarded_some hu
          rw [plain hn]
          have hr := pureRun_sound _ g1 w
          exact (OpQ.of_value (v' := v) (s := Builtin.max_ ts o.type ⟨l⟩) hr (renO_noA m v g2)).ok r
        · cases e
      · cases e
    · split at e
      · rename_i d x
        obtain ⟨s', x', h1, h4, hargs⟩ := two rfl
        rw [hargs]
        split at e
        · rename_i t tl hts
          split at e
          · rename_i el ht
            split at e
            · rename_i size b n c q hn hq
              split at e
              · rename_i l2 hl2
                split at e
                · cases e
                · rename_i i hbk
                  split at e
                  · rename_i sz ty cs hi
                    split at e
                    · rename_i cs' hst
                      cases e
                      exact op_copy r hts h1 h4 ht hn hq hl2 hbk hi hst
                    · cases e
                  · cases e
              · cases e
            · cases e
          · cases e
        · cases e
      · cases e
    · cases e
  · cases e
end
end Go.Sim


namespace Go.Sim
variable {P : Program} {G : Nat → Option (List Value)}
section
variable {m : Ren} {F : Nat → Prop} {K : World} {h h' : Hp} {w : World} {nt : Nat} {tm : TM} {a : Act} {v : Value}

/-- EVERY OPERATION THAT LEAVES MEMORY ALONE -/
theorem aopQ_sound (r : Rel P G m F K h w) (rt : TRel m nt tm a.tmps) {o : Oper} (hq : quietOp P o.op = true) (e : aop P G o.op tm h = some (v, h')) : h' = h ∧ OpQ P m v w ((execOp a.eval o).run P w) := by
  obtain ⟨dst, op, type, pos, after, guard⟩ := o
  cases op with
  | move x =>
    simp only [aop] at e
    split at e
    · rename_i u hu; cases e; exact ⟨rfl, .same' (opnd_sound rt hu) rfl⟩
    · cases e
  | assign x =>
    simp only [aop] at e
    split at e
    · rename_i u hu; cases e; exact ⟨rfl, .same' (opnd_sound rt hu) rfl⟩
    · cases e
  | pick c x y =>
    simp only [aop] at e
    split at e
    · rename_i hc
      have hc := renO_bool (opnd_sound rt hc)
      split at e
      · rename_i u hu; cases e
        exact ⟨rfl, .same' (opnd_sound rt hu) (by simp [execOp, hc, asBool])⟩
      · cases e
    · rename_i hc
      have hc := renO_bool (opnd_sound rt hc)
      split at e
      · rename_i u hu; cases e
        exact ⟨rfl, .same' (opnd_sound rt hu) (by simp [execOp, hc, asBool])⟩
      · cases e
    · cases e
  | build t parts =>
    simp only [aop] at e
    split at e
    · rename_i z fs hz ht
      split at e
      · rename_i ps hs hp
        split at e
        · rename_i l hf; cases e; exact ⟨rfl, op_buildStruct r rt hz ht hs hp hf⟩
        · cases e
      · cases e
    · rename_i z n el hz ht
      split at e
      · rename_i size hn
        split at e
        · rename_i ps hp
          split at e
          · rename_i l hf; cases e; exact ⟨rfl, op_buildArray r rt hz ht hn hp hf⟩
          · cases e
        · cases e
      · cases e
    · cases e
  | load t x =>
    simp only [aop] at e
    split at e
    · rename_i b hb
      split at e
      · rename_i u hu; cases e; exact ⟨rfl, op_load r (opnd_sound rt hb) hu⟩
      · cases e
    · cases e
  | nilCheck x =>
    simp only [aop] at e
    split at e
    · cases e
    · cases e
    · cases e
    · cases e
    · rename_i u h1 h2 h3 h4 hu
      cases e
      have hr := opnd_sound rt hu
      refine ⟨rfl, .same' hr ?_⟩
      have g1 : a.eval x ≠ .pointer none := by
        intro g; rw [g] at hr
        cases v with
        | pointer b => cases b with
          | none => exact h1 rfl
          | some b => obtain ⟨_, _, h⟩ := renO_pointer hr; cases h
        | slice b n c => cases b <;> (simp only [renO] at hr; first | cases hr | (revert hr; split <;> simp))
        | map b => cases b <;> (simp only [renO] at hr; first | cases hr | (revert hr; repeat' split <;> simp))
        | chan b => cases b <;> (simp only [renO] at hr; first | cases hr | (revert hr; repeat' split <;> simp))
        | func fn f c => obtain ⟨f⟩ := f; obtain ⟨c⟩ := c; simp only [renO] at hr; revert hr; repeat' split <;> simp
        | tuple l => obtain ⟨l⟩ := l; simp only [renO] at hr; revert hr; repeat' split <;> simp
        | agg l => obtain ⟨l⟩ := l; simp only [renO] at hr; revert hr; repeat' split <;> simp
        | _ => simp only [renO] at hr; first | cases hr | (revert hr; repeat' split <;> simp)
      have g2 : a.eval x ≠ .nilIface := by
        intro g; rw [g] at hr
        cases v with
        | nilIface => exact h2 rfl
        | pointer b => cases b <;> (simp only [renO] at hr; first | cases hr | (revert hr; repeat' split <;> simp))
        | slice b n c => cases b <;> (simp only [renO] at hr; first | cases hr | (revert hr; split <;> simp))
        | map b => cases b <;> (simp only [renO] at hr; first | cases hr | (revert hr; repeat' split <;> simp))
        | chan b => cases b <;> (simp only [renO] at hr; first | cases hr | (revert hr; repeat' split <;> simp))
        | func fn f c => obtain ⟨f⟩ := f; obtain ⟨c⟩ := c; simp only [renO] at hr; revert hr; repeat' split <;> simp
        | tuple l => obtain ⟨l⟩ := l; simp only [renO] at hr; revert hr; repeat' split <;> simp
        | agg l => obtain ⟨l⟩ := l; simp only [renO] at hr; revert hr; repeat' split <;> simp
        | _ => simp only [renO] at hr; first | cases hr | (revert hr; repeat' split <;> simp)
      have g3 : a.eval x ≠ .nilFunc := by
        intro g; rw [g] at hr
        cases v with
        | nilFunc => exact h3 rfl
        | pointer b => cases b <;> (simp only [renO] at hr; first | cases hr | (revert hr; repeat' split <;> simp))
        | slice b n c => cases b <;> (simp only [renO] at hr; first | cases hr | (revert hr; split <;> simp))
        | map b => cases b <;> (simp only [renO] at hr; first | cases hr | (revert hr; repeat' split <;> simp))
        | chan b => cases b <;> (simp only [renO] at hr; first | cases hr | (revert hr; repeat' split <;> simp))
        | func fn f c => obtain ⟨f⟩ := f; obtain ⟨c⟩ := c; simp only [renO] at hr; revert hr; repeat' split <;> simp
        | tuple l => obtain ⟨l⟩ := l; simp only [renO] at hr; revert hr; repeat' split <;> simp
        | agg l => obtain ⟨l⟩ := l; simp only [renO] at hr; revert hr; repeat' split <;> simp
        | _ => simp only [renO] at hr; first | cases hr | (revert hr; repeat' split <;> simp)
      have g4 : ∀ n f c, a.eval x ≠ .func (.method n) f c := by
        intro n f c g; rw [g] at hr
        cases v with
        | func fn f2 c2 =>
          obtain ⟨f2⟩ := f2; obtain ⟨c2⟩ := c2
          simp only [renO] at hr
          revert hr
          repeat' split
          · intro hr; cases hr; exact h4 _ _ _ rfl
          · simp
        | nilFunc => simp [renO] at hr
        | pointer b => cases b <;> (simp only [renO] at hr; first | cases hr | (revert hr; repeat' split <;> simp))
        | slice b n c => cases b <;> (simp only [renO] at hr; first | cases hr | (revert hr; split <;> simp))
        | map b => cases b <;> (simp only [renO] at hr; first | cases hr | (revert hr; repeat' split <;> simp))
        | chan b => cases b <;> (simp only [renO] at hr; first | cases hr | (revert hr; repeat' split <;> simp))
        | tuple l => obtain ⟨l⟩ := l; simp only [renO] at hr; revert hr; repeat' split <;> simp
        | agg l => obtain ⟨l⟩ := l; simp only [renO] at hr; revert hr; repeat' split <;> simp
        | _ => simp only [renO] at hr; first | cases hr | (revert hr; repeat' split <;> simp)
      simp only [execOp]
      rfl
    · cases e
  | binOp op t x y yt =>
    simp only [aop] at e
    split at e
    · rename_i u u2 h1 h2
      split at e
      · rename_i z hz; cases e; exact ⟨rfl, op_bin r (opnd_sound rt h1) (opnd_sound rt h2) hz⟩
      · cases e
    · cases e
  | unOp op t x =>
    simp only [aop] at e
    split at e
    · rename_i u hu
      split at e
      · rename_i hn
        split at e
        · rename_i z hz
          cases e
          obtain ⟨g1, g2⟩ := guarded_some hz
          have := noA_inv hn (opnd_sound rt hu)
          refine ⟨rfl, .of_value (v' := v) (s := Op.unary op (a.eval x)) ?_ (renO_noA m v g2)⟩
          rw [this]; exact pureRun_sound _ g1 w
        · cases e
      · cases e
    · cases e
  | makeInterface t x =>
    simp only [aop] at e
    split at e
    · cases e
    · rename_i u d h0 h1 h2
      cases e
      refine ⟨rfl, .of_value (v' := .iface t (a.eval x)) (s := Instr.makeInterface t (a.eval x)) ?_ (by simp only [renO, opnd_sound rt h1])⟩
      simp only [Instr.makeInterface, Sem.run_bind, run_und h2, Result.andThen_ok]
      cases d <;> first | rfl | exact (h0 _ _ h1 h2).elim
    · cases e
  | makeFunc fn f c =>
    simp only [aop] at e
    split at e
    · rename_i f' c' h1 h2
      cases e
      have g1 := opnds_sound rt h1
      have g2 := opnds_sound rt h2
      refine ⟨rfl, .of_value (v' := .func fn ⟨f.toList.map a.eval⟩ ⟨c.toList.map a.eval⟩) (s := Instr.makeFunc fn (f.map a.eval) (c.map a.eval)) ?_ (by simp only [renO, g1, g2])⟩
      simp only [Instr.makeFunc, Sem.run_pure]
      congr 2 <;> (apply Array.ext'; simp)
    · cases e
  | slice t x lo hi mx =>
    simp only [aop] at e
    split at e
    · rename_i u lo' hi' mx' h1 h2 h3 h4
      split at e
      · rename_i z hz; cases e; exact ⟨rfl, sliceOp_sound r (opnd_sound rt h1) (optOpnd_sound rt h2) (optOpnd_sound rt h3) (optOpnd_sound rt h4) hz⟩
      · cases e
    · cases e
  | fieldAddr s x f =>
    simp only [aop] at e
    split at e
    · rename_i b fs h1 h2
      split at e
      · rename_i fd h3
        split at e
        · cases e
        · rename_i n hn h4
          cases e
          cases n with
          | zero => exact (hn rfl).elim
          | succ n => exact ⟨rfl, op_fieldAddr r (opnd_sound rt h1) h2 h3 h4⟩
        · cases e
      · cases e
    · cases e
  | field t x f =>
    simp only [aop] at e
    split at e
    · rename_i cs fs h1 h2
      split at e
      · rename_i fd h3
        split at e
        · rename_i z hz; cases e; exact ⟨rfl, op_field r (opnd_sound rt h1) h2 h3 hz⟩
        · cases e
      · cases e
    · cases e
  | indexAddr t x i =>
    simp only [aop] at e
    split at e
    · rename_i b n c iv el h1 h2 h3
      split at e
      · rename_i i2 size h4 h5
        split at e
        · rename_i h6; cases e; exact ⟨rfl, op_indexSlice r (opnd_sound rt h1) (opnd_sound rt h2) h4 h3 h5 (bltT h6)⟩
        · cases e
      · cases e
    · rename_i b iv n el h1 h2 h3
      split at e
      · rename_i i2 size h4 h5
        split at e
        · rename_i h6; cases e; exact ⟨rfl, op_indexArray r (opnd_sound rt h1) (opnd_sound rt h2) h4 h3 h5 (bltT h6)⟩
        · cases e
      · cases e
    · cases e
  | index t x i =>
    simp only [aop] at e
    split at e
    · rename_i s iv h1 h2 h3
      split at e
      · rename_i i2 h4
        split at e
        · rename_i b h5; cases e; exact ⟨rfl, op_indexString r (opnd_sound rt h1) (opnd_sound rt h2) h4 h3 h5⟩
        · cases e
      · cases e
    · rename_i cs iv n el h1 h2 h3
      split at e
      · rename_i i2 size h4 h5
        split at e
        · rename_i h6
          split at e
          · rename_i z hz; cases e; exact ⟨rfl, op_indexAgg r (opnd_sound rt h1) (opnd_sound rt h2) h4 h3 h5 (bltT h6) hz⟩
          · cases e
        · cases e
      · cases e
    · cases e
  | lookup t x i ok =>
    simp only [aop] at e
    split at e
    · rename_i rr k kt el h1 h2 h3
      split at e
      · cases e
      · cases e
      · rename_i es hes hk
        cases hkt : P.underlying kt with
        | none => rw [hkt] at hk; simp [kindOk] at hk
        | some d =>
          rw [hkt] at hk
          split at e
          · cases e
          · rename_i u hf
            cases ok
            · cases e; exact ⟨rfl, op_lookup r (opnd_sound rt h1) (opnd_sound rt h2) h3 hkt hes hk hf (z := .nilIface) (fun hh => by cases hh) rfl⟩
            · cases e; exact ⟨rfl, op_lookup r (opnd_sound rt h1) (opnd_sound rt h2) h3 hkt hes hk hf (z := .nilIface) (fun hh => by cases hh) rfl⟩
          · rename_i hf
            split at e
            · cases e
            · rename_i z hz
              split at e
              · rename_i hn; cases e
                exact ⟨rfl, op_lookup r (opnd_sound rt h1) (opnd_sound rt h2) h3 hkt hes hk hf (z := z) (fun _ => ⟨hz, hn⟩) rfl⟩
              · rename_i hn; cases e
                exact ⟨rfl, op_lookup r (opnd_sound rt h1) (opnd_sound rt h2) h3 hkt hes hk hf (z := v) (fun _ => ⟨hz, hn⟩) rfl⟩
              · cases e
    · cases e
  | extract x i =>
    simp only [aop] at e
    split at e
    · rename_i l h1
      split at e
      · rename_i z hz
        cases e
        obtain ⟨l', g1, g2⟩ := renO_tupleI (opnd_sound rt h1)
        obtain ⟨z', g3, g4⟩ := renOs_get g1 _ _ hz
        refine ⟨rfl, .of_value (v' := z') (s := Instr.extract (a.eval x) i) ?_ g3⟩
        rw [g2]
        have : (⟨l'⟩ : Array Value)[i]? = some z' := by simpa using g4
        simp [Instr.extract, this]
      · cases e
    · cases e
  | convert s d x =>
    simp only [aop] at e
    split at e
    · rename_i u hu
      refine op_convQ r (opnd_sound rt hu) e ?_
      intro el hd
      simp only [quietOp, hd] at hq
      cases hq
    · cases e
  | call c =>
    obtain ⟨callee, args, argTypes⟩ := c
    cases callee with
    | builtin b => exact aop_builtinQ r rt (o := ⟨dst, .call ⟨.builtin b, args, argTypes⟩, type, pos, after, guard⟩) rfl hq e
    | value f => simp [aop] at e
    | invoke x n => simp [aop] at e
  | _ => simp [quietOp] at hq

/-- EVERY OPERATION THAT MAKES ONE OBJECT -/
theorem aopA_sound (rt : TRel m nt tm a.tmps) {o : Oper} (hq : isMake o.op = true) (e : aop P G o.op tm h = some (v, h')) (F : Nat → Prop) (w : World) : OpA P m F h h' v w ((execOp a.eval o).run P w) := by
  obtain ⟨dst, op, type, pos, after, guard⟩ := o
  cases op with
  | alloc t =>
    simp only [aop] at e
    split at e
    · rename_i l hz; exact op_alloc hz (Option.some.inj e)
    · cases e
  | box t x =>
    simp only [aop] at e
    split at e
    · rename_i u hu; exact op_box (opnd_sound rt hu) (Option.some.inj e)
    · cases e
  | buildSlice t len parts =>
    simp only [aop] at e
    split at e
    · rename_i el ht
      split at e
      · rename_i size z hn hz
        split at e
        · rename_i ps hp hzl hlen
          split at e
          · rename_i l hf
            split at e
            · rename_i b h2 hc; cases e; exact op_buildSlice rt ht hn hz (beqT hzl) (bleT hlen) hp hf hc
            · cases e
          · cases e
        · cases e
      · cases e
    · cases e
  | makeMap t q =>
    cases q with
    | none =>
      simp only [aop] at e
      cases e
      exact op_makeMap (s := Instr.makeMap t none) (by simp [Instr.makeMap])
    | some x =>
      simp only [aop] at e
      split at e
      · rename_i k n _ _ h1 h2
        cases e
        refine op_makeMap (s := Instr.makeMap t (some (a.eval x))) ?_
        have := renO_int (opnd_sound rt h1)
        simp [Instr.makeMap, run_und h2, this, asInt, asIntOf]
      · cases e
  | makeSlice t l c =>
    simp only [aop] at e
    split at e
    · rename_i el ht
      split at e
      · rename_i lv cv z size bytes h1 h2 hz hn hby
        split at e
        · rename_i l2 c2 h3 h4
          split at e
          · rename_i g1 g2 g3
            split at e
            · rename_i b h5 hc; cases e; exact op_makeSlice ht hn hby hz (beqT g3) h3 h4 (opnd_sound rt h1) (opnd_sound rt h2) (bleT g1) (bleT g2) hc
            · cases e
          · cases e
        · cases e
      · cases e
    · cases e
  | _ => simp [isMake] at hq

/-- EVERY OPERATION THAT IS NO CALL OF A FUNCTION -/
theorem aop_sound (r : Rel P G m F K h w) (rt : TRel m nt tm a.tmps) {o : Oper} (e : aop P G o.op tm h = some (v, h')) : OpOk P G m F K h h' v ((execOp a.eval o).run P w) := by
  by_cases hq : quietOp P o.op = true
  · obtain ⟨rfl, hh⟩ := aopQ_sound r rt hq e
    exact hh.ok r
  by_cases hmk : isMake o.op = true
  · exact (aopA_sound rt hmk e F w).ok r
  obtain ⟨dst, op, type, pos, after, guard⟩ := o
  cases op with
  | store t x y =>
    simp only [aop] at e
    split at e
    · rename_i b u hb hu
      split at e
      · rename_i h2 hs; cases e; exact op_store r (opnd_sound rt hb) (opnd_sound rt hu) hs
      · cases e
    · cases e
  | mapUpdate t x k y =>
    simp only [aop] at e
    split at e
    · rename_i rr k2 u h1 h2 h3; exact op_mapStore r (opnd_sound rt h1) (opnd_sound rt h2) (opnd_sound rt h3) e
    · cases e
  | insert t x k y =>
    simp only [aop] at e
    split at e
    · rename_i rr k2 u h1 h2 h3; exact op_mapStore r (opnd_sound rt h1) (opnd_sound rt h2) (opnd_sound rt h3) e
    · cases e
  | convert s d x =>
    simp only [aop] at e
    split at e
    · rename_i u hu; exact op_conv r (opnd_sound rt hu) e
    · cases e
  | call c =>
    obtain ⟨callee, args, argTypes⟩ := c
    cases callee with
    | builtin b => exact aop_builtin r rt (o := ⟨dst, .call ⟨.builtin b, args, argTypes⟩, type, pos, after, guard⟩) rfl e
    | value f => simp [aop] at e
    | invoke x n => simp [aop] at e
  | _ => first | exact absurd rfl hq | exact absurd rfl hmk | (simp [aop] at e; done)
end
end Go.Sim


namespace Go.Sim
variable {P : Program} {G : Nat → Option (List Value)}

def exO : Ex → Exit
  | .normal => .normal
  | .exit id => .exit id
  | .goto l => .goto l
  | .ret => .ret

/-- what a call comes to -/
def CallPost (P : Program) (G : Nat → Option (List Value)) (m : Ren) (F : Nat → Prop) (K : World) (h h' : Hp) (v : Value) (e : Ending) (w' : World) : Prop :=
  ∃ m' v', Step m m' h h' ∧ renO m' v = some v' ∧ Rel P G m' F K h' w' ∧ e = .returned v'

def CallOk (P : Program) (G : Nat → Option (List Value)) (call : Call) : Prop :=
  ∀ f args h v h', call f args h = some (v, h') → ∀ m F K w args', Rel P G m F K h w → renOs m args = some args' → Calls P f ⟨args'⟩ w (CallPost P G m F K h h' v)

/-- functions without a body -/
def ExtOk (P : Program) (E : FuncId → List Value → Option Value) : Prop :=
  ∀ f args v, E f args = some v → ∀ m args' (w : World), renOs m args = some args' → ∃ v', renO m v = some v' ∧ (callFunc f ⟨args'⟩).run P w = .ok (.value v') w

def NamesOk (P : Program) : Prop := ∀ (f : FuncId) (fn : Func), P.funcs[f]? = some fn → (fn.name == "runtime.NumGoroutine") = false

section
variable {m : Ren} {F : Nat → Prop} {K : World} {h h' : Hp} {w : World} {nt : Nat} {tm : TM} {a : Act} {v : Value} {E : FuncId → List Value → Option Value} {call : Call}

theorem target_sound {f f' : Value} {args args' l : List Value} {g : FuncId} (ht : target f args = some (g, l)) (hf : renO m f = some f') (ha : renOs m args = some args') (w : World) :
    ∃ l', renOs m l = some l' ∧ ∃ first captured, f' = .func (.func g) first captured ∧ (⟨l'⟩ : Array Value) = (first ++ ⟨args'⟩) ++ captured := by
  unfold target at ht
  split at ht
  · rename_i g2 first captured
    cases ht
    simp only [renO] at hf
    split at hf
    · rename_i f1 c1 h1 h2
      cases hf
      exact ⟨f1 ++ args' ++ c1, renOs_append (renOs_append h1 ha) h2, _, _, rfl, by apply Array.ext'; simp⟩
    · cases hf
  · cases ht

theorem stepOp_sound (hN : NamesOk P) (hE : ExtOk P E) (hC : CallOk P G call) (r : Rel P G m F K h w) (rt : TRel m nt tm a.tmps) {o : Oper} (e : stepOp P G E call o tm h = some (v, h')) {next : Act → World → Prop} {Q : Exit → Act → World → Prop}
    (hn : ∀ m' v' w', Step m m' h h' → renO m' v = some v' → Rel P G m' F K h' w' → next (a.put o.dst v') w') : o.wp P a w next Q := by
  have plain : aop P G o.op tm h = some (v, h') → o.wp P a w next Q := by
    intro e
    obtain ⟨m', v', w', h1, h2, h3, h4⟩ := aop_sound r rt e
    unfold Oper.wp
    rcases h4 with h4 | ⟨h4, rfl⟩
    · rw [h4]; exact hn m' v' w' h1 h2 h3
    · rw [h4]; exact hn m' _ w' h1 h2 h3
  unfold stepOp at e
  split at e
  · rename_i fo args ats hop
    split at e
    · rename_i f l hf hl
      split at e
      · rename_i g l2 ht
        obtain ⟨l', g1, first, captured, g2, g3⟩ := target_sound ht (opnd_sound rt hf) (opnds_sound rt hl) w
        have hex : (execOp a.eval o).run P w = (callFunc g ⟨l'⟩).run P w := by
          unfold execOp
          rw [hop]
          simp only [resolve, g2, Deferred.ofValue, pure_bind, invoke]
          rw [g3]
          congr 2
          congr 1
          apply Array.ext'
          simp
        split at e
        · rename_i fn hfn
          split at e
          · rename_i c hb
            have hrun : (callFunc g ⟨l'⟩).run P w = .ok (.enter g ⟨l'⟩) w := by
              have hne : ¬ fn.name = "runtime.NumGoroutine" := by simpa using hN g fn hfn
              simp [callFunc, hfn, hne, hb]
            unfold Oper.wp
            rw [hex, hrun]
            refine (hC g l2 h v h' e m F K w l' r g1).mono ?_
            rintro e2 w' ⟨m', v', k1, k2, k3, rfl⟩
            exact hn m' v' w' k1 k2 k3
          · split at e
            · rename_i u hu
              cases e
              obtain ⟨v', k1, k2⟩ := hE g l2 v hu m l' w g1
              unfold Oper.wp
              rw [hex, k2]
              exact hn m v' w (.refl m h) k1 r
            · cases e
        · cases e
      · cases e
    · cases e
  · exact plain e

theorem TRel.put (rt : TRel m nt tm a.tmps) {m' : Ren} (he : Ext m m') {dst : Option Nat} {u u' : Value} {tm' : TM} (hu : renO m' u = some u') (hp : putT tm dst nt u = some tm') : TRel m' nt tm' (a.put dst u').tmps := by
  unfold putT at hp
  cases dst with
  | none => cases hp; exact rt.mono he
  | some d =>
    dsimp only at hp
    split at hp
    · rename_i hlt
      cases hp
      refine ⟨by simp [Act.put, rt.size], fun t x ht => ?_⟩
      rw [Tr.get_set] at ht
      have hd := bltT hlt
      by_cases e : d = t
      · rw [if_pos e] at ht; cases ht; subst e
        exact ⟨u', hu, by simp [Act.put, rt.size, hd]⟩
      · rw [if_neg e] at ht
        obtain ⟨x', h1, h2⟩ := (rt.mono he).get t x ht
        exact ⟨x', h1, by simp [Act.put, Array.getElem?_setIfInBounds, e, h2]⟩
    · cases hp

theorem Act.put_defers' {dst : Option Nat} {u : Value} : (a.put dst u).defers = a.defers := by cases dst <;> rfl

theorem guardOk_sound (rt : TRel m nt tm a.tmps) {ops : Array Oper} {g : Option (Nat × Bool)} {q : Bool} (hg : guardOk ops.toList tm g = some q) {o : Oper} (ho : o.guard = g) : Region.wanted o (yielded ops a.tmps) = q := by
  unfold guardOk at hg
  unfold Region.wanted
  rw [ho]
  cases g with
  | none => cases hg; rfl
  | some p =>
    obtain ⟨j, want⟩ := p
    dsimp only at hg ⊢
    split at hg
    · rename_i o2 ho2
      have ho2' : ops[j]? = some o2 := by simpa using ho2
      split at hg
      · rename_i d hd
        split at hg
        · rename_i b hb
          cases hg
          obtain ⟨x, h1, h2⟩ := rt.get d _ hb
          obtain rfl := renO_bool h1
          simp [yielded, ho2', hd, h2]
        · rename_i l hl
          cases hg
          obtain ⟨x, h1, h2⟩ := rt.get d _ hl
          obtain ⟨l⟩ := l
          obtain ⟨l', _, rfl⟩ := renO_tupleI h1
          simp [yielded, ho2', hd, h2]
        · cases hg
      · cases hg
    · cases hg

theorem runOps_sound (hN : NamesOk P) (hE : ExtOk P E) (hC : CallOk P G call) {ops : Array Oper} {Q : Exit → Act → World → Prop} : ∀ (l : List Oper) (i : Nat) (tm tm' : TM) (h h' : Hp) (m : Ren) (a : Act) (w : World), (∀ j, l[j]? = ops[i + j]?) →
    runOps P G E call ops.toList nt l tm h = some (tm', h') → Rel P G m F K h w → TRel m nt tm a.tmps →
    (∀ m' a' w', Step m m' h h' → Rel P G m' F K h' w' → TRel m' nt tm' a'.tmps → a'.defers = a.defers → Q .normal a' w') → wpOps P ops Q (List.range' i l.length) a w := by
  intro l
  induction l with
  | nil =>
    intro i tm tm' h h' m a w _ e r rt hq
    simp only [runOps, Option.some.injEq, Prod.mk.injEq] at e
    obtain ⟨rfl, rfl⟩ := e
    exact hq m a w (.refl m h) r rt rfl
  | cons o l ih =>
    intro i tm tm' h h' m a w hl e r rt hq
    have ho : ops[i]? = some o := by rw [← Nat.add_zero i, ← hl 0]; rfl
    have hl' : ∀ j, l[j]? = ops[i + 1 + j]? := fun j => by rw [show i + 1 + j = i + (j + 1) by omega, ← hl (j + 1)]; rfl
    simp only [List.length_cons, List.range'_succ, wpOps, ho]
    simp only [runOps] at e
    split at e
    · rename_i hg
      rw [if_pos (guardOk_sound rt hg rfl)]
      split at e
      · rename_i u h2 hs
        split at e
        · rename_i tm2 hp
          refine .inl (stepOp_sound hN hE hC r rt hs fun m' v' w' k1 k2 k3 => ?_)
          refine ih (i + 1) tm2 tm' h2 h' m' (a.put o.dst v') w' hl' e k3 (rt.put k1.ext k2 hp) ?_
          intro m2 a2 w2 g1 g2 g3 g4
          exact hq m2 a2 w2 (k1.trans g1) g2 g3 (g4.trans Act.put_defers')
        · cases e
      · cases e
    · rename_i hg
      rw [if_neg (by rw [guardOk_sound rt hg rfl]; decide)]
      split at e
      · rename_i tm2 hp
        refine ih (i + 1) tm2 tm' h h' m (a.put o.dst undef) w hl' e r (rt.put (.refl m) (by simp [undef, renO, renOs]) hp) ?_
        intro m2 a2 w2 g1 g2 g3 g4
        exact hq m2 a2 w2 g1 g2 g3 (g4.trans Act.put_defers')
      · cases e
    · cases e

/-! ### code -/
/-- the rounds of a loop -/
def LoopWp (P : Program) (c : Code) (Q : Exit → Act → World → Prop) (a : Act) (w : World) : Prop :=
  ∀ (b : Frame) (k : List Item) (cs : List Frame), ∃ e a' w', Q e a' w' ∧ Arrives P (lone (b.at a (.code c :: .inLoop c :: k)) cs w) b k cs e a' w'

theorem LoopWp.wp {c : Code} {Q : Exit → Act → World → Prop} (hh : LoopWp P c Q a w) : (Code.loop c).wp P Q a w :=
  fun b k cs => let ⟨e, a', w', q, r⟩ := hh b k cs; ⟨e, a', w', q, .of_steps (.one step_loop) r⟩

theorem LoopWp.round {c : Code} {Q : Exit → Act → World → Prop} (hh : c.wp P (Exit.then (LoopWp P c Q) Q) a w) : LoopWp P c Q a w := by
  intro b k cs
  obtain ⟨e, a₁, w₁, hq, harr⟩ := hh b (.inLoop c :: k) cs
  cases e with
  | normal =>
    obtain ⟨e₂, a₂, w₂, hq₂, harr₂⟩ := hq b k cs
    exact ⟨e₂, a₂, w₂, hq₂, .of_steps (Steps.trans harr (.one step_inLoop)) harr₂⟩
  | exit id => exact ⟨_, a₁, w₁, hq, .pass (x := .inLoop c) rfl (fun _ _ => .inl (by simp)) harr⟩
  | goto l => exact ⟨_, a₁, w₁, hq, .pass (x := .inLoop c) rfl (fun _ _ => .inl (by simp)) harr⟩
  | ret => exact ⟨_, a₁, w₁, hq, .pass (x := .inLoop c) rfl (fun _ _ => .inl (by simp)) harr⟩
  | panic ch => exact ⟨_, a₁, w₁, hq, .pass (x := .inLoop c) rfl (fun _ _ => .inl (by simp)) harr⟩
  | outgrown => exact ⟨_, a₁, w₁, hq, .pass (x := .inLoop c) rfl (fun _ _ => .inl (by simp)) harr⟩

/-- what is asked of what stands for code -/
def RecOk (P : Program) (G : Nat → Option (List Value)) (rec_ : Rec) : Prop :=
  ∀ c nt tm h e tm' h', rec_ c nt tm h = some (e, tm', h') → ∀ m F K a w, Rel P G m F K h w → TRel m nt tm a.tmps → ∀ Q : Exit → Act → World → Prop,
    (∀ m' a' w', Step m m' h h' → Rel P G m' F K h' w' → TRel m' nt tm' a'.tmps → a'.defers = a.defers → Q (exO e) a' w') → c.wp P Q a w ∧ ∀ b, c = .loop b → LoopWp P b Q a w

def DrawnOk (P : Program) (G : Nat → Option (List Value)) (D : Drawn) : Prop :=
  ∀ call, CallOk P G call → ∀ ops nt tm h tm' h', D call ops nt tm h = some (tm', h') → ∀ m F K a w id, Rel P G m F K h w → TRel m nt tm a.tmps → ∀ Q : Exit → Act → World → Prop,
    (∀ m' a' w', Step m m' h h' → Rel P G m' F K h' w' → TRel m' nt tm' a'.tmps → a'.defers = a.defers → Q .normal a' w') → (Code.region id ops true).wp P Q a w

theorem runCode_sound (hN : NamesOk P) (hE : ExtOk P E) {D : Drawn} (hD : DrawnOk P G D) (hC : CallOk P G call) {rec_ : Rec} (hR : RecOk P G rec_) : RecOk P G (runCode P G E D call rec_) := by
  intro c nt tm h e tm' h' hrun m F K a w r rt Q hq
  have noLoop : c.wp P Q a w → (∀ b, c ≠ .loop b) → c.wp P Q a w ∧ ∀ b, c = .loop b → LoopWp P b Q a w := fun h1 h2 => ⟨h1, fun b hb => (h2 b hb).elim⟩
  cases c with
  | skip =>
    simp only [runCode, Option.some.injEq, Prod.mk.injEq] at hrun
    obtain ⟨rfl, rfl, rfl⟩ := hrun
    exact noLoop (wp_skip (hq m a w (.refl m h) r rt rfl)) (by simp)
  | label l =>
    simp only [runCode, Option.some.injEq, Prod.mk.injEq] at hrun
    obtain ⟨rfl, rfl, rfl⟩ := hrun
    exact noLoop (wp_label (hq m a w (.refl m h) r rt rfl)) (by simp)
  | ret =>
    simp only [runCode, Option.some.injEq, Prod.mk.injEq] at hrun
    obtain ⟨rfl, rfl, rfl⟩ := hrun
    exact noLoop (wp_ret (hq m a w (.refl m h) r rt rfl)) (by simp)
  | exit id =>
    simp only [runCode, Option.some.injEq, Prod.mk.injEq] at hrun
    obtain ⟨rfl, rfl, rfl⟩ := hrun
    exact noLoop (wp_exit (hq m a w (.refl m h) r rt rfl)) (by simp)
  | goto l => simp [runCode] at hrun
  | scope b => simp [runCode] at hrun
  | refuse s => simp [runCode] at hrun
  | rangeFunc f p x y => simp [runCode] at hrun
  | region id ops draw =>
    cases draw with
    | false =>
      simp only [runCode] at hrun
      split at hrun
      · rename_i tm2 h2 hr
        cases hrun
        refine noLoop (wp_region ?_) (by simp)
        have := runOps_sound (Q := Q) (F := F) (K := K) hN hE hC ops.toList 0 tm tm' h h' m a w (fun j => by simp) hr r rt hq
        rw [List.range_eq_range']
        simpa using this
      · cases hrun
    | true =>
      simp only [runCode] at hrun
      split at hrun
      · rename_i tm2 h2 hr
        cases hrun
        exact noLoop (hD call hC ops nt tm h tm' h' hr m F K a w id r rt Q hq) (by simp)
      · cases hrun
  | seq x y =>
    simp only [runCode] at hrun
    refine noLoop (wp_seq ?_) (by simp)
    split at hrun
    · rename_i tm2 h2 h1
      refine (hR x nt tm h _ _ _ h1 m F K a w r rt _ ?_).1
      intro m' a' w' k1 k2 k3 k4
      show (y.wp P Q) a' w'
      refine (hR y nt tm2 h2 _ _ _ hrun m' F K a' w' k2 k3 Q ?_).1
      intro m2 a2 w2 g1 g2 g3 g4
      exact hq m2 a2 w2 (k1.trans g1) g2 g3 (g4.trans k4)
    · rename_i res hne
      refine (hR x nt tm h _ _ _ hrun m F K a w r rt _ ?_).1
      intro m' a' w' k1 k2 k3 k4
      have := hq m' a' w' k1 k2 k3 k4
      cases e with
      | normal => exact (hne _ _ hrun).elim
      | _ => exact this
  | cond c x y =>
    simp only [runCode] at hrun
    split at hrun
    · rename_i hc
      exact noLoop (wp_cond_true (renO_bool (opnd_sound rt hc)) (hR x nt tm h _ _ _ hrun m F K a w r rt Q hq).1) (by simp)
    · rename_i hc
      exact noLoop (wp_cond_false (renO_bool (opnd_sound rt hc)) (hR y nt tm h _ _ _ hrun m F K a w r rt Q hq).1) (by simp)
    · cases hrun
  | block id b =>
    simp only [runCode] at hrun
    refine noLoop (wp_block ?_) (by simp)
    split at hrun
    · rename_i id2 tm2 h2 h1
      refine (hR b nt tm h _ _ _ h1 m F K a w r rt _ ?_).1
      intro m' a' w' k1 k2 k3 k4
      show (if id2 = id then Q .normal a' w' else Q (.exit id2) a' w')
      split at hrun
      · rename_i hb
        cases hrun
        rw [if_pos (beqT hb)]
        exact hq m' a' w' k1 k2 k3 k4
      · rename_i hb
        cases hrun
        rw [if_neg (fun e => by subst e; simp at hb)]
        exact hq m' a' w' k1 k2 k3 k4
    · rename_i res hne
      refine (hR b nt tm h _ _ _ hrun m F K a w r rt _ ?_).1
      intro m' a' w' k1 k2 k3 k4
      have := hq m' a' w' k1 k2 k3 k4
      cases e with
      | exit id2 => exact (hne _ _ _ hrun).elim
      | _ => exact this
  | loop b =>
    simp only [runCode] at hrun
    have main : LoopWp P b Q a w := by
      refine LoopWp.round ?_
      split at hrun
      · rename_i tm2 h2 h1
        refine (hR b nt tm h _ _ _ h1 m F K a w r rt _ ?_).1
        intro m' a' w' k1 k2 k3 k4
        show LoopWp P b Q a' w'
        refine (hR (.loop b) nt tm2 h2 _ _ _ hrun m' F K a' w' k2 k3 Q ?_).2 b rfl
        intro m2 a2 w2 g1 g2 g3 g4
        exact hq m2 a2 w2 (k1.trans g1) g2 g3 (g4.trans k4)
      · rename_i res hne
        refine (hR b nt tm h _ _ _ hrun m F K a w r rt _ ?_).1
        intro m' a' w' k1 k2 k3 k4
        have := hq m' a' w' k1 k2 k3 k4
        cases e with
        | normal => exact (hne _ _ hrun).elim
        | _ => exact this
    exact ⟨main.wp, fun b2 hb => by cases hb; exact main⟩

theorem resV_sound (r : Rel P G m F K h w) (rt : TRel m nt tm a.tmps) : ∀ {l : List ResultVar} {vs : List Value}, resV P G tm h l = some vs → ∃ vs', renOs m vs = some vs' ∧
    (l.mapM (fun x : ResultVar => match x with
    | .tmp t => pure (a.tmps.getD t undef)
    | .cell b t => do loadVar t (← asAddr (a.tmps.getD b undef)) : ResultVar → Sem Value)).run P w = .ok vs' w
  | [], vs, hh => by simp only [resV, Option.some.injEq] at hh; subst hh; exact ⟨[], by simp [renOs], by simp⟩
  | .tmp t :: l, vs, hh => by
    simp only [resV] at hh
    split at hh
    · rename_i u rest hu hr
      cases hh
      obtain ⟨vs', h1, h2⟩ := resV_sound r rt hr
      obtain ⟨u', h3, h4⟩ := rt.get t u hu
      refine ⟨u' :: vs', by simp only [renOs, h3, h1], ?_⟩
      rw [List.mapM_cons]
      simp only [Sem.run_bind, Sem.run_pure, Result.andThen_ok, h2]
      rw [Array.getD_eq_getD_getElem?, h4]; rfl
    · cases hh
  | .cell b t :: l, vs, hh => by
    simp only [resV] at hh
    split at hh
    · rename_i ad hb
      split at hh
      · rename_i u rest hu hr
        cases hh
        obtain ⟨vs', h1, h2⟩ := resV_sound r rt hr
        obtain ⟨u', h3, h4⟩ := rt.get b _ hb
        obtain ⟨ad', h5, rfl⟩ := renO_pointer h3
        obtain ⟨u2, h6, h7⟩ := ld_sound r hu h5
        refine ⟨u2 :: vs', by simp only [renOs, h6, h1], ?_⟩
        rw [List.mapM_cons]
        have h8 : (do loadVar t (← asAddr (a.tmps.getD b undef)) : Sem Value).run P w = .ok u2 w := by
          rw [Array.getD_eq_getD_getElem?, h4]; simp [asAddr, h7]
        simp only [Sem.run_bind] at h8
        simp only [Sem.run_bind, Sem.run_pure, Result.andThen_ok, h2, h8]
      · cases hh
    · cases hh

theorem finish_sound (r : Rel P G m F K h w) (rt : TRel m nt tm a.tmps) {fn : Func} (hf : finish P G tm h fn.results.toList = some (v, h')) : h' = h ∧ ∃ v', renO m v = some v' ∧ (results fn a.tmps).run P w = .ok v' w := by
  unfold finish at hf
  split at hf
  · rename_i u hr
    cases hf
    obtain ⟨vs', h1, h2⟩ := resV_sound (a := a) r rt hr
    obtain ⟨x, y, g1, g2, rfl⟩ := renOs_cons h1
    obtain rfl : y = [] := by simpa [renOs] using g2.symm
    refine ⟨rfl, x, g1, ?_⟩
    simp only [results, Sem.run_bind]
    rw [Array.mapM_eq_mapM_toList]
    simp only [Sem.run_map, Sem.run_pure]
    erw [h2]
    rfl
  · rename_i l hne hr
    cases hf
    obtain ⟨vs', h1, h2⟩ := resV_sound (a := a) r rt hr
    refine ⟨rfl, .tuple ⟨vs'⟩, by simp only [renO, h1], ?_⟩
    simp only [results, Sem.run_bind]
    rw [Array.mapM_eq_mapM_toList]
    simp only [Sem.run_map, Sem.run_pure]
    erw [h2]
    simp only [Result.andThen_ok]
    have hlen := renOs_length h1
    have hl1 : ¬ (vs'.toArray.size = 1) := by
      simp only [List.size_toArray]
      rw [hlen]
      intro h1l
      obtain ⟨u, rfl⟩ := List.length_eq_one_iff.1 h1l
      exact hne u rfl
    rw [dif_neg hl1]
  · cases hf

theorem callF_sound {rec_ : Rec} (hR : RecOk P G rec_) : CallOk P G (callF P G rec_) := by
  intro f args h v h' e m F K w args' r ha
  unfold callF at e
  split at e
  · cases e
  · rename_i fn hfn
    split at e
    · cases e
    · rename_i c hb
      split at e
      · cases e
      · rename_i hle
        have hle := bleT hle
        have hlen := renOs_length ha
        have rt0 : TRel m fn.ntmps (Tr.putL .e 0 args) ((⟨args'⟩ : Array Value) ++ Array.replicate (fn.ntmps - (⟨args'⟩ : Array Value).size) undef) := by
          refine ⟨by simp; omega, fun t x ht => ?_⟩
          rw [Tr.get_putL] at ht
          by_cases hk : 0 ≤ t ∧ t < 0 + args.length
          · rw [if_pos hk, Nat.sub_zero] at ht
            obtain ⟨x', h1, h2⟩ := renOs_get ha t x ht
            refine ⟨x', h1, ?_⟩
            rw [Array.getElem?_append_left (by simp; omega)]
            simpa using h2
          · rw [if_neg hk] at ht; cases ht
        refine calls_of_wp hfn hb ?_
        split at e
        · rename_i tm2 h2 hr
          refine (hR c fn.ntmps _ h _ _ _ hr m F K { tmps := _, defers := [] } w r rt0 _ ?_).1
          intro m' a' w' k1 k2 k3 k4
          obtain ⟨rfl, v', g1, g2⟩ := finish_sound k2 k3 e
          exact ⟨k4, v', g2, m', v', k1, g1, k2, rfl⟩
        · rename_i tm2 h2 hr
          refine (hR c fn.ntmps _ h _ _ _ hr m F K { tmps := _, defers := [] } w r rt0 _ ?_).1
          intro m' a' w' k1 k2 k3 k4
          obtain ⟨rfl, v', g1, g2⟩ := finish_sound k2 k3 e
          exact ⟨k4, v', g2, m', v', k1, g1, k2, rfl⟩
        · cases e

theorem run_sound (hN : NamesOk P) (hE : ExtOk P E) {D : Drawn} (hD : DrawnOk P G D) : ∀ n, RecOk P G (run P G E D n)
  | 0 => fun c nt tm h e tm' h' hrun => by simp [run] at hrun
  | n + 1 => runCode_sound hN hE hD (callF_sound (run_sound hN hE hD n)) (run_sound hN hE hD n)
end
end Go.Sim


namespace Go.Sim

/-! ## Regions that draw their order: one canonical order is run, and it is asked of each operation that what it yields hangs on no other order -/

/-- what is known of an operation by its text -/
structure Inf where
  i : Nat
  o : Oper
  cls : Nat        -- 0 quiet, 1 makes memory, 2 else
  mask : Nat       -- what comes before it
  looks : List Nat

structure Rc where
  inf : Inf
  sub : TM
  go : Bool
  v : Value
  id : Nat

def tmpsOf : List Operand → List Nat
  | [] => []
  | .tmp t :: l => t :: tmpsOf l
  | _ :: l => tmpsOf l

def guardTmp (ops : List Oper) : Option (Nat × Bool) → List Nat
  | none => []
  | some (j, _) => match ops[j]? with
    | some o => match o.dst with
      | some d => [d]
      | none => []
    | none => []

def predsL : List Edge → List Nat
  | [] => []
  | e :: l => match Region.binds .any e with
    | true => e.on :: predsL l
    | false => predsL l

def maskOf (acc : List Nat) : List Nat → Nat
  | [] => 0
  | p :: l => (1 <<< p) ||| ((acc.getD p 0) ||| maskOf acc l)

def masksL : List Oper → List Nat → List Nat
  | [], acc => acc
  | o :: l, acc => masksL l (acc ++ [maskOf acc (predsL o.after.toList)])

/-- the tmps that are read, out of the frame -/
def subT (tm : TM) : List Nat → TM → TM
  | [], acc => acc
  | t :: l, acc => match tm.get t with
    | some v => subT tm l (acc.set t v)
    | none => subT tm l acc

section
variable (P : Program) (G : Nat → Option (List Value))

def clsOf (o : Op) : Nat := match quietOp P o with
  | true => 0
  | false => match isMake o with
    | true => 1
    | false => 2

def infsL (ops : List Oper) (ms : List Nat) : Nat → List Oper → List Inf
  | _, [] => []
  | i, o :: l => ⟨i, o, clsOf P o.op, ms.getD i 0, tmpsOf o.op.operands.toList ++ guardTmp ops o.guard⟩ :: infsL ops ms (i + 1) l

def infs (ops : List Oper) : List Inf := infsL P ops (masksL ops []) 0 ops

/-- how many of the heavy operations stand in a mask -/
def cntW (mask : Nat) : List Inf → Nat
  | [] => 0
  | f :: l => match mask.testBit f.i with
    | true => cntW mask l + 1
    | false => cntW mask l

def heavy : List Inf → List Inf
  | [] => []
  | f :: l => match Nat.beq f.cls 2 with
    | true => f :: heavy l
    | false => heavy l

/-- those that come up between the s-th heavy operation and the next -/
def light (ws : List Inf) (s : Nat) : List Inf → List Inf
  | [] => []
  | f :: l => match Nat.beq f.cls 2, Nat.beq (cntW f.mask ws) s with
    | false, true => f :: light ws s l
    | _, _ => light ws s l

/-- operations that are no heavy ones, one behind the other -/
def runLight (ops : List Oper) (nt : Nat) : List Inf → TM → Hp → Option (TM × Hp × List Rc)
  | [], tm, h => some (tm, h, [])
  | f :: l, tm, h =>
    let sub := subT tm f.looks .e
    match guardOk ops sub f.o.guard with
    | some true => match aop P G f.o.op sub h with
      | some (v, h') => match putT tm f.o.dst nt v with
        | some tm' => match runLight ops nt l tm' (match Nat.beq f.cls 1 with
            | true => h'
            | false => h) with
          | some (tm2, h2, rs) => some (tm2, h2, ⟨f, sub, true, v, h.next⟩ :: rs)
          | none => none
        | none => none
      | none => none
    | some false => match putT tm f.o.dst nt undef with
      | some tm' => match runLight ops nt l tm' h with
        | some (tm2, h2, rs) => some (tm2, h2, ⟨f, sub, false, undef, h.next⟩ :: rs)
        | none => none
      | none => none
    | none => none

def runWs (E : FuncId → List Value → Option Value) (call : Call) (ops : List Oper) (nt : Nat) (all ws0 : List Inf) : List Inf → Nat → TM → Hp → Option (TM × List Hp × List Rc)
  | [], s, tm, h => match runLight P G ops nt (light ws0 s all) tm h with
    | some (tm, h, rs) => some (tm, [h], rs)
    | none => none
  | f :: ws, s, tm, h => match runLight P G ops nt (light ws0 s all) tm h with
    | none => none
    | some (tm, h1, rs) =>
      let sub := subT tm f.looks .e
      match guardOk ops sub f.o.guard with
      | some true => match stepOp P G E call f.o sub h1 with
        | some (v, h2) => match putT tm f.o.dst nt v with
          | some tm' => match runWs E call ops nt all ws0 ws (s + 1) tm' h2 with
            | some (tm2, hs, rs2) => some (tm2, h1 :: hs, rs ++ ⟨f, sub, true, v, 0⟩ :: rs2)
            | none => none
          | none => none
        | none => none
      | some false => match putT tm f.o.dst nt undef with
        | some tm' => match runWs E call ops nt all ws0 ws (s + 1) tm' h1 with
          | some (tm2, hs, rs2) => some (tm2, h1 :: hs, rs ++ ⟨f, sub, false, undef, 0⟩ :: rs2)
          | none => none
        | none => none
      | none => none

/-! ### what is asked behind the run -/
mutual
def vEq : Value → Value → Bool
  | .bool a, .bool b => a == b
  | .int k a, .int k' b => decide (k = k') && decide (a = b)
  | .float k a, .float k' b => decide (k = k') && Nat.beq a b
  | .string a, .string b => bytesEq a.data.toList b.data.toList
  | .pointer a, .pointer b => decide (a = b)
  | .slice a n c, .slice b n' c' => decide (a = b) && (Nat.beq n n' && Nat.beq c c')
  | .map a, .map b => decide (a = b)
  | .func f ⟨a⟩ ⟨c⟩, .func g ⟨b⟩ ⟨d⟩ => decide (f = g) && (vEqs a b && vEqs c d)
  | .nilFunc, .nilFunc => true
  | .iface t v, .iface u w => Nat.beq t u && vEq v w
  | .nilIface, .nilIface => true
  | .agg ⟨a⟩, .agg ⟨b⟩ => vEqs a b
  | .tuple ⟨a⟩, .tuple ⟨b⟩ => vEqs a b
  | _, _ => false
def vEqs : List Value → List Value → Bool
  | [], [] => true
  | v :: a, w :: b => vEq v w && vEqs a b
  | _, _ => false
end

def sameTmps (a b : TM) : List Nat → Bool
  | [] => true
  | t :: l => match a.get t, b.get t with
    | some v, some u => match vEq v u with
      | true => sameTmps a b l
      | false => false
    | none, _ => sameTmps a b l
    | _, _ => false

def dstIs (tm : TM) (dst : Option Nat) (v : Value) : Bool := match dst with
  | none => true
  | some d => match tm.get d with
    | some u => vEq v u
    | none => false

/-- a quiet operation yields the same in this memory -/
def quietAt (r : Rc) (h : Hp) : Bool := match aop P G r.inf.o.op r.sub h with
  | some (v, _) => vEq v r.v
  | none => false

/-- in all the memories from number lo to number hi -/
def quietIn (r : Rc) (lo hi : Nat) : Nat → List Hp → Bool
  | _, [] => true
  | s, h :: hs => match Nat.ble lo s, Nat.ble s hi with
    | true, true => match quietAt P G r h with
      | true => quietIn r lo hi (s + 1) hs
      | false => false
    | _, _ => quietIn r lo hi (s + 1) hs

/-- how many of the heavy operations do not wait for operation i -/
def cntFree (i : Nat) : List Inf → Nat
  | [] => 0
  | f :: l => match f.mask.testBit i with
    | true => cntFree i l
    | false => cntFree i l + 1

def rcOk (ws : List Inf) (hs : List Hp) (tm : TM) (r : Rc) : Bool :=
  sameTmps r.sub tm r.inf.looks && (dstIs tm r.inf.o.dst r.v && (match Nat.beq r.inf.cls 0, r.go with
    | true, true => quietIn P G r (cntW r.inf.mask ws) (cntFree r.inf.i ws) 0 hs
    | _, _ => true))

def rcsOk (ws : List Inf) (hs : List Hp) (tm : TM) : List Rc → Bool
  | [] => true
  | r :: l => match rcOk P G ws hs tm r with
    | true => rcsOk ws hs tm l
    | false => false

/-! ### what is asked of the text -/
/-- whoever writes one of these tmps stands in the mask -/
def writersIn (mask : Nat) (looks : List Nat) : List Inf → Bool
  | [] => true
  | f :: l => match f.o.dst with
    | none => writersIn mask looks l
    | some d => match looks.contains d with
      | false => writersIn mask looks l
      | true => match mask.testBit f.i with
        | true => writersIn mask looks l
        | false => false

/-- the heavy operations stand in one row -/
def chainW : List Inf → Bool
  | [] => true
  | f :: l => match l with
    | [] => true
    | g :: _ => match g.mask.testBit f.i with
      | true => chainW l
      | false => false

def predsOk (n : Nat) : List Nat → Bool
  | [] => true
  | p :: l => match Nat.blt p n with
    | true => predsOk n l
    | false => false

def infOk (all : List Inf) (f : Inf) : Bool := predsOk f.i (predsL f.o.after.toList) && writersIn f.mask f.looks all

def infsOk (all : List Inf) : List Inf → Bool
  | [] => true
  | f :: l => match infOk all f with
    | true => infsOk all l
    | false => false

def lastH : List Hp → Option Hp
  | [] => none
  | [h] => some h
  | _ :: l => lastH l

def drawn (E : FuncId → List Value → Option Value) (call : Call) (ops : Array Oper) (nt : Nat) (tm : TM) (h : Hp) : Option (TM × Hp) :=
  let all := infs P ops.toList
  let ws := heavy all
  match infsOk all all, chainW ws with
  | true, true => match runWs P G E call ops.toList nt all ws ws 0 tm h with
    | none => none
    | some (tm2, hs, rs) => match rcsOk P G ws hs tm2 rs, lastH hs with
      | true, some h2 => some (tm2, h2)
      | _, _ => none
  | _, _ => none
end
end Go.Sim


namespace Go.Sim
variable {P : Program} {G : Nat → Option (List Value)}

/-! ### the text -/
theorem infsL_get (ops : List Oper) (ms : List Nat) : ∀ (l : List Oper) (i j : Nat), (infsL P ops ms i l)[j]? = (l[j]?).map fun o => ⟨i + j, o, clsOf P o.op, ms.getD (i + j) 0, tmpsOf o.op.operands.toList ++ guardTmp ops o.guard⟩
  | [], i, j => by simp [infsL]
  | o :: l, i, j => by
    cases j with
    | zero => simp [infsL]
    | succ j => simp only [infsL, List.getElem?_cons_succ, infsL_get ops ms l (i + 1) j]; rw [show i + 1 + j = i + (j + 1) by omega]

theorem infs_get (ops : List Oper) (j : Nat) : (infs P ops)[j]? = (ops[j]?).map fun o => ⟨j, o, clsOf P o.op, (masksL ops []).getD j 0, tmpsOf o.op.operands.toList ++ guardTmp ops o.guard⟩ := by
  unfold infs; rw [infsL_get]; simp

theorem infs_mem {ops : List Oper} {f : Inf} (h : f ∈ infs P ops) : (infs P ops)[f.i]? = some f ∧ ops[f.i]? = some f.o ∧ f.cls = clsOf P f.o.op ∧ f.mask = (masksL ops []).getD f.i 0 ∧ f.looks = tmpsOf f.o.op.operands.toList ++ guardTmp ops f.o.guard := by
  obtain ⟨j, hj⟩ := List.mem_iff_getElem?.1 h
  have h2 := hj
  rw [infs_get] at h2
  cases ho : ops[j]? with
  | none => rw [ho] at h2; cases h2
  | some o =>
    rw [ho] at h2
    cases h2
    exact ⟨hj, ho, rfl, rfl, rfl⟩

theorem infsOk_mem {all : List Inf} : ∀ {l : List Inf}, infsOk all l = true → ∀ f ∈ l, infOk all f = true
  | [], _, f, hf => by cases hf
  | g :: l, h, f, hf => by
    simp only [infsOk] at h
    cases hg : infOk all g with
    | false => rw [hg] at h; cases h
    | true =>
      rw [hg] at h
      rcases List.mem_cons.1 hf with rfl | hf
      · exact hg
      · exact infsOk_mem h f hf

theorem predsOk_mem {n : Nat} : ∀ {l : List Nat}, predsOk n l = true → ∀ p ∈ l, p < n
  | [], _, p, hp => by cases hp
  | q :: l, h, p, hp => by
    simp only [predsOk] at h
    cases hq : Nat.blt q n with
    | false => rw [hq] at h; cases h
    | true =>
      rw [hq] at h
      rcases List.mem_cons.1 hp with rfl | hp
      · exact bltT hq
      · exact predsOk_mem h p hp

theorem mem_predsL : ∀ {l : List Edge} {p : Nat}, p ∈ predsL l ↔ ∃ e ∈ l, Region.binds .any e = true ∧ e.on = p
  | [], p => by simp [predsL]
  | e :: l, p => by
    simp only [predsL]
    cases hb : Region.binds .any e with
    | true => simp only [List.mem_cons, mem_predsL (l := l)]; constructor
              · rintro (rfl | ⟨e2, h1, h2, h3⟩)
                · exact ⟨e, .inl rfl, hb, rfl⟩
                · exact ⟨e2, .inr h1, h2, h3⟩
              · rintro ⟨e2, rfl | h1, h2, h3⟩
                · exact .inl h3.symm
                · exact .inr ⟨e2, h1, h2, h3⟩
    | false => rw [mem_predsL (l := l)]; constructor
               · rintro ⟨e2, h1, h2, h3⟩; exact ⟨e2, List.mem_cons_of_mem _ h1, h2, h3⟩
               · rintro ⟨e2, h1, h2, h3⟩
                 rcases List.mem_cons.1 h1 with rfl | h1
                 · rw [hb] at h2; cases h2
                 · exact ⟨e2, h1, h2, h3⟩

theorem maskOf_bit {acc : List Nat} : ∀ {l : List Nat} {p : Nat}, (maskOf acc l).testBit p = true → ∃ q ∈ l, q = p ∨ (acc.getD q 0).testBit p = true
  | [], p, h => by simp [maskOf] at h
  | q :: l, p, h => by
    simp only [maskOf, Nat.testBit_or, Bool.or_eq_true] at h
    rcases h with h | h | h
    · rw [Nat.one_shiftLeft, Nat.testBit_two_pow] at h
      exact ⟨q, List.mem_cons_self .., .inl (of_decide_eq_true h)⟩
    · exact ⟨q, List.mem_cons_self .., .inr h⟩
    · obtain ⟨q2, h1, h2⟩ := maskOf_bit h
      exact ⟨q2, List.mem_cons_of_mem _ h1, h2⟩

theorem masksL_get : ∀ (l : List Oper) (acc : List Nat) (j : Nat), (∀ k, k < acc.length → (masksL l acc)[k]? = acc[k]?) ∧
    ∀ o, l[j]? = some o → ∃ acc', (∀ q, acc'.getD q 0 = (masksL l acc).getD q 0 ∨ acc'.getD q 0 = 0) ∧ (masksL l acc).getD (acc.length + j) 0 = maskOf acc' (predsL o.after.toList)
  | [], acc, j => ⟨fun k hk => rfl, fun o ho => by simp at ho⟩
  | x :: l, acc, j => by
    have ih := masksL_get l (acc ++ [maskOf acc (predsL x.after.toList)])
    have hold : ∀ k, k < acc.length → (masksL (x :: l) acc)[k]? = acc[k]? := fun k hk => by
      rw [masksL, (ih 0).1 k (by simp; omega), List.getElem?_append_left hk]
    refine ⟨hold, fun o ho => ?_⟩
    cases j with
    | zero =>
      cases ho
      refine ⟨acc, fun q => ?_, ?_⟩
      · by_cases hq : q < acc.length
        · left; rw [List.getD_eq_getElem?_getD, List.getD_eq_getElem?_getD, hold q hq]
        · right; rw [List.getD_eq_getElem?_getD, List.getElem?_eq_none (by omega)]; rfl
      · rw [masksL, List.getD_eq_getElem?_getD, Nat.add_zero, (ih 0).1 acc.length (by simp)]
        simp
    | succ j =>
      obtain ⟨acc', h1, h2⟩ := (ih j).2 o (by simpa using ho)
      refine ⟨acc', h1, ?_⟩
      rw [masksL]
      rw [List.length_append, List.length_singleton] at h2
      rw [← h2]; congr 1; omega

theorem mask_bit {ops : List Oper} {j p : Nat} {o : Oper} (ho : ops[j]? = some o) (h : ((masksL ops []).getD j 0).testBit p = true) : ∃ q ∈ predsL o.after.toList, q = p ∨ ((masksL ops []).getD q 0).testBit p = true := by
  obtain ⟨acc', h1, h2⟩ := (masksL_get ops [] j).2 o ho
  simp only [List.length_nil, Nat.zero_add] at h2
  rw [h2] at h
  obtain ⟨q, h3, h4⟩ := maskOf_bit h
  refine ⟨q, h3, h4.imp id fun h4 => ?_⟩
  rcases h1 q with h5 | h5
  · rw [← h5]; exact h4
  · rw [h5] at h4; simp at h4

/-- what is listed is closed downward -/
def Closed (ops : List Oper) (L : Nat → Bool) : Prop := ∀ i o, ops[i]? = some o → L i = true → ∀ p ∈ predsL o.after.toList, L p = true

theorem mask_listed {ops : List Oper} (hall : infsOk (infs P ops) (infs P ops) = true) {L : Nat → Bool} (hL : Closed ops L) : ∀ (n j : Nat) (o : Oper), j < n → ops[j]? = some o → (∀ p ∈ predsL o.after.toList, L p = true) → ∀ p, ((masksL ops []).getD j 0).testBit p = true → L p = true := by
  intro n
  induction n with
  | zero => intro j o h; omega
  | succ n ih =>
    intro j o hj ho hp p hb
    obtain ⟨q, h1, h2⟩ := mask_bit ho hb
    rcases h2 with rfl | h2
    · exact hp q h1
    · have hmem : (⟨j, o, clsOf P o.op, (masksL ops []).getD j 0, tmpsOf o.op.operands.toList ++ guardTmp ops o.guard⟩ : Inf) ∈ infs P ops := List.mem_iff_getElem?.2 ⟨j, by rw [infs_get, ho]; rfl⟩
      have hok := infsOk_mem hall _ hmem
      simp only [infOk, Bool.and_eq_true] at hok
      have hlt := predsOk_mem hok.1 q h1
      have hqn : q < ops.length := by have := lgetElem?_lt ho; omega
      exact ih q ops[q] (by omega) (List.getElem?_eq_getElem hqn) (hL q _ (List.getElem?_eq_getElem hqn) (hp q h1)) p h2

theorem writersIn_mem {mask : Nat} {looks : List Nat} : ∀ {l : List Inf}, writersIn mask looks l = true → ∀ f ∈ l, ∀ d, f.o.dst = some d → d ∈ looks → mask.testBit f.i = true
  | [], _, f, hf => by cases hf
  | g :: l, h, f, hf => by
    intro d hd hdl
    simp only [writersIn] at h
    rcases List.mem_cons.1 hf with rfl | hf
    · rw [hd] at h
      dsimp only at h
      have : looks.contains d = true := by simpa using hdl
      rw [this] at h
      dsimp only at h
      cases hb : mask.testBit f.i with
      | true => rfl
      | false => rw [hb] at h; cases h
    · revert h
      cases g.o.dst with
      | none => intro h; exact writersIn_mem h f hf d hd hdl
      | some d2 =>
        dsimp only
        cases looks.contains d2 with
        | false => intro h; exact writersIn_mem h f hf d hd hdl
        | true =>
          cases mask.testBit g.i with
          | true => intro h; exact writersIn_mem h f hf d hd hdl
          | false => intro h; cases h

theorem mem_heavy : ∀ {l : List Inf} {f : Inf}, f ∈ heavy l ↔ f ∈ l ∧ f.cls = 2
  | [], f => by simp [heavy]
  | g :: l, f => by
    simp only [heavy]
    cases hg : Nat.beq g.cls 2 with
    | true =>
      simp only [List.mem_cons, mem_heavy (l := l)]
      constructor
      · rintro (rfl | h)
        · exact ⟨.inl rfl, beqT hg⟩
        · exact ⟨.inr h.1, h.2⟩
      · rintro ⟨rfl | h1, h2⟩
        · exact .inl rfl
        · exact .inr ⟨h1, h2⟩
    | false =>
      dsimp only
      rw [mem_heavy (l := l)]
      constructor
      · rintro ⟨h1, h2⟩; exact ⟨List.mem_cons_of_mem _ h1, h2⟩
      · rintro ⟨h1, h2⟩
        rcases List.mem_cons.1 h1 with rfl | h1
        · rw [h2] at hg; simp at hg
        · exact ⟨h1, h2⟩

theorem mem_light {ws : List Inf} {s : Nat} : ∀ {l : List Inf} {f : Inf}, f ∈ light ws s l ↔ f ∈ l ∧ f.cls ≠ 2 ∧ cntW f.mask ws = s
  | [], f => by simp [light]
  | g :: l, f => by
    simp only [light]
    have step : (f ∈ light ws s l ↔ f ∈ l ∧ f.cls ≠ 2 ∧ cntW f.mask ws = s) := mem_light
    cases hg : Nat.beq g.cls 2 with
    | true =>
      dsimp only
      rw [step]
      constructor
      · rintro ⟨h1, h2⟩; exact ⟨List.mem_cons_of_mem _ h1, h2⟩
      · rintro ⟨h1, h2, h3⟩
        rcases List.mem_cons.1 h1 with rfl | h1
        · exact absurd (beqT hg) h2
        · exact ⟨h1, h2, h3⟩
    | false =>
      cases hs : Nat.beq (cntW g.mask ws) s with
      | true =>
        dsimp only
        rw [List.mem_cons, step, List.mem_cons]
        constructor
        · rintro (rfl | h)
          · exact ⟨.inl rfl, fun e => by rw [e] at hg; simp at hg, beqT hs⟩
          · exact ⟨.inr h.1, h.2⟩
        · rintro ⟨rfl | h1, h2⟩
          · exact .inl rfl
          · exact .inr ⟨h1, h2⟩
      | false =>
        dsimp only
        rw [step]
        constructor
        · rintro ⟨h1, h2⟩; exact ⟨List.mem_cons_of_mem _ h1, h2⟩
        · rintro ⟨h1, h2, h3⟩
          rcases List.mem_cons.1 h1 with rfl | h1
          · rw [h3] at hs; simp at hs
          · exact ⟨h1, h2, h3⟩

/-! ### values that are told to be one -/
mutual
theorem vEq_eq : ∀ (a b : Value), vEq a b = true → a = b
  | .bool a, b, h => by cases b <;> simp [vEq] at h; subst h; rfl
  | .int k a, b, h => by cases b <;> simp [vEq] at h; obtain ⟨rfl, rfl⟩ := h; rfl
  | .float k a, b, h => by cases b <;> simp [vEq] at h; obtain ⟨rfl, h⟩ := h; rw [h]
  | .complex k a c, b, h => by cases b <;> simp [vEq] at h
  | .string a, b, h => by
    cases b <;> simp [vEq, bytesEq_iff] at h
    congr 1; apply ByteArray.ext; exact h
  | .pointer a, b, h => by cases b <;> simp [vEq] at h; subst h; rfl
  | .slice a n c, b, h => by cases b <;> simp [vEq] at h; obtain ⟨rfl, rfl, rfl⟩ := h; rfl
  | .map a, b, h => by cases b <;> simp [vEq] at h; subst h; rfl
  | .chan a, b, h => by cases b <;> simp [vEq] at h
  | .func f ⟨a⟩ ⟨c⟩, b, h => by
    cases b <;> simp only [vEq] at h <;> try (cases h; done)
    rename_i g b d
    obtain ⟨b⟩ := b; obtain ⟨d⟩ := d
    simp only [vEq, Bool.and_eq_true, decide_eq_true_eq] at h
    obtain ⟨rfl, h1, h2⟩ := h
    rw [vEqs_eq a b h1, vEqs_eq c d h2]
  | .nilFunc, b, h => by cases b <;> simp [vEq] at h; rfl
  | .iface t v, b, h => by
    cases b <;> simp only [vEq] at h <;> try (cases h; done)
    rename_i u x
    simp only [Bool.and_eq_true] at h
    rw [beqT h.1, vEq_eq v x h.2]
  | .nilIface, b, h => by cases b <;> simp [vEq] at h; rfl
  | .agg ⟨a⟩, b, h => by
    cases b <;> simp only [vEq] at h <;> try (cases h; done)
    rename_i b
    obtain ⟨b⟩ := b
    simp only [vEq] at h
    rw [vEqs_eq a b h]
  | .tuple ⟨a⟩, b, h => by
    cases b <;> simp only [vEq] at h <;> try (cases h; done)
    rename_i b
    obtain ⟨b⟩ := b
    simp only [vEq] at h
    rw [vEqs_eq a b h]
theorem vEqs_eq : ∀ (a b : List Value), vEqs a b = true → a = b
  | [], b, h => by cases b <;> simp [vEqs] at h; rfl
  | v :: a, b, h => by
    cases b with
    | nil => simp [vEqs] at h
    | cons x b =>
      simp only [vEqs, Bool.and_eq_true] at h
      rw [vEq_eq v x h.1, vEqs_eq a b h.2]
end
end Go.Sim


namespace Go.Sim
variable {P : Program} {G : Nat → Option (List Value)}

theorem clsOf_zero {o : Op} (h : clsOf P o = 0) : quietOp P o = true := by
  unfold clsOf at h
  cases hq : quietOp P o with
  | true => rfl
  | false => rw [hq] at h; dsimp only at h; cases hm : isMake o <;> rw [hm] at h <;> cases h
theorem clsOf_one {o : Op} (h : clsOf P o = 1) : isMake o = true := by
  unfold clsOf at h
  cases hq : quietOp P o with
  | true => rw [hq] at h; cases h
  | false => rw [hq] at h; dsimp only at h; cases hm : isMake o with
    | true => rfl
    | false => rw [hm] at h; cases h
theorem clsOf_cases (o : Op) : clsOf P o = 0 ∨ clsOf P o = 1 ∨ clsOf P o = 2 := by
  unfold clsOf
  cases quietOp P o <;> cases isMake o <;> simp

/-- the shape of what a making operation leaves -/
theorem make_shape {o : Op} (hm : isMake o = true) {tm : TM} {h h' : Hp} {v : Value} (e : aop P G o tm h = some (v, h')) : ∃ obj, h' = { next := h.next + 1, bs := h.bs.set h.next obj } := by
  cases o with
  | alloc t =>
    simp only [aop] at e
    split at e
    · unfold newC at e; cases e; exact ⟨_, rfl⟩
    · cases e
  | box t x =>
    simp only [aop] at e
    split at e
    · unfold newC at e; cases e; exact ⟨_, rfl⟩
    · cases e
  | buildSlice t len parts =>
    simp only [aop] at e
    split at e
    · split at e
      · split at e
        · split at e
          · split at e
            · rename_i hc; unfold newC at hc; cases hc; cases e; exact ⟨_, rfl⟩
            · cases e
          · cases e
        · cases e
      · cases e
    · cases e
  | makeSlice t l c =>
    simp only [aop] at e
    split at e
    · split at e
      · split at e
        · split at e
          · split at e
            · rename_i hc; unfold newC at hc; cases hc; cases e; exact ⟨_, rfl⟩
            · cases e
          · cases e
        · cases e
      · cases e
    · cases e
  | makeMap t q =>
    cases q with
    | none => simp only [aop] at e; cases e; exact ⟨_, rfl⟩
    | some x =>
      simp only [aop] at e
      split at e
      · cases e; exact ⟨_, rfl⟩
      · cases e
  | _ => simp [isMake] at hm

/-- the tmps of a cut-out frame are among those that are looked at -/
theorem subT_get {tm : TM} : ∀ {l : List Nat} {acc : TM} {t : Nat} {v : Value}, (subT tm l acc).get t = some v → acc.get t = some v ∨ t ∈ l
  | [], acc, t, v, h => .inl h
  | q :: l, acc, t, v, h => by
    simp only [subT] at h
    split at h
    · rename_i u hu
      rcases subT_get h with h1 | h1
      · rw [Tr.get_set] at h1
        by_cases e : q = t
        · exact .inr (by rw [e]; exact List.mem_cons_self ..)
        · rw [if_neg e] at h1; exact .inl h1
      · exact .inr (List.mem_cons_of_mem _ h1)
    · rcases subT_get h with h1 | h1
      · exact .inl h1
      · exact .inr (List.mem_cons_of_mem _ h1)
theorem subE_get {tm : TM} {l : List Nat} {t : Nat} {v : Value} (h : (subT tm l .e).get t = some v) : t ∈ l := by
  rcases subT_get h with h | h
  · rw [Tr.get_e] at h; cases h
  · exact h

/-- what is known of a light operation that was run -/
structure RcL (P : Program) (G : Nat → Option (List Value)) (ops : List Oper) (nt : Nat) (h H : Hp) (r : Rc) : Prop where
  lt : ∀ d, r.inf.o.dst = some d → d < nt
  look : ∀ t v, r.sub.get t = some v → t ∈ r.inf.looks
  guard : guardOk ops r.sub r.inf.o.guard = some r.go
  off : r.go = false → r.v = undef
  on : r.go = true → ∃ hp hp', aop P G r.inf.o.op r.sub hp = some (r.v, hp') ∧ hp.next = r.id ∧ (r.inf.cls = 1 → h.next ≤ r.id ∧ r.id < H.next ∧ H.bs.get r.id = hp'.bs.get r.id)

def Rc.made (r : Rc) : Prop := r.inf.cls = 1 ∧ r.go = true

theorem putT_lt {tm tm' : TM} {dst : Option Nat} {nt : Nat} {v : Value} (h : putT tm dst nt v = some tm') : ∀ d, dst = some d → d < nt := by
  intro d hd
  subst hd
  unfold putT at h
  dsimp only at h
  split at h
  · rename_i hb; exact bltT hb
  · cases h
theorem putT_get {tm tm' : TM} {dst : Option Nat} {nt : Nat} {v : Value} (h : putT tm dst nt v = some tm') {t : Nat} (ht : dst ≠ some t) : tm'.get t = tm.get t := by
  unfold putT at h
  cases dst with
  | none => cases h; rfl
  | some d =>
    dsimp only at h
    split at h
    · cases h; rw [Tr.get_set, if_neg (fun e => ht (by rw [e]))]
    · cases h

/-- memory that only has more objects -/
structure Grows (h H : Hp) : Prop where
  next : h.next ≤ H.next
  old : ∀ i, i < h.next → H.bs.get i = h.bs.get i
theorem Grows.refl (h : Hp) : Grows h h := ⟨Nat.le_refl _, fun _ _ => rfl⟩
theorem Grows.trans {a b c : Hp} (x : Grows a b) (y : Grows b c) : Grows a c :=
  ⟨Nat.le_trans x.next y.next, fun i hi => (y.old i (Nat.lt_of_lt_of_le hi x.next)).trans (x.old i hi)⟩

theorem runLight_spec {ops : List Oper} {nt : Nat} : ∀ {fs : List Inf} {tm tm' : TM} {h h' : Hp} {rs : List Rc}, (∀ f ∈ fs, f.cls = clsOf P f.o.op) → runLight P G ops nt fs tm h = some (tm', h', rs) →
    rs.map (·.inf) = fs ∧ Grows h h' ∧ (∀ t, (∀ f ∈ fs, f.o.dst ≠ some t) → tm'.get t = tm.get t) ∧ (∀ r ∈ rs, RcL P G ops nt h h' r) ∧
    (∀ r1 ∈ rs, ∀ r2 ∈ rs, r1.made → r2.made → r1.id = r2.id → r1 = r2)
  | [], tm, tm', h, h', rs, _, e => by
    simp only [runLight, Option.some.injEq, Prod.mk.injEq] at e
    obtain ⟨rfl, rfl, rfl⟩ := e
    refine ⟨rfl, .refl h, fun _ _ => rfl, ?_, ?_⟩
    · intro r hr; cases hr
    · intro r hr; cases hr
  | f :: fs, tm, tm', h, h', rs, hc, e => by
    have hcf := hc f (List.mem_cons_self ..)
    have hct : ∀ g ∈ fs, g.cls = clsOf P g.o.op := fun g hg => hc g (List.mem_cons_of_mem _ hg)
    simp only [runLight] at e
    split at e
    · rename_i hg
      split at e
      · rename_i v h1 ha
        split at e
        · rename_i tm1 hp
          split at e
          · rename_i tm2 h2 rs2 hr
            cases e
            obtain ⟨hx, hr, k1, k0⟩ : ∃ hx, runLight P G ops nt fs tm1 hx = some (tm', h', rs2) ∧ (f.cls = 1 → hx = h1) ∧ (f.cls ≠ 1 → hx = h) := by
              cases hb : Nat.beq f.cls 1 with
              | true => rw [hb] at hr; exact ⟨h1, hr, fun _ => rfl, fun hn => absurd (beqT hb) hn⟩
              | false => rw [hb] at hr; exact ⟨h, hr, fun hn => (by rw [hn] at hb; simp at hb), fun _ => rfl⟩
            obtain ⟨g1, g2, g3, g4, g5⟩ := runLight_spec hct hr
            have hstep : Grows h hx ∧ (f.cls = 1 → ∃ obj, h1 = { next := h.next + 1, bs := h.bs.set h.next obj } ∧ hx = h1) := by
              by_cases hb : f.cls = 1
              · obtain ⟨obj, ho⟩ := make_shape (clsOf_one (hcf ▸ hb)) ha
                rw [k1 hb]
                refine ⟨?_, fun _ => ⟨obj, ho, rfl⟩⟩
                rw [ho]
                exact ⟨Nat.le_succ _, fun i hi => by simp only [Tr.get_set]; rw [if_neg (by omega)]⟩
              · rw [k0 hb]; exact ⟨.refl h, fun h1 => absurd h1 hb⟩
            refine ⟨by simp [g1], hstep.1.trans g2, fun t ht => ?_, fun r hr => ?_, fun r1 hr1 r2 hr2 m1 m2 he => ?_⟩
            · rw [g3 t (fun g hg => ht g (List.mem_cons_of_mem _ hg)), putT_get hp (ht f (List.mem_cons_self ..))]
            · rcases List.mem_cons.1 hr with rfl | hr
              · refine ⟨putT_lt hp, fun t v hs => subE_get hs, hg, fun hh => (by cases hh), fun _ => ⟨h, h1, ha, rfl, fun hcl => ?_⟩⟩
                obtain ⟨obj, ho, hm⟩ := hstep.2 hcl
                subst hm
                have hn : hx.next = h.next + 1 := by rw [ho]
                exact ⟨Nat.le_refl _, by have := g2.next; simp only; omega, g2.old _ (by simp only; omega)⟩
              · obtain ⟨kk, k0, k1, k2, k3⟩ := g4 r hr
                refine ⟨kk, k0, k1, k2, fun hgo => ?_⟩
                obtain ⟨hp1, hp2, x1, x2, x3⟩ := k3 hgo
                exact ⟨hp1, hp2, x1, x2, fun hcl => ⟨Nat.le_trans hstep.1.next (x3 hcl).1, (x3 hcl).2⟩⟩
            · have head : ∀ r ∈ rs2, r.made → f.cls = 1 → r.id ≠ h.next := by
                intro r hr hm hcl e
                obtain ⟨_, _, _, _, x3⟩ := (g4 r hr).on hm.2
                obtain ⟨obj, ho, hm1⟩ := hstep.2 hcl
                have := (x3 hm.1).1
                rw [hm1, ho] at this
                simp only at this
                omega
              rcases List.mem_cons.1 hr1 with rfl | hr1 <;> rcases List.mem_cons.1 hr2 with rfl | hr2
              · rfl
              · exact absurd he.symm (head r2 hr2 m2 m1.1)
              · exact absurd he (head r1 hr1 m1 m2.1)
              · exact g5 r1 hr1 r2 hr2 m1 m2 he
          · cases e
        · cases e
      · cases e
    · rename_i hg
      split at e
      · rename_i tm1 hp
        split at e
        · rename_i tm2 h2 rs2 hr
          cases e
          obtain ⟨g1, g2, g3, g4, g5⟩ := runLight_spec hct hr
          refine ⟨by simp [g1], g2, fun t ht => ?_, fun r hr => ?_, fun r1 hr1 r2 hr2 m1 m2 he => ?_⟩
          · rw [g3 t (fun g hg => ht g (List.mem_cons_of_mem _ hg)), putT_get hp (ht f (List.mem_cons_self ..))]
          · rcases List.mem_cons.1 hr with rfl | hr
            · exact ⟨putT_lt hp, fun t v hs => subE_get hs, hg, fun _ => rfl, fun hh => (by cases hh)⟩
            · exact g4 r hr
          · rcases List.mem_cons.1 hr1 with rfl | hr1
            · exact absurd m1.2 (by simp)
            · rcases List.mem_cons.1 hr2 with rfl | hr2
              · exact absurd m2.2 (by simp)
              · exact g5 r1 hr1 r2 hr2 m1 m2 he
        · cases e
      · cases e
    · cases e

/-- the run of a region, laid open -/
inductive Trace (P : Program) (G : Nat → Option (List Value)) (E : FuncId → List Value → Option Value) (call : Call) (ops : List Oper) (nt : Nat) (all ws0 : List Inf) : List Inf → Nat → Hp → List Hp → List Rc → Prop where
  | last {s : Nat} {h H : Hp} {rs : List Rc} (hl : rs.map (·.inf) = light ws0 s all) (hg : Grows h H) (hr : ∀ r ∈ rs, RcL P G ops nt h H r) (hd : ∀ r1 ∈ rs, ∀ r2 ∈ rs, r1.made → r2.made → r1.id = r2.id → r1 = r2) : Trace P G E call ops nt all ws0 [] s h [H] rs
  | step {f : Inf} {ws : List Inf} {s : Nat} {h H h2 : Hp} {hs : List Hp} {rs rs2 : List Rc} {rw : Rc} (hl : rs.map (·.inf) = light ws0 s all) (hg : Grows h H) (hr : ∀ r ∈ rs, RcL P G ops nt h H r)
      (hd : ∀ r1 ∈ rs, ∀ r2 ∈ rs, r1.made → r2.made → r1.id = r2.id → r1 = r2)
      (hw : rw.inf = f) (hlt : ∀ d, f.o.dst = some d → d < nt) (hlk : ∀ t v, rw.sub.get t = some v → t ∈ f.looks) (hgu : guardOk ops rw.sub f.o.guard = some rw.go) (hon : rw.go = true → stepOp P G E call f.o rw.sub H = some (rw.v, h2)) (hoff : rw.go = false → rw.v = undef ∧ h2 = H)
      (ht : Trace P G E call ops nt all ws0 ws (s + 1) h2 hs rs2) : Trace P G E call ops nt all ws0 (f :: ws) s h (H :: hs) (rs ++ rw :: rs2)

theorem runWs_spec {E : FuncId → List Value → Option Value} {call : Call} {ops : List Oper} {nt : Nat} {all ws0 : List Inf} (hc : ∀ f ∈ all, f.cls = clsOf P f.o.op) : ∀ {ws : List Inf} {s : Nat} {tm tm' : TM} {h : Hp} {hs : List Hp} {rs : List Rc}, (∀ f ∈ ws, f ∈ all) →
    runWs P G E call ops nt all ws0 ws s tm h = some (tm', hs, rs) → Trace P G E call ops nt all ws0 ws s h hs rs ∧ (∀ t, (∀ f ∈ all, f.o.dst ≠ some t) → tm'.get t = tm.get t)
  | [], s, tm, tm', h, hs, rs, _, e => by
    simp only [runWs] at e
    split at e
    · rename_i tm1 h1 rs1 hr
      cases e
      obtain ⟨g1, g2, g3, g4, g5⟩ := runLight_spec (fun f hf => hc f (mem_light.1 hf).1) hr
      exact ⟨.last g1 g2 g4 g5, fun t ht => g3 t (fun f hf => ht f (mem_light.1 hf).1)⟩
    · cases e
  | f :: ws, s, tm, tm', h, hs, rs, hall, e => by
    simp only [runWs] at e
    split at e
    · cases e
    · rename_i tm1 h1 rs1 hr
      obtain ⟨g1, g2, g3, g4, g5⟩ := runLight_spec (fun f hf => hc f (mem_light.1 hf).1) hr
      have keep : ∀ t, (∀ f ∈ all, f.o.dst ≠ some t) → tm1.get t = tm.get t := fun t ht => g3 t (fun f hf => ht f (mem_light.1 hf).1)
      split at e
      · rename_i hg
        split at e
        · rename_i v h2 hs2
          split at e
          · rename_i tm2 hp
            split at e
            · rename_i tm3 hs3 rs3 hr3
              cases e
              obtain ⟨k1, k2⟩ := runWs_spec hc (fun g hg => hall g (List.mem_cons_of_mem _ hg)) hr3
              exact ⟨.step g1 g2 g4 g5 rfl (putT_lt hp) (fun t v hs => subE_get hs) hg (fun _ => hs2) (fun hh => by cases hh) k1, fun t ht => by rw [k2 t ht, putT_get hp (ht f (hall f (List.mem_cons_self ..))), keep t ht]⟩
            · cases e
          · cases e
        · cases e
      · rename_i hg
        split at e
        · rename_i tm2 hp
          split at e
          · rename_i tm3 hs3 rs3 hr3
            cases e
            obtain ⟨k1, k2⟩ := runWs_spec hc (fun g hg => hall g (List.mem_cons_of_mem _ hg)) hr3
            exact ⟨.step g1 g2 g4 g5 rfl (putT_lt hp) (fun t v hs => subE_get hs) hg (fun hh => by cases hh) (fun _ => ⟨rfl, rfl⟩) k1, fun t ht => by rw [k2 t ht, putT_get hp (ht f (hall f (List.mem_cons_self ..))), keep t ht]⟩
          · cases e
        · cases e
      · cases e

theorem Trace.length {E : FuncId → List Value → Option Value} {call : Call} {ops : List Oper} {nt : Nat} {all ws0 ws : List Inf} {s : Nat} {h : Hp} {hs : List Hp} {rs : List Rc} (t : Trace P G E call ops nt all ws0 ws s h hs rs) : hs.length = ws.length + 1 := by
  induction t with
  | last => rfl
  | step _ _ _ _ _ _ _ _ _ _ _ ih => simp [ih]

theorem rcsOk_mem {ws : List Inf} {hs : List Hp} {tm : TM} : ∀ {l : List Rc}, rcsOk P G ws hs tm l = true → ∀ r ∈ l, rcOk P G ws hs tm r = true
  | [], _, r, hr => by cases hr
  | q :: l, h, r, hr => by
    simp only [rcsOk] at h
    cases hq : rcOk P G ws hs tm q with
    | false => rw [hq] at h; cases h
    | true =>
      rw [hq] at h
      rcases List.mem_cons.1 hr with rfl | hr
      · exact hq
      · exact rcsOk_mem h r hr

theorem quietIn_get {r : Rc} {lo hi : Nat} : ∀ {hs : List Hp} {s q : Nat} {H : Hp}, quietIn P G r lo hi s hs = true → hs[q]? = some H → lo ≤ s + q → s + q ≤ hi → quietAt P G r H = true
  | [], s, q, H, _, hq, _, _ => by simp at hq
  | h :: hs, s, q, H, hk, hq, h1, h2 => by
    simp only [quietIn] at hk
    cases q with
    | zero =>
      cases hq
      have a : Nat.ble lo s = true := Nat.ble_eq_true_of_le (by omega)
      have b : Nat.ble s hi = true := Nat.ble_eq_true_of_le (by omega)
      rw [a, b] at hk
      dsimp only at hk
      cases hh : quietAt P G r h with
      | true => rfl
      | false => rw [hh] at hk; cases hk
    | succ q =>
      have tail : quietIn P G r lo hi (s + 1) hs = true := by
        revert hk
        cases Nat.ble lo s <;> cases Nat.ble s hi <;> try exact id
        dsimp only
        cases quietAt P G r h with
        | true => exact id
        | false => intro h; cases h
      exact quietIn_get tail (by simpa using hq) (by omega) (by omega)

theorem sameTmps_get {a b : TM} : ∀ {l : List Nat}, sameTmps a b l = true → ∀ t ∈ l, ∀ v, a.get t = some v → b.get t = some v
  | [], _, t, ht => by cases ht
  | q :: l, h, t, ht => by
    intro v hv
    simp only [sameTmps] at h
    rcases List.mem_cons.1 ht with rfl | ht
    · rw [hv] at h
      cases hb : b.get t with
      | none => rw [hb] at h; simp at h
      | some u =>
        rw [hb] at h
        dsimp only at h
        cases he : vEq v u with
        | true => rw [vEq_eq v u he]
        | false => rw [he] at h; cases h
    · have : sameTmps a b l = true := by
        revert h
        cases a.get q <;> cases b.get q <;> try exact id
        · intro h; cases h
        · rename_i x y
          dsimp only
          cases vEq x y with
          | true => exact id
          | false => intro h; cases h
      exact sameTmps_get this t ht v hv

end Go.Sim


namespace Go.Sim
variable {P : Program} {G : Nat → Option (List Value)}

/-- objects that nobody knows may be added -/
theorem Rel.more {m : Ren} {F : Nat → Prop} {K : World} {h H : Hp} {w : World} (r : Rel P G m F K h w) (g : Grows h H) : Rel P G m F K H w where
  len := fun i hi => r.len i (Nat.le_trans g.next hi)
  os := r.os
  tape := r.tape
  output := r.output
  size := r.size
  fr := r.fr
  glob := r.glob
  obj := fun i o hi => by
    by_cases hlt : i < h.next
    · exact r.obj i o (by rw [← g.old i hlt]; exact hi)
    · have hm := r.len i (by omega)
      cases o <;> first | trivial | (intro b hb; rw [hm] at hb; cases hb)
  inj := fun i j o o' b b' h1 h2 l1 l2 m1 m2 e => by
    have hi : i < h.next := by
      rcases Nat.lt_or_ge i h.next with hh | hh
      · exact hh
      · rw [r.len i hh] at m1; cases m1
    have hj : j < h.next := by
      rcases Nat.lt_or_ge j h.next with hh | hh
      · exact hh
      · rw [r.len j hh] at m2; cases m2
    exact r.inj i j o o' b b' (by rw [← g.old i hi]; exact h1) (by rw [← g.old j hj]; exact h2) l1 l2 m1 m2 e

theorem Step.more {m : Ren} {h H : Hp} (g : Grows h H) : Step m m h H := ⟨.refl m, g.next, fun i hi hm => ⟨hm, g.old i hi⟩⟩

theorem Trace.enter {E : FuncId → List Value → Option Value} {call : Call} {ops : List Oper} {nt : Nat} {all ws0 ws : List Inf} {s : Nat} {h : Hp} {hs : List Hp} {rs : List Rc} (t : Trace P G E call ops nt all ws0 ws s h hs rs) :
    ∃ (H : Hp) (hs' : List Hp) (rl : List Rc), hs = H :: hs' ∧ rl.map (·.inf) = light ws0 s all ∧ Grows h H ∧ (∀ r ∈ rl, RcL P G ops nt h H r) ∧ (∀ r1 ∈ rl, ∀ r2 ∈ rl, r1.made → r2.made → r1.id = r2.id → r1 = r2) ∧ ∀ r ∈ rl, r ∈ rs := by
  cases t with
  | last a b c d => exact ⟨_, _, _, rfl, a, b, c, d, fun r hr => hr⟩
  | step a b c d => exact ⟨_, _, _, rfl, a, b, c, d, fun r hr => List.mem_append_left _ hr⟩

/-! ### the row of the heavy ones -/
theorem heavy_filter : ∀ l : List Inf, heavy l = l.filter (fun f => Nat.beq f.cls 2)
  | [] => rfl
  | f :: l => by
    simp only [heavy, List.filter_cons]
    cases h : Nat.beq f.cls 2 with
    | true => simp [heavy_filter l]
    | false => simp [heavy_filter l]

theorem infs_pairwise (ops : List Oper) : (infs P ops).Pairwise (fun a b => a.i < b.i) := by
  rw [List.pairwise_iff_getElem]
  intro i j hi hj hij
  have h1 := infs_get (P := P) ops i
  have h2 := infs_get (P := P) ops j
  rw [List.getElem?_eq_getElem hi] at h1
  rw [List.getElem?_eq_getElem hj] at h2
  cases o1 : ops[i]? with
  | none => rw [o1] at h1; cases h1
  | some a =>
    cases o2 : ops[j]? with
    | none => rw [o2] at h2; cases h2
    | some b =>
      rw [o1] at h1
      rw [o2] at h2
      simp only [Option.map_some, Option.some.injEq] at h1 h2
      rw [h1, h2]
      exact hij

theorem heavy_pairwise (ops : List Oper) : (heavy (infs P ops)).Pairwise (fun a b => a.i < b.i) := by
  rw [heavy_filter]; exact (infs_pairwise ops).filter _

theorem chain_pred : ∀ {pre : List Inf} {ws : List Inf} {g f : Inf}, chainW (pre ++ g :: ws) = true → f ∈ ws → ∃ p ∈ g :: ws, f.mask.testBit p.i = true
  | [], ws, g, f, h, hf => by
    induction ws generalizing g with
    | nil => cases hf
    | cons x ws ih =>
      simp only [List.nil_append, chainW] at h ih
      cases hb : x.mask.testBit g.i with
      | false => rw [hb] at h; cases h
      | true =>
        rw [hb] at h
        rcases List.mem_cons.1 hf with rfl | hf
        · exact ⟨g, List.mem_cons_self .., hb⟩
        · obtain ⟨p, h1, h2⟩ := ih (g := x) (by cases ws with
            | nil => rfl
            | cons y ws => exact h) hf
          exact ⟨p, List.mem_cons_of_mem _ h1, h2⟩
  | x :: pre, ws, g, f, h, hf => by
    have : chainW (pre ++ g :: ws) = true := by
      revert h
      rw [List.cons_append]
      generalize pre ++ g :: ws = l
      intro h
      cases l with
      | nil => rfl
      | cons y l =>
        simp only [chainW] at h
        cases hb : y.mask.testBit x.i with
        | false => rw [hb] at h; cases h
        | true => rw [hb] at h; exact h
    exact chain_pred this hf

theorem cntW_append (mask : Nat) : ∀ a b : List Inf, cntW mask (a ++ b) = cntW mask a + cntW mask b
  | [], b => by simp [cntW]
  | f :: a, b => by
    simp only [List.cons_append, cntW, cntW_append mask a b]
    cases mask.testBit f.i <;> simp; omega
theorem cntW_le (mask : Nat) : ∀ a : List Inf, cntW mask a ≤ a.length
  | [] => by simp [cntW]
  | f :: a => by
    simp only [cntW, List.length_cons]
    have := cntW_le mask a
    cases mask.testBit f.i <;> simp <;> omega
theorem cntW_zero {mask : Nat} : ∀ {a : List Inf}, (∀ f ∈ a, mask.testBit f.i = false) → cntW mask a = 0
  | [], _ => rfl
  | f :: a, h => by simp only [cntW, h f (List.mem_cons_self ..)]; exact cntW_zero fun g hg => h g (List.mem_cons_of_mem _ hg)
theorem cntFree_ge {i : Nat} : ∀ {pre ws : List Inf}, (∀ f ∈ pre, f.mask.testBit i = false) → pre.length ≤ cntFree i (pre ++ ws)
  | [], ws, _ => Nat.zero_le _
  | f :: pre, ws, h => by
    simp only [List.cons_append, cntFree, h f (List.mem_cons_self ..), List.length_cons]
    have := cntFree_ge (ws := ws) (fun g hg => h g (List.mem_cons_of_mem _ hg))
    omega

/-! ### what is listed -/
def unl (L : Array Bool) : Nat := L.toList.countP (fun b => !b)

theorem countP_set_true : ∀ {l : List Bool} {i : Nat}, l[i]? = some false → (l.set i true).countP (fun b => !b) + 1 = l.countP (fun b => !b)
  | [], i, h => by simp at h
  | b :: l, 0, h => by simp at h; subst h; simp
  | b :: l, i + 1, h => by
    have := countP_set_true (l := l) (i := i) (by simpa using h)
    simp only [List.set_cons_succ, List.countP_cons]
    omega
theorem unl_set {L : Array Bool} {i : Nat} (hi : i < L.size) (h : L.getD i false = false) : unl (L.setIfInBounds i true) + 1 = unl L := by
  unfold unl
  rw [Array.toList_setIfInBounds]
  refine countP_set_true ?_
  rw [Array.getElem?_toList]
  simp [hi] at h ⊢
  exact h
theorem unl_zero {L : Array Bool} (h : unl L = 0) {i : Nat} (hi : i < L.size) : L.getD i false = true := by
  unfold unl at h
  rw [List.countP_eq_zero] at h
  have := h L[i] (by simp)
  simp [hi]
  simpa using this

theorem set_listed {L : Array Bool} {i j : Nat} (hi : i < L.size) : (L.setIfInBounds i true).getD j false = true ↔ (j = i ∨ L.getD j false = true) := by
  by_cases e : i = j
  · subst e; simp [hi]
  · rw [getD_set_ne false e]; constructor
    · exact .inr
    · rintro (rfl | h)
      · exact absurd rfl e
      · exact h
end Go.Sim


namespace Go.Sim
variable {P : Program} {G : Nat → Option (List Value)}

/-- what is known of a light operation that has come up -/
structure RcG (P : Program) (G : Nat → Option (List Value)) (ops : List Oper) (nt : Nat) (h0 H : Hp) (mm : Ren) (L : Array Bool) (r : Rc) : Prop where
  lt : ∀ d, r.inf.o.dst = some d → d < nt
  look : ∀ t v, r.sub.get t = some v → t ∈ r.inf.looks
  guard : guardOk ops r.sub r.inf.o.guard = some r.go
  off : r.go = false → r.v = undef
  on : r.go = true → ∃ hp hp', aop P G r.inf.o.op r.sub hp = some (r.v, hp') ∧ hp.next = r.id ∧ (r.inf.cls = 1 → h0.next ≤ r.id ∧ r.id < H.next ∧ (L.getD r.inf.i false = false → mm r.id = none ∧ H.bs.get r.id = hp'.bs.get r.id))

structure Inv (P : Program) (G : Nat → Option (List Value)) (E : FuncId → List Value → Option Value) (call : Call) (ops : Array Oper) (nt : Nat) (tmF : TM) (hsF : List Hp) (rsF : List Rc) (hE : Hp) (F : Nat → Prop) (K : World) (m0 : Ren) (h0 : Hp) (a0 : Act)
    (s : Nat) (ws : List Inf) (h H : Hp) (hs : List Hp) (rs pool : List Rc) (mm : Ren) (L : Array Bool) (a : Act) (w : World) : Prop where
  tr : Trace P G E call ops.toList nt (infs P ops.toList) (heavy (infs P ops.toList)) ws s h (H :: hs) rs
  rsIn : ∀ r ∈ rs, r ∈ rsF
  idx : hsF[s]? = some H ∧ ∀ k, hs[k]? = hsF[s + 1 + k]?
  end_ : lastH (H :: hs) = some hE
  pre : ∃ pre, heavy (infs P ops.toList) = pre ++ ws ∧ pre.length = s ∧ (∀ f ∈ pre, L.getD f.i false = true) ∧ ∀ f ∈ ws, L.getD f.i false = false
  has : ∀ f ∈ infs P ops.toList, f.cls ≠ 2 → cntW f.mask (heavy (infs P ops.toList)) ≤ s → ∃ r ∈ pool, r.inf = f
  poolIn : ∀ r ∈ pool, r ∈ rsF
  poolG : ∀ r ∈ pool, RcG P G ops.toList nt h0 H mm L r
  poolD : ∀ r1 ∈ pool, ∀ r2 ∈ pool, r1.made → r2.made → r1.id = r2.id → r1 = r2
  rel : Rel P G mm F K H w
  stp : Step m0 mm h0 H
  size : L.size = ops.size
  closed : Closed ops.toList (fun i => L.getD i false)
  tsize : a.tmps.size = nt
  tmps : ∀ t v, tmF.get t = some v → (∀ f ∈ infs P ops.toList, f.o.dst = some t → L.getD f.i false = true) → ∃ v', renO mm v = some v' ∧ a.tmps[t]? = some v'
  defers : a.defers = a0.defers

section
variable {E : FuncId → List Value → Option Value} {call : Call} {ops : Array Oper} {nt : Nat} {tmF : TM} {hsF : List Hp} {rsF : List Rc} {hE : Hp} {F : Nat → Prop} {K : World} {m0 : Ren} {h0 : Hp} {a0 : Act}
variable {s : Nat} {ws : List Inf} {h H : Hp} {hs : List Hp} {rs pool : List Rc} {mm : Ren} {L : Array Bool} {a : Act} {w : World}


theorem Inv.mask (I : Inv P G E call ops nt tmF hsF rsF hE F K m0 h0 a0 s ws h H hs rs pool mm L a w) (hall : infsOk (infs P ops.toList) (infs P ops.toList) = true) {f : Inf} (hf : f ∈ infs P ops.toList) (hp : ∀ p ∈ predsL f.o.after.toList, L.getD p false = true) : ∀ p, f.mask.testBit p = true → L.getD p false = true := by
  intro p hb
  obtain ⟨_, h1, _, h2, _⟩ := infs_mem hf
  rw [h2] at hb
  exact mask_listed hall I.closed (f.i + 1) f.i f.o (Nat.lt_succ_self _) h1 hp p hb

/-- what stands in the tmps that are looked at -/
theorem Inv.trel (I : Inv P G E call ops nt tmF hsF rsF hE F K m0 h0 a0 s ws h H hs rs pool mm L a w) (hall : infsOk (infs P ops.toList) (infs P ops.toList) = true) {f : Inf} (hf : f ∈ infs P ops.toList) (hp : ∀ p ∈ predsL f.o.after.toList, L.getD p false = true) {sub : TM} (hlk : ∀ t v, sub.get t = some v → t ∈ f.looks)
    (hsame : sameTmps sub tmF f.looks = true) : TRel mm nt sub a.tmps := by
  refine ⟨I.tsize, fun t v ht => ?_⟩
  have hin := hlk t v ht
  refine I.tmps t v (sameTmps_get hsame t hin v ht) fun g hg hd => ?_
  have hok := infsOk_mem hall f hf
  simp only [infOk, Bool.and_eq_true] at hok
  exact I.mask hall hf hp _ (writersIn_mem hok.2 g hg t hd hin)

theorem Inv.put_tmps (I : Inv P G E call ops nt tmF hsF rsF hE F K m0 h0 a0 s ws h H hs rs pool mm L a w) {f : Inf} (hf : f ∈ infs P ops.toList) (hi : f.i < L.size) {mm' : Ren} (he : Ext mm mm') {v v' : Value} (hv : renO mm' v = some v') (hlt : ∀ d, f.o.dst = some d → d < nt) (hd : dstIs tmF f.o.dst v = true) :
    (a.put f.o.dst v').tmps.size = nt ∧ ∀ t x, tmF.get t = some x → (∀ g ∈ infs P ops.toList, g.o.dst = some t → (L.setIfInBounds f.i true).getD g.i false = true) → ∃ x', renO mm' x = some x' ∧ (a.put f.o.dst v').tmps[t]? = some x' := by
  have old : ∀ t x, f.o.dst ≠ some t → tmF.get t = some x → (∀ g ∈ infs P ops.toList, g.o.dst = some t → (L.setIfInBounds f.i true).getD g.i false = true) → ∃ x', renO mm' x = some x' ∧ a.tmps[t]? = some x' := by
    intro t x hne hx hw
    obtain ⟨x', h1, h2⟩ := I.tmps t x hx fun g hg hgd => by
      rcases (set_listed hi).1 (hw g hg hgd) with e | e
      · exfalso
        obtain ⟨g1, _⟩ := infs_mem hg
        obtain ⟨f1, _⟩ := infs_mem hf
        rw [e, f1] at g1
        cases g1
        exact hne hgd
      · exact e
    exact ⟨x', renO_mono he _ _ h1, h2⟩
  cases hdst : f.o.dst with
  | none =>
    refine ⟨I.tsize, fun t x hx hw => ?_⟩
    exact old t x (by rw [hdst]; simp) hx hw
  | some d =>
    refine ⟨by simp [Act.put, I.tsize], fun t x hx hw => ?_⟩
    by_cases e : d = t
    · subst e
      rw [hdst] at hd
      unfold dstIs at hd
      dsimp only at hd
      rw [hx] at hd
      obtain rfl := vEq_eq _ _ hd
      have hl := hlt d hdst
      exact ⟨v', hv, by simp [Act.put, I.tsize, hl]⟩
    · obtain ⟨x', h1, h2⟩ := old t x (by rw [hdst]; exact fun hh => e (Option.some.inj hh)) hx hw
      exact ⟨x', h1, by simp [Act.put, Array.getElem?_setIfInBounds, e, h2]⟩

/-- the ready one -/
theorem Inv.ready (I : Inv P G E call ops nt tmF hsF rsF hE F K m0 h0 a0 s ws h H hs rs pool mm L a w) {i : Nat} (hi : i ∈ Region.ready .any ops L) : ∃ f, f ∈ infs P ops.toList ∧ f.i = i ∧ ops[i]? = some f.o ∧ i < L.size ∧ L.getD f.i false = false ∧ (∀ p ∈ predsL f.o.after.toList, L.getD p false = true) := by
  obtain ⟨h1, o, ho, h2⟩ := mem_ready.1 hi
  have hlt := getElem?_lt' ho
  have hl : ops.toList[i]? = some o := by simpa using ho
  have hg := infs_get (P := P) ops.toList i
  rw [hl] at hg
  refine ⟨_, List.mem_iff_getElem?.2 ⟨i, hg⟩, rfl, ho, by rw [I.size]; exact hlt, ?_, ?_⟩
  · have : i < L.size := by rw [I.size]; exact hlt
    simp [this] at h1 ⊢; exact h1
  · intro p hp
    obtain ⟨e, he, hb, rfl⟩ := mem_predsL.1 hp
    exact h2 e (by simpa using he) hb

theorem Inv.done (I : Inv P G E call ops nt tmF hsF rsF hE F K m0 h0 a0 s ws h H hs rs pool mm L a w) (hall : infsOk (infs P ops.toList) (infs P ops.toList) = true) (hr : Region.ready .any ops L = []) : ∀ n i, i < n → i < L.size → L.getD i false = true := by
  intro n
  induction n with
  | zero => intro i h; omega
  | succ n ih =>
    intro i hn hi
    cases hl : L.getD i false with
    | true => rfl
    | false =>
      exfalso
      have hi2 : i < ops.size := by rw [← I.size]; exact hi
      have : i ∈ Region.ready .any ops L := by
        refine mem_ready.2 ⟨by simp [hi] at hl ⊢; exact hl, ops[i], by simp [hi2], fun e he hb => ?_⟩
        have hg := infs_get (P := P) ops.toList i
        have hl : ops.toList[i]? = some ops[i] := by simp [hi2]
        rw [hl] at hg
        have hok := infsOk_mem hall _ (List.mem_iff_getElem?.2 ⟨i, hg⟩)
        simp only [infOk, Bool.and_eq_true] at hok
        have hlt := predsOk_mem hok.1 e.on (mem_predsL.2 ⟨e, by simpa using he, hb, rfl⟩)
        have hlt' : e.on < i := hlt
        exact ih e.on (by omega) (by omega)
      rw [hr] at this
      cases this

theorem closed_set (I : Inv P G E call ops nt tmF hsF rsF hE F K m0 h0 a0 s ws h H hs rs pool mm L a w) {f : Inf} (hf : f ∈ infs P ops.toList) (hi : f.i < L.size) (hp : ∀ p ∈ predsL f.o.after.toList, L.getD p false = true) : Closed ops.toList (fun i => (L.setIfInBounds f.i true).getD i false) := by
  intro i o ho hl p hpp
  refine (set_listed hi).2 (.inr ?_)
  rcases (set_listed hi).1 hl with e | e
  · subst e
    obtain ⟨_, h1, _⟩ := infs_mem hf
    rw [h1] at ho
    cases ho
    exact hp p hpp
  · exact I.closed i o ho e p hpp

theorem Inv.span (I : Inv P G E call ops nt tmF hsF rsF hE F K m0 h0 a0 s ws h H hs rs pool mm L a w) (hall : infsOk (infs P ops.toList) (infs P ops.toList) = true) {f : Inf} (hf : f ∈ infs P ops.toList) (hun : L.getD f.i false = false) (hp : ∀ p ∈ predsL f.o.after.toList, L.getD p false = true) :
    cntW f.mask (heavy (infs P ops.toList)) ≤ s ∧ s ≤ cntFree f.i (heavy (infs P ops.toList)) := by
  obtain ⟨pre, h1, h2, h3, h4⟩ := I.pre
  have hm := I.mask hall hf hp
  rw [h1]
  constructor
  · rw [cntW_append, cntW_zero (a := ws) (fun g hg => by
      cases hb : f.mask.testBit g.i with
      | false => rfl
      | true => have := hm _ hb; rw [h4 g hg] at this; cases this)]
    have := cntW_le f.mask pre
    omega
  · rw [← h2]
    refine cntFree_ge fun g hg => ?_
    cases hb : g.mask.testBit f.i with
    | false => rfl
    | true =>
      exfalso
      have hgm : g ∈ infs P ops.toList := (mem_heavy.1 (by rw [h1]; exact List.mem_append_left _ hg)).1
      obtain ⟨_, g1, _⟩ := infs_mem hgm
      have := I.mask hall hgm (fun p hpp => I.closed g.i g.o g1 (h3 g hg) p hpp) _ hb
      rw [hun] at this
      cases this

theorem Inv.step_light (I : Inv P G E call ops nt tmF hsF rsF hE F K m0 h0 a0 s ws h H hs rs pool mm L a w) {f : Inf} (hf : f ∈ infs P ops.toList) (hi : f.i < L.size) (hun : L.getD f.i false = false) (hp : ∀ p ∈ predsL f.o.after.toList, L.getD p false = true) (hcl : f.cls ≠ 2)
    {r : Rc} (hr : r ∈ pool) (hrf : r.inf = f) {mm' : Ren} {w' : World} {v' : Value} (hv : renO mm' r.v = some v') (he : Ext mm mm') (hrel : Rel P G mm' F K H w') (hstp : Step m0 mm' h0 H)
    (hkeep : ∀ r2 ∈ pool, r2.made → r2 ≠ r → mm r2.id = none → mm' r2.id = none) (hd : dstIs tmF f.o.dst r.v = true) :
    Inv P G E call ops nt tmF hsF rsF hE F K m0 h0 a0 s ws h H hs rs pool mm' (L.setIfInBounds f.i true) (a.put f.o.dst v') w' := by
  obtain ⟨t1, t2⟩ := I.put_tmps hf hi he hv (fun d hdd => (I.poolG r hr).lt d (by rw [hrf]; exact hdd)) hd
  refine ⟨I.tr, I.rsIn, I.idx, I.end_, ?_, I.has, I.poolIn, fun r2 hr2 => ?_, I.poolD, hrel, hstp, by simp [I.size], closed_set I hf hi hp, t1, t2, Act.put_defers'.trans I.defers⟩
  · obtain ⟨pre, h1, h2, h3, h4⟩ := I.pre
    refine ⟨pre, h1, h2, fun g hg => (set_listed hi).2 (.inr (h3 g hg)), fun g hg => ?_⟩
    rw [getD_set_ne false, h4 g hg]
    intro e
    obtain ⟨g1, g2⟩ := mem_heavy.1 (by rw [h1]; exact List.mem_append_right _ hg : g ∈ heavy (infs P ops.toList))
    obtain ⟨k1, _⟩ := infs_mem g1
    obtain ⟨k2, _⟩ := infs_mem hf
    rw [e, k1] at k2
    cases k2
    exact hcl g2
  · have q := I.poolG r2 hr2
    refine ⟨q.lt, q.look, q.guard, q.off, fun hgo => ?_⟩
    obtain ⟨hp1, hp2, x1, x2, x3⟩ := q.on hgo
    refine ⟨hp1, hp2, x1, x2, fun hc => ?_⟩
    obtain ⟨y1, y2, y3⟩ := x3 hc
    refine ⟨y1, y2, fun hl => ?_⟩
    have hne : r2.inf.i ≠ f.i := fun e => by rw [(set_listed hi).2 (.inl e)] at hl; cases hl
    have hl2 : L.getD r2.inf.i false = false := by rw [getD_set_ne false (Ne.symm hne)] at hl; exact hl
    obtain ⟨z1, z2⟩ := y3 hl2
    exact ⟨hkeep r2 hr2 ⟨hc, hgo⟩ (fun e => hne (by rw [e, hrf])) z1, z2⟩

theorem Inv.step_heavy (hsE : ∀ k, hs[k]? = hsF[s + 1 + k]?) {ws' : List Inf} {f : Inf} (I : Inv P G E call ops nt tmF hsF rsF hE F K m0 h0 a0 s (f :: ws') h H hs rs pool mm L a w) (hf : f ∈ infs P ops.toList) (hi : f.i < L.size) (hp : ∀ p ∈ predsL f.o.after.toList, L.getD p false = true)
    {h2 : Hp} {rs2 : List Rc} (ht : Trace P G E call ops.toList nt (infs P ops.toList) (heavy (infs P ops.toList)) ws' (s + 1) h2 hs rs2) (hin : ∀ r ∈ rs2, r ∈ rsF) (hlt : ∀ d, f.o.dst = some d → d < nt)
    {mm' : Ren} {w' : World} {v v' : Value} (hst : Step mm mm' H h2) (hv : renO mm' v = some v') (hrel : Rel P G mm' F K h2 w') (hd : dstIs tmF f.o.dst v = true) :
    ∃ h H hs rs pool, Inv P G E call ops nt tmF hsF rsF hE F K m0 h0 a0 (s + 1) ws' h H hs rs pool mm' (L.setIfInBounds f.i true) (a.put f.o.dst v') w' := by
  obtain ⟨H2, hs', rl, rfl, r1, g, r2, r3, r4⟩ := ht.enter
  obtain ⟨t1, t2⟩ := I.put_tmps hf hi hst.ext hv hlt hd
  have hst2 : Step mm mm' H H2 := hst.trans (Step.more g)
  have h0H : h0.next ≤ H.next := I.stp.next
  refine ⟨h2, H2, hs', rs2, pool ++ rl, ht, hin, ⟨by have := hsE 0; simpa using this.symm, fun k => by have := hsE (k + 1); simp only [List.getElem?_cons_succ] at this; rw [this]; congr 1; omega⟩, I.end_, ?_, ?_, ?_, ?_, ?_, hrel.more g, I.stp.trans hst2, by simp [I.size], closed_set I hf hi hp, t1, t2, Act.put_defers'.trans I.defers⟩
  · obtain ⟨pre, h1, h2, h3, h4⟩ := I.pre
    refine ⟨pre ++ [f], by rw [h1]; simp, by simp [h2], fun g hg => ?_, fun g hg => ?_⟩
    · rcases List.mem_append.1 hg with hg | hg
      · exact (set_listed hi).2 (.inr (h3 g hg))
      · rw [List.mem_singleton.1 hg]; exact (set_listed hi).2 (.inl rfl)
    · have hpw := heavy_pairwise (P := P) ops.toList
      rw [h1, List.pairwise_append] at hpw
      have := (List.pairwise_cons.1 hpw.2.1).1 g hg
      rw [getD_set_ne false (by omega)]
      exact h4 g (List.mem_cons_of_mem _ hg)
  · intro g hg hc hcnt
    by_cases e : cntW g.mask (heavy (infs P ops.toList)) = s + 1
    · have : g ∈ light (heavy (infs P ops.toList)) (s + 1) (infs P ops.toList) := mem_light.2 ⟨hg, hc, e⟩
      rw [← r1] at this
      obtain ⟨r, hr, he⟩ := List.mem_map.1 this
      exact ⟨r, List.mem_append_right _ hr, he⟩
    · obtain ⟨r, hr, he⟩ := I.has g hg hc (by omega)
      exact ⟨r, List.mem_append_left _ hr, he⟩
  · intro r hr
    rcases List.mem_append.1 hr with hr | hr
    · exact I.poolIn r hr
    · exact hin r (r4 r hr)
  · intro r hr
    rcases List.mem_append.1 hr with hr | hr
    · have q := I.poolG r hr
      refine ⟨q.lt, q.look, q.guard, q.off, fun hgo => ?_⟩
      obtain ⟨hp1, hp2, x1, x2, x3⟩ := q.on hgo
      refine ⟨hp1, hp2, x1, x2, fun hc => ?_⟩
      obtain ⟨y1, y2, y3⟩ := x3 hc
      refine ⟨y1, Nat.lt_of_lt_of_le y2 hst2.next, fun hl => ?_⟩
      have hl2 : L.getD r.inf.i false = false := by
        cases hb : L.getD r.inf.i false with
        | false => rfl
        | true => rw [(set_listed hi).2 (.inr hb)] at hl; cases hl
      obtain ⟨z1, z2⟩ := y3 hl2
      obtain ⟨z3, z4⟩ := hst2.unborn _ y2 z1
      exact ⟨z3, z4.trans z2⟩
    · have q := r2 r hr
      refine ⟨q.lt, q.look, q.guard, q.off, fun hgo => ?_⟩
      obtain ⟨hp1, hp2, x1, x2, x3⟩ := q.on hgo
      refine ⟨hp1, hp2, x1, x2, fun hc => ?_⟩
      obtain ⟨y1, y2, y3⟩ := x3 hc
      have := hst.next
      exact ⟨by omega, y2, fun _ => ⟨hrel.len _ y1, y3⟩⟩
  · intro ra hra rb hrb ma mb e
    have low : ∀ r ∈ pool, r.made → r.id < H.next := fun r hr hm => by
      obtain ⟨_, _, _, _, x3⟩ := (I.poolG r hr).on hm.2
      exact (x3 hm.1).2.1
    have high : ∀ r ∈ rl, r.made → h2.next ≤ r.id := fun r hr hm => by
      obtain ⟨_, _, _, _, x3⟩ := (r2 r hr).on hm.2
      exact (x3 hm.1).1
    have := hst.next
    rcases List.mem_append.1 hra with hra | hra <;> rcases List.mem_append.1 hrb with hrb | hrb
    · exact I.poolD ra hra rb hrb ma mb e
    · have := low ra hra ma; have := high rb hrb mb; omega
    · have := high ra hra ma; have := low rb hrb mb; omega
    · exact r3 ra hra rb hrb ma mb e
end
end Go.Sim


namespace Go.Sim
variable {P : Program} {G : Nat → Option (List Value)}
section
variable {E : FuncId → List Value → Option Value} {call : Call} {ops : Array Oper} {nt : Nat} {tmF : TM} {hsF : List Hp} {rsF : List Rc} {hE : Hp} {F : Nat → Prop} {K : World} {m0 : Ren} {h0 : Hp} {a0 : Act}


theorem lastH_one {H : Hp} {hs : List Hp} {x : Hp} (h : lastH (H :: hs) = some x) (hn : hs = []) : H = x := by
  subst hn; simpa [lastH] using h

theorem Inv.run (hN : NamesOk P) (hX : ExtOk P E) (hC : CallOk P G call) (hall : infsOk (infs P ops.toList) (infs P ops.toList) = true) (hch : chainW (heavy (infs P ops.toList)) = true)
    (hok : rcsOk P G (heavy (infs P ops.toList)) hsF tmF rsF = true) {Q : Exit → Act → World → Prop}
    (hq : ∀ m' a' w', Step m0 m' h0 hE → Rel P G m' F K hE w' → TRel m' nt tmF a'.tmps → a'.defers = a0.defers → Q .normal a' w') :
    ∀ (fuel s : Nat) (ws : List Inf) (h H : Hp) (hs : List Hp) (rs pool : List Rc) (mm : Ren) (L : Array Bool) (a : Act) (w : World), Inv P G E call ops nt tmF hsF rsF hE F K m0 h0 a0 s ws h H hs rs pool mm L a w → unl L ≤ fuel → wpAny P .any ops Q fuel L a w := by
  have fin : ∀ {s : Nat} {ws : List Inf} {h H : Hp} {hs : List Hp} {rs pool : List Rc} {mm : Ren} {L : Array Bool} {a : Act} {w : World}, Inv P G E call ops nt tmF hsF rsF hE F K m0 h0 a0 s ws h H hs rs pool mm L a w → (∀ i, i < L.size → L.getD i false = true) → Q .normal a w := by
    intro s ws h H hs rs pool mm L a w I hl
    have hlA : ∀ f ∈ infs P ops.toList, L.getD f.i false = true := fun f hf => by
      obtain ⟨_, h1, _⟩ := infs_mem hf
      exact hl _ (by rw [I.size]; have := lgetElem?_lt h1; simpa using this)
    have hws : ws = [] := by
      obtain ⟨pre, h1, h2, h3, h4⟩ := I.pre
      cases ws with
      | nil => rfl
      | cons f ws =>
        have := hlA f (mem_heavy.1 (by rw [h1]; exact List.mem_append_right _ (List.mem_cons_self ..))).1
        rw [h4 f (List.mem_cons_self ..)] at this; cases this
    have hH : H = hE := by
      refine lastH_one I.end_ ?_
      have := I.tr.length
      rw [hws] at this
      simp only [List.length_cons, List.length_nil] at this
      exact List.length_eq_zero_iff.1 (by omega)
    subst hH
    exact hq mm a w I.stp I.rel ⟨I.tsize, fun t v ht => I.tmps t v ht fun f hf _ => hlA f hf⟩ I.defers
  intro fuel
  induction fuel with
  | zero =>
    intro s ws h H hs rs pool mm L a w I hu
    have hl : ∀ i, i < L.size → L.getD i false = true := fun i hi => unl_zero (by omega) hi
    refine ⟨?_, fin I hl⟩
    cases hr : Region.ready .any ops L with
    | nil => rfl
    | cons i l =>
      obtain ⟨f, h1, h2, h3, h4, h5, h6⟩ := I.ready (i := i) (by rw [hr]; exact List.mem_cons_self ..)
      rw [hl f.i (by rw [h2]; exact h4)] at h5; cases h5
  | succ fuel ih =>
    intro s ws h H hs rs pool mm L a w I hu
    refine ⟨fun hr => fin I fun i hi => I.done hall hr (i + 1) i (Nat.lt_succ_self _) hi, fun i hi => ?_⟩
    obtain ⟨f, hf, rfl, ho, hlt, hun, hp⟩ := I.ready hi
    have hul := unl_set hlt hun
    unfold wpOp
    rw [ho]
    dsimp only
    obtain ⟨_, _, hfc, _, hfl⟩ := infs_mem hf
    by_cases hcl : f.cls = 2
    · -- a heavy one: the next in the row
      have hfw : ∃ ws', ws = f :: ws' := by
        obtain ⟨pre, h1, h2, h3, h4⟩ := I.pre
        have hfh : f ∈ heavy (infs P ops.toList) := mem_heavy.2 ⟨hf, hcl⟩
        rw [h1] at hfh
        rcases List.mem_append.1 hfh with hb | hb
        · rw [h3 f hb] at hun; cases hun
        · cases ws with
          | nil => cases hb
          | cons g ws' =>
            rcases List.mem_cons.1 hb with rfl | hb
            · exact ⟨ws', rfl⟩
            · exfalso
              rw [h1] at hch
              obtain ⟨p, hp1, hp2⟩ := chain_pred hch hb
              have := I.mask hall hf hp _ hp2
              rw [h4 p hp1] at this; cases this
      obtain ⟨ws', rfl⟩ := hfw
      have htr := I.tr
      generalize hHs : H :: hs = hsx at htr
      cases htr with
      | step hl hg hr hd hw hdl hlk hgu hon hoff ht =>
        rename_i H' h2 hs' rsl rs2 rw_
        cases hHs
        have hrin : rw_ ∈ rsF := I.rsIn _ (List.mem_append_right _ (List.mem_cons_self ..))
        have hrc := rcsOk_mem hok _ hrin
        simp only [rcOk, Bool.and_eq_true] at hrc
        rw [hw] at hrc
        have rt := I.trel hall hf hp hlk hrc.1
        have hwant := guardOk_sound rt hgu rfl
        rw [hwant]
        have hsE := I.idx.2
        have hin : ∀ r ∈ rs2, r ∈ rsF := fun r hr => I.rsIn r (List.mem_append_right _ (List.mem_cons_of_mem _ hr))
        cases hgo : rw_.go with
        | true =>
          rw [if_pos rfl]
          refine .inl (stepOp_sound hN hX hC I.rel rt (hon hgo) fun m' v' w' k1 k2 k3 => ?_)
          obtain ⟨h', H', hs', rs', pool', J⟩ := I.step_heavy hsE hf hlt hp ht hin hdl k1 k2 k3 hrc.2.1
          exact ih _ _ _ _ _ _ _ _ _ _ _ J (by omega)
        | false =>
          rw [if_neg (by decide)]
          obtain ⟨e1, e2⟩ := hoff hgo
          subst e2
          obtain ⟨h', H', hs', rs', pool', J⟩ := I.step_heavy hsE hf hlt hp ht hin hdl (.refl mm _) (v := rw_.v) (v' := undef) (by rw [e1]; simp [undef, renO, renOs]) I.rel hrc.2.1
          exact ih _ _ _ _ _ _ _ _ _ _ _ J (by omega)
    · -- a light one
      obtain ⟨hlo, hhi⟩ := I.span hall hf hun hp
      obtain ⟨r, hr, hrf⟩ := I.has f hf hcl hlo
      have q := I.poolG r hr
      have hrc := rcsOk_mem hok _ (I.poolIn r hr)
      simp only [rcOk, Bool.and_eq_true] at hrc
      rw [hrf] at hrc
      have rt := I.trel hall hf hp (by rw [← hrf]; exact q.look) hrc.1
      have hgu := q.guard
      rw [hrf] at hgu
      have hwant := guardOk_sound rt hgu rfl
      rw [hwant]
      cases hgo : r.go with
      | false =>
        rw [if_neg (by decide)]
        have J := I.step_light hf hlt hun hp hcl hr hrf (mm' := mm) (w' := w) (v' := undef) (by rw [q.off hgo]; simp [undef, renO, renOs]) (.refl mm) I.rel I.stp (fun _ _ _ _ h => h) hrc.2.1
        exact ih _ _ _ _ _ _ _ _ _ _ _ J (by omega)
      | true =>
        rw [if_pos rfl]
        refine .inl ?_
        rcases clsOf_cases (P := P) f.o.op with hc | hc | hc
        · -- a quiet one
          rw [hfc, hc, hgo] at hrc
          have hqi := quietIn_get hrc.2.2 I.idx.1 (by omega) (by omega)
          unfold quietAt at hqi
          rw [hrf] at hqi
          split at hqi
          · rename_i v hx ha
            obtain rfl := vEq_eq _ _ hqi
            obtain ⟨_, v', g1, g2⟩ := aopQ_sound I.rel rt (clsOf_zero hc) ha
            unfold Oper.wp
            rw [g2, Oper.upon_value]
            have J := I.step_light hf hlt hun hp hcl hr hrf (mm' := mm) (w' := w) (v' := v') g1 (.refl mm) I.rel I.stp (fun _ _ _ _ h => h) hrc.2.1
            exact ih _ _ _ _ _ _ _ _ _ _ _ J (by omega)
          · cases hqi
        · -- one that makes memory
          have hc1 : r.inf.cls = 1 := by rw [hrf, hfc, hc]
          obtain ⟨hp1, hp2, x1, x2, x3⟩ := q.on hgo
          obtain ⟨y1, y2, y3⟩ := x3 hc1
          obtain ⟨z1, z2⟩ := y3 (by rw [hrf]; exact hun)
          rw [hrf] at x1
          obtain ⟨v', w', ⟨obj, cobj, e1, e2, g1, g2⟩, g3⟩ := aopA_sound rt (clsOf_one hc) x1 F w
          unfold Oper.wp
          rw [g3, Oper.upon_value]
          have hF : ¬ F w.heap.size := fun hF => by have := (I.rel.fr _ hF).1; have := I.rel.size; omega
          rw [x2] at g1 g2
          have hb : hp2.bs.get r.id = some obj := by rw [e1]; simp only [Tr.get_set]; rw [if_pos x2]
          have hrel : Rel P G (mm.up r.id ⟨w.heap.size, 0, 0⟩) F K H w' := by
            subst e2
            refine I.rel.born ⟨w.heap.size, 0, 0⟩ obj y2 (Nat.le_refl _) z1 rfl rfl rfl (by simp) (fun k hk => Go.RowKit.Below.heap_alloc _ _ _ hk) ?_ ?_ (g2 _ (Ext.one z1 _) (Ren.up_same ..) hF)
            · intro j o bj hj ho hl hm e
              obtain ⟨_, hk⟩ := ObjR_bi (I.rel.obj j o ho) hl hm
              rw [e] at hk
              exact absurd hk (Nat.lt_irrefl _)
            · intro j
              by_cases hj : r.id = j
              · rw [if_pos hj, ← hj, z2, hb]
              · rw [if_neg hj]
          have hst : Step m0 (mm.up r.id ⟨w.heap.size, 0, 0⟩) h0 H := ⟨I.stp.ext.trans (Ext.one z1 _), I.stp.next, fun j hj hm => by
            obtain ⟨k1, k2⟩ := I.stp.unborn j hj hm
            exact ⟨by unfold Ren.up; rw [if_neg (by omega)]; exact k1, k2⟩⟩
          have J := I.step_light hf hlt hun hp hcl hr hrf (v' := v') (g1 _ (Ext.one z1 _) (Ren.up_same ..)) (Ext.one z1 _) hrel hst (fun r2 hr2 hm2 hne hmn => by
            unfold Ren.up
            rw [if_neg (fun e => hne (I.poolD r2 hr2 r hr hm2 ⟨hc1, hgo⟩ e))]
            exact hmn) hrc.2.1
          exact ih _ _ _ _ _ _ _ _ _ _ _ J (by omega)
        · exact absurd (hfc.trans hc) hcl

end

theorem drawn_sound {E : FuncId → List Value → Option Value} (hN : NamesOk P) (hX : ExtOk P E) (hM : P.follows .mixedOrders = true) : DrawnOk P G (drawn P G E) := by
  intro call hC ops nt tm h tm' h' e m F K a w id r rt Q hq
  unfold drawn at e
  dsimp only at e
  split at e
  · rename_i hall hch
    split at e
    · cases e
    · rename_i tmF hsF rsF hrun
      split at e
      · rename_i hE hok hlast
        cases e
        obtain ⟨tr, keep⟩ := runWs_spec (fun f hf => (infs_mem hf).2.2.1) (fun f hf => (mem_heavy.1 hf).1) hrun
        obtain ⟨H, hs', rl, rfl, r1, g, r2, r3, r4⟩ := tr.enter
        refine wp_region_any hM ?_
        refine Inv.run hN hX hC hall hch hok hq _ 0 (heavy (infs P ops.toList)) h H hs' rsF rl m _ a _ ?_ ?_
        · refine ⟨tr, fun r hr => hr, ⟨rfl, fun k => by rw [show 0 + 1 + k = k + 1 by omega]; rfl⟩, hlast, ⟨[], rfl, rfl, fun f hf => (by cases hf), fun f hf => ?_⟩, ?_, r4, ?_, r3, r.drew.more g, Step.more g, by simp, ?_, rt.size, ?_, rfl⟩
          · simp [Array.getElem?_replicate]; split <;> rfl
          · intro f hf hc hcnt
            have : f ∈ light (heavy (infs P ops.toList)) 0 (infs P ops.toList) := mem_light.2 ⟨hf, hc, by omega⟩
            rw [← r1] at this
            obtain ⟨r, hr, he⟩ := List.mem_map.1 this
            exact ⟨r, hr, he⟩
          · intro x hx
            have q := r2 x hx
            refine ⟨q.lt, q.look, q.guard, q.off, fun hgo => ?_⟩
            obtain ⟨hp1, hp2, x1, x2, x3⟩ := q.on hgo
            refine ⟨hp1, hp2, x1, x2, fun hc => ?_⟩
            obtain ⟨y1, y2, y3⟩ := x3 hc
            exact ⟨y1, y2, fun _ => ⟨r.len _ y1, y3⟩⟩
          · intro i o ho hl
            simp [Array.getElem?_replicate] at hl
            split at hl <;> cases hl
          · intro t v ht hw
            have hno : ∀ f ∈ infs P ops.toList, f.o.dst ≠ some t := fun f hf hd => by
              have := hw f hf hd
              simp [Array.getElem?_replicate] at this
              split at this <;> cases this
            rw [keep t hno] at ht
            exact rt.get t v ht
        · unfold unl
          refine Nat.le_trans List.countP_le_length ?_
          simp
      · cases e
  · cases e
end Go.Sim


namespace Go.Sim
variable {P : Program} {G : Nat → Option (List Value)}

def noExt : FuncId → List Value → Option Value := fun _ _ => none
theorem noExt_ok : ExtOk P noExt := fun _ _ _ h => by cases h

def namesB (P : Program) : Bool := P.funcs.all fun fn => !(fn.name == "runtime.NumGoroutine")
theorem names_ok (h : namesB P = true) : NamesOk P := fun f fn hf => by
  unfold namesB at h
  rw [Array.all_eq_true_iff_forall_mem] at h
  have := h fn (Array.mem_of_getElem? hf)
  simpa using this

def G0 : Nat → Option (List Value) := fun _ => none

/-- what the program's variables hold -/
def GlobIn (G : Nat → Option (List Value)) (w : World) : Prop :=
  ∀ g l, G g = some l → g < w.heap.size ∧ ∀ k v, l[k]? = some v → noA v = true ∧ w.cell? ⟨g, k, none⟩ = some v
theorem G0_in (w : World) : GlobIn G0 w := fun g l h => by cases h

/-- where nothing is known of memory but some of the program's variables -/
theorem rel_start {w : World} (hG : GlobIn G w) : Rel P G (fun _ => none) (fun b => b < w.heap.size) w ⟨0, .e⟩ w where
  len := fun _ _ => rfl
  os := rfl
  tape := rfl
  output := rfl
  size := Nat.le_refl _
  fr := fun b hb => ⟨hb, rfl⟩
  glob := hG
  obj := fun i o h => by rw [Tr.get_e] at h; cases h
  inj := fun i j o o' b b' h => by rw [Tr.get_e] at h; cases h

theorem Rel.globIn {m : Ren} {F : Nat → Prop} {K : World} {h : Hp} {w : World} (r : Rel P G m F K h w) : GlobIn G w := fun g l hg => by
  obtain ⟨h1, h2⟩ := r.glob g l hg
  obtain ⟨h3, h4⟩ := r.fr g h1
  refine ⟨Nat.lt_of_lt_of_le h3 r.size, fun k v hk => ?_⟩
  obtain ⟨h5, h6⟩ := h2 k v hk
  exact ⟨h5, by rw [World.cell?_fr h4]; exact h6⟩

theorem Rel.below {m : Ren} {F : Nat → Prop} {K : World} {h : Hp} {w w' : World} (r : Rel P G m F K h w) (b : Go.RowKit.Below w.heap.size w w') : Rel P G m F K h w' where
  len := r.len
  os := b.os.trans r.os
  tape := b.tape.trans r.tape
  output := b.output.trans r.output
  size := Nat.le_trans r.size b.size
  fr := fun k hk => by
    obtain ⟨h1, h2⟩ := r.fr k hk
    exact ⟨h1, by rw [b.block k (Nat.lt_of_lt_of_le h1 r.size)]; exact h2⟩
  glob := r.glob
  obj := fun i o hi => ObjR_heap (r.obj i o hi) fun hl bi hb => b.block _ (ObjR_bi (r.obj i o hi) hl hb).2
  inj := r.inj

/-! ### calls whose answers are known -/
abbrev Tab := FuncId → List Value → Option Value
def noTab : Tab := fun _ _ => none
def callK (T : Tab) (call : Call) : Call := fun f args h => match T f args with
  | some v => some (v, h)
  | none => call f args h
def TabOk (P : Program) (G : Nat → Option (List Value)) (T : Tab) : Prop := ∀ f args v, T f args = some v → noA.noAs args = true ∧ noA v = true ∧ ∀ w, GlobIn G w → Calls P f ⟨args⟩ w (fun e w' => e = .returned v ∧ Go.RowKit.Below w.heap.size w w')
theorem noTab_ok : TabOk P G noTab := fun _ _ _ h => by cases h

theorem callK_sound {T : Tab} {call : Call} (hT : TabOk P G T) (hC : CallOk P G call) : CallOk P G (callK T call) := by
  intro f args h v h' e m F K w args' r ha
  unfold callK at e
  split at e
  · rename_i u hu
    cases e
    obtain ⟨h1, h2, h3⟩ := hT f args v hu
    rw [renOs_noA _ _ h1] at ha
    cases ha
    refine (h3 w r.globIn).mono ?_
    rintro e w' ⟨rfl, hb⟩
    exact ⟨m, v, .refl m h, renO_noA _ _ h2, r.below hb, rfl⟩
  · exact hC f args h v h' e m F K w args' r ha

def runT (P : Program) (G : Nat → Option (List Value)) (T : Tab) : Nat → Rec
  | 0 => fun _ _ _ _ => none
  | n + 1 => runCode P G noExt (drawn P G noExt) (callK T (callF P G (runT P G T n))) (runT P G T n)
theorem runT_sound {T : Tab} (hN : NamesOk P) (hM : P.follows .mixedOrders = true) (hT : TabOk P G T) : ∀ n, RecOk P G (runT P G T n)
  | 0 => fun c nt tm h e tm' h' hrun => by simp [runT] at hrun
  | n + 1 => runCode_sound hN noExt_ok (drawn_sound hN noExt_ok hM) (callK_sound hT (callF_sound (runT_sound hN hM hT n))) (runT_sound hN hM hT n)

/-- a run of the code, told by the evaluator -/
theorem calls_of_eval {T : Tab} {n : Nat} {f : FuncId} {args : List Value} {v : Value} {h' : Hp} (hN : NamesOk P) (hM : P.follows .mixedOrders = true) (hT : TabOk P G T)
    (e : callF P G (runT P G T n) f args ⟨0, .e⟩ = some (v, h')) (hargs : noA.noAs args = true) (hv : noA v = true) {w : World} (hG : GlobIn G w) :
    Calls P f ⟨args⟩ w (fun e w' => e = .returned v ∧ Go.RowKit.Below w.heap.size w w') := by
  refine (callF_sound (runT_sound hN hM hT n) f args ⟨0, .e⟩ v h' e (fun _ => none) (fun b => b < w.heap.size) w w args (rel_start hG) (renOs_noA _ _ hargs)).mono ?_
  rintro e2 w' ⟨m', v', h1, h2, h3, rfl⟩
  rw [renO_noA _ _ hv] at h2
  cases h2
  exact ⟨rfl, h3.os, h3.tape, h3.output, h3.size, fun k hk => (h3.fr k hk).2⟩

/-- 'yields this value': what the kernel is asked -/
def yieldsB (P : Program) (G : Nat → Option (List Value)) (T : Tab) (n : Nat) (f : FuncId) (args : List Value) (v : Value) : Bool := match callF P G (runT P G T n) f args ⟨0, .e⟩ with
  | some (u, _) => vEq u v && (noA.noAs args && noA v)
  | none => false
theorem calls_of_yields {T : Tab} {n : Nat} {f : FuncId} {args : List Value} {v : Value} (hN : NamesOk P) (hM : P.follows .mixedOrders = true) (hT : TabOk P G T) (e : yieldsB P G T n f args v = true) {w : World} (hG : GlobIn G w) :
    Calls P f ⟨args⟩ w (fun e w' => e = .returned v ∧ Go.RowKit.Below w.heap.size w w') := by
  unfold yieldsB at e
  split at e
  · rename_i u h' he
    simp only [Bool.and_eq_true] at e
    obtain rfl := vEq_eq _ _ e.1
    exact calls_of_eval hN hM hT he e.2.1 e.2.2 hG
  · cases e
/-- one known answer more -/
def Tab.put (T : Tab) (f : FuncId) (v : Value) : Tab := fun g args => match Nat.beq g f, args with
  | true, [] => some v
  | _, _ => T g args
theorem tab_put {T : Tab} {n : Nat} {f : FuncId} {v : Value} (hN : NamesOk P) (hM : P.follows .mixedOrders = true) (hT : TabOk P G T) (e : yieldsB P G T n f [] v = true) : TabOk P G (T.put f v) := by
  intro g args u hu
  unfold Tab.put at hu
  cases hg : Nat.beq g f with
  | false => rw [hg] at hu; exact hT g args u hu
  | true =>
    rw [hg] at hu
    cases args with
    | cons x l => exact hT g (x :: l) u hu
    | nil =>
      cases hu
      obtain rfl := beqT hg
      refine ⟨rfl, ?_, fun w hG => calls_of_yields hN hM hT e hG⟩
      unfold yieldsB at e
      split at e
      · simp only [Bool.and_eq_true] at e; exact e.2.2
      · cases e
end Go.Sim


namespace Go.Sim
variable {P : Program}

/-! ### what the program's variables hold, out of a row's data -/
mutual
def flat (P : Program) : TypeId → DataW Unit → Option (List Value)
  | t, .lit (.bool b) => match P.underlying t with
    | some .bool => some [.bool b]
    | _ => none
  | t, .lit (.int k n) => match P.underlying t with
    | some (.int _) => some [.int k n]
    | _ => none
  | t, .agg ds => match P.underlying t with
    | some (.array n e) => match flats P e ds with
      | some l => match Nat.beq (P.cellsOf t) (n * P.cellsOf e), Nat.beq ds.length n with
        | true, true => some l
        | _, _ => none
      | none => none
    | some (.struct fs) => match flatF P fs.toList 0 ds with
      | some l => match Nat.beq l.length (P.cellsOf t), Nat.beq ds.length fs.size with
        | true, true => some l
        | _, _ => none
      | none => none
    | _ => none
  | _, _ => none
def flatF (P : Program) : List Field → Nat → List (DataW Unit) → Option (List Value)
  | _, _, [] => some []
  | fs, off, d :: r => match fs with
    | [] => none
    | f :: fs => match Nat.beq f.offset off, flat P f.type d with
      | true, some a => match Nat.beq a.length (P.cellsOf f.type), flatF P fs (off + a.length) r with
        | true, some b => some (a ++ b)
        | _, _ => none
      | _, _ => none
def flats (P : Program) : TypeId → List (DataW Unit) → Option (List Value)
  | _, [] => some []
  | e, d :: r => match flat P e d, flats P e r with
    | some a, some b => match Nat.beq a.length (P.cellsOf e) with
      | true => some (a ++ b)
      | false => none
    | _, _ => none
end

theorem cut_rows {c : Nat} : ∀ (ps : List (List Value)) (cs : List Value), cs.length = ps.length * c → (∀ i p, ps[i]? = some p → (cs.drop (i * c)).take c = p) → cs = ps.flatten
  | [], cs, h, _ => by simpa using h
  | p :: ps, cs, h, hp => by
    have h0 := hp 0 p rfl
    simp only [Nat.zero_mul, List.drop_zero] at h0
    have ih := cut_rows (c := c) ps (cs.drop c) (by simp at h ⊢; rw [h, Nat.add_mul]; omega) (fun i q hq => by
      have := hp (i + 1) q hq
      rw [List.drop_drop]
      rw [Nat.add_mul, Nat.one_mul] at this
      rw [Nat.add_comm c]; exact this)
    rw [List.flatten_cons, ← h0, ← ih, List.take_append_drop]

section
variable {H : Type} {enc : TypeId × Value → H} {w : World} {base : Nat} {sp : Nat → Bool} {held : Bool}
mutual
theorem flat_eq : ∀ (d : DataW Unit) (t : TypeId) (l : List Value) (fuel : Nat) (cs : List Value) (p : List MemPlace), flat P t d = some l → DataW.trod (fun _ => ()) P w base sp held fuel t cs = some (d, p) → cs = l
  | .lit (.bool b), t, l, fuel, cs, p, hf, h => by
    simp only [flat] at hf
    split at hf
    · rename_i hu
      obtain ⟨b2, rfl, hx⟩ := DataW.trod_bool hu h
      cases hf
      simp only [Prod.mk.injEq, DataW.lit.injEq, Lit.bool.injEq] at hx
      rw [hx.1]
    · cases hf
  | .lit (.int k n), t, l, fuel, cs, p, hf, h => by
    simp only [flat] at hf
    split at hf
    · rename_i k2 hu
      obtain ⟨b2, rfl, hx, _⟩ := DataW.trod_int hu h
      cases hf
      simp only [Prod.mk.injEq, DataW.lit.injEq, Lit.int.injEq] at hx
      rw [hx.1.1, hx.1.2]
    · cases hf
  | .agg ds, t, l, fuel, cs, p, hf, h => by
    simp only [flat] at hf
    split at hf
    · rename_i n e hu
      split at hf
      · rename_i l2 hl
        split at hf
        · rename_i h1 h2
          cases hf
          obtain ⟨xs, m, rfl, hx, hlen, hxs, hel⟩ := DataW.trod_array hu h
          simp only [Prod.mk.injEq, DataW.agg.injEq] at hx
          have e1 := beqT h1
          have e2 := beqT h2
          obtain ⟨ps, g1, g2, g3⟩ := flats_eq ds e l hl xs hx.1 m (fun (i : Nat) (x : DataW Unit × List MemPlace) (hi : xs[i]? = some x) => by
            have hlt := lgetElem?_lt hi
            rw [hxs] at hlt
            exact ⟨_, (hel i hlt).trans hi⟩)
          rw [g1]
          refine cut_rows (c := P.cellsOf e) ps cs (by rw [hlen, e1, g2, hxs]) (fun i q hq => ?_)
          have hlt := lgetElem?_lt hq
          rw [g2, hxs] at hlt
          obtain ⟨x, hx2⟩ : ∃ x, xs[i]? = some x := ⟨xs[i], List.getElem?_eq_getElem (by rw [hxs]; exact hlt)⟩
          exact g3 i x q hx2 hq _ ((hel i hlt).trans hx2)
        · cases hf
      · cases hf
    · rename_i fs hu
      split at hf
      · rename_i l2 hl
        split at hf
        · rename_i h1 h2
          cases hf
          obtain ⟨xs, m, rfl, hx, hlen, hxs, hel⟩ := DataW.trod_struct hu h
          simp only [Prod.mk.injEq, DataW.agg.injEq] at hx
          have := flatF_eq ds fs.toList 0 l hl xs hx.1 m cs (fun (i : Nat) (f : Field) (x : DataW Unit × List MemPlace) (hi : fs.toList[i]? = some f) (hi2 : xs[i]? = some x) => by
            rw [← hi2]; exact hel i f (by simpa using hi))
          rw [List.drop_zero, beqT h1, ← hlen, List.take_length] at this
          exact this
        · cases hf
      · cases hf
    · cases hf
  | .lit (.float _ _), _, _, _, _, _, hf, _ => by simp [flat] at hf
  | .lit (.string _), _, _, _, _, _, hf, _ => by simp [flat] at hf
  | .nil, _, _, _, _, _, hf, _ => by simp [flat] at hf
  | .ptr _, _, _, _, _, _, hf, _ => by simp [flat] at hf
  | .slice _ _, _, _, _, _, _, hf, _ => by simp [flat] at hf
  | .iface _ _, _, _, _, _, _, hf, _ => by simp [flat] at hf
  | .map _, _, _, _, _, _, hf, _ => by simp [flat] at hf
  | .held _, _, _, _, _, _, hf, _ => by simp [flat] at hf
theorem flatF_eq : ∀ (ds : List (DataW Unit)) (fs : List Field) (off : Nat) (l : List Value), flatF P fs off ds = some l → ∀ (xs : List (DataW Unit × List MemPlace)), ds = xs.map (·.1) → ∀ (m : Nat) (cs : List Value),
    (∀ (i : Nat) (f : Field) (x : DataW Unit × List MemPlace), fs[i]? = some f → xs[i]? = some x → DataW.trod (fun _ => ()) P w base sp held m f.type ((cs.drop f.offset).take (P.cellsOf f.type)) = some x) → (cs.drop off).take l.length = l
  | [], fs, off, l, hf, xs, hx, m, cs, hr => by
    simp only [flatF, Option.some.injEq] at hf
    subst hf
    simp
  | d :: ds, fs, off, l, hf, xs, hx, m, cs, hr => by
    simp only [flatF] at hf
    split at hf
    · cases hf
    · rename_i f fs2
      split at hf
      · rename_i a ho ha
        split at hf
        · rename_i b hlen hb
          cases hf
          cases xs with
          | nil => cases hx
          | cons x xs =>
            simp only [List.map_cons, List.cons.injEq] at hx
            obtain ⟨x1, x2⟩ := x
            have h0 := hr 0 f (x1, x2) rfl rfl
            simp only at hx
            rw [← hx.1, beqT ho] at h0
            have e1 := flat_eq d f.type a m _ x2 ha h0
            have e2 := flatF_eq ds fs2 (off + a.length) b hb xs hx.2 m cs (fun (i : Nat) (f : Field) (y : DataW Unit × List MemPlace) hi hi2 => hr (i + 1) f y (by simpa using hi) (by simpa using hi2))
            rw [List.length_append, List.take_add, List.drop_drop, e2, beqT hlen, e1]
        · cases hf
      · cases hf
theorem flats_eq : ∀ (ds : List (DataW Unit)) (e : TypeId) (l : List Value), flats P e ds = some l → ∀ (xs : List (DataW Unit × List MemPlace)), ds = xs.map (·.1) → ∀ (m : Nat), (∀ (i : Nat) (x : DataW Unit × List MemPlace), xs[i]? = some x → ∃ cs, DataW.trod (fun _ => ()) P w base sp held m e cs = some x) →
    ∃ ps : List (List Value), l = ps.flatten ∧ ps.length = xs.length ∧ ∀ (i : Nat) (x : DataW Unit × List MemPlace) (q : List Value), xs[i]? = some x → ps[i]? = some q → ∀ cs, DataW.trod (fun _ => ()) P w base sp held m e cs = some x → cs = q
  | [], e, l, hf, xs, hx, m, hr => by
    simp only [flats, Option.some.injEq] at hf
    subst hf
    cases xs with
    | nil => exact ⟨[], rfl, rfl, fun i x q hi => (by simp at hi)⟩
    | cons x xs => cases hx
  | d :: ds, e, l, hf, xs, hx, m, hr => by
    simp only [flats] at hf
    split at hf
    · rename_i a b ha hb
      split at hf
      · cases hf
        cases xs with
        | nil => cases hx
        | cons x xs =>
          simp only [List.map_cons, List.cons.injEq] at hx
          obtain ⟨ps, g1, g2, g3⟩ := flats_eq ds e b hb xs hx.2 m (fun (i : Nat) (y : DataW Unit × List MemPlace) (hi : xs[i]? = some y) => hr (i + 1) y (by simpa using hi))
          refine ⟨a :: ps, by rw [List.flatten_cons, g1], by simp [g2], fun i y q hi hq cs hcs => ?_⟩
          cases i with
          | zero =>
            simp only [List.getElem?_cons_zero, Option.some.injEq] at hi hq
            subst hi; subst hq
            obtain ⟨x1, x2⟩ := x
            simp only at hx
            rw [← hx.1] at hcs
            exact flat_eq d e a m cs x2 ha hcs
          | succ i => exact g3 i y q (by simpa using hi) (by simpa using hq) cs hcs
      · cases hf
    · cases hf
end
end

theorem laidVars_mem {w : World} {n : String} {d : DataW Unit} : ∀ {laid : List (String × DataW Unit)} {ps : List MemPlace}, DataW.LaidVars P w laid ps → (n, d) ∈ laid →
    ∃ g t cs fuel p, P.globalNamed n = some g ∧ (P.globals[g]?).map (·.type) = some t ∧ w.var? P n = some cs ∧ DataW.trod (fun _ => ()) P w 0 (fun _ => true) false fuel t cs.toList = some (d, p)
  | [], _, _, h => by cases h
  | (n2, d2) :: r, ps, hl, h => by
    obtain ⟨g, t, cs, fuel, p, q, h1, h2, h3, h4, h5, _⟩ := hl
    rcases List.mem_cons.1 h with e | h
    · cases e; exact ⟨g, t, cs, fuel, p, h1, h2, h3, h4⟩
    · exact laidVars_mem h5 h

/-- a variable's cells -/
theorem glob_of_laid {w : World} {laid : List (String × DataW Unit)} {n : String} {d : DataW Unit} {g : Nat} {t : TypeId} {l : List Value} (h : laidMet P laid w) (hm : (n, d) ∈ laid) (hg : P.globalNamed n = some g) (ht : (P.globals[g]?).map (·.type) = some t) (hf : flat P t d = some l)
    (hne : l.isEmpty = false) (hno : noA.noAs l = true) : g < w.heap.size ∧ ∀ k v, l[k]? = some v → noA v = true ∧ w.cell? ⟨g, k, none⟩ = some v := by
  obtain ⟨ps, hl, _⟩ := h
  obtain ⟨g2, t2, cs, fuel, p, h1, h2, h3, h4⟩ := laidVars_mem hl hm
  obtain rfl := Option.some.inj (hg.symm.trans h1)
  obtain rfl := Option.some.inj (ht.symm.trans h2)
  have e := flat_eq d t l fuel cs.toList p hf h4
  have hcell : ∀ (k : Nat) (v : Value), l[k]? = some v → w.cell? ⟨g, k, none⟩ = some v := fun k v hk => by
    rw [World.var?_cell hg h3 k, ← hk, ← e, Array.getElem?_toList]
  have hno2 : ∀ (l : List Value), noA.noAs l = true → ∀ (k : Nat) (v : Value), l[k]? = some v → noA v = true := by
    intro l
    induction l with
    | nil => intro _ k v hk; simp at hk
    | cons u r ih =>
      intro hn k v hk
      simp only [noA.noAs] at hn
      cases hu : noA u with
      | false => rw [hu] at hn; cases hn
      | true =>
        rw [hu] at hn
        cases k with
        | zero => simp at hk; subst hk; exact hu
        | succ k => exact ih hn k v (by simpa using hk)
  refine ⟨?_, fun k v hk => ⟨hno2 l hno k v hk, hcell k v hk⟩⟩
  cases l with
  | nil => cases hne
  | cons v r =>
    have := hcell 0 v rfl
    unfold World.cell? at this
    rcases Nat.lt_or_ge g w.heap.size with hh | hh
    · exact hh
    · simp [Array.getElem?_eq_none hh] at this

def lookG : List (Nat × List Value) → Nat → Option (List Value)
  | [], _ => none
  | (g, l) :: r, x => match Nat.beq g x with
    | true => some l
    | false => lookG r x
theorem globIn_look {w : World} : ∀ {GL : List (Nat × List Value)}, (∀ x ∈ GL, x.1 < w.heap.size ∧ ∀ k v, x.2[k]? = some v → noA v = true ∧ w.cell? ⟨x.1, k, none⟩ = some v) → GlobIn (lookG GL) w
  | [], _, g, l, h => by cases h
  | (g, l) :: r, hall, x, l2, h => by
    simp only [lookG] at h
    cases hb : Nat.beq g x with
    | true =>
      rw [hb] at h
      cases h
      obtain rfl := beqT hb
      exact hall _ (List.mem_cons_self ..)
    | false => rw [hb] at h; exact globIn_look (fun y hy => hall y (List.mem_cons_of_mem _ hy)) x l2 h
end Go.Sim


