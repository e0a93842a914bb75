/-
  Proved here: the evaluator's soundness: what it tells of a call holds of the model's call under every draw, where the program's functions bear no name that the model singles out and mixed orders are followed; a table of calls on memory; and how a row's data tell what variables hold.
-/
import Derived.Test.YtaallgkomohenaaGreatDoorSim2
import Derived.KernelRfl
import Derived.OpenShut
import Derived.MakeChecks
import Derived.FnData
set_option linter.unusedVariables false
set_option linter.unusedSimpArgs false
namespace Go.Sim
variable {P : Program} {G : Nat → Option (List Value)}

/-! ### the text -/
theorem infsL_get (ops : List Oper) (ms : List Nat) : ∀ (l : List Oper) (i j : Nat), (infsL P ops ms i l)[j]? = (l[j]?).map fun o => ⟨i + j, o, clsOf P o.op, ms.getD (i + j) 0, tmpsOf o.op.operands.toList ++ guardTmp ops o.guard⟩
  | [], i, j => by simp [infsL]
  | o :: l, i, j => by
    cases j with
    | zero => simp [infsL]
    | succ j => simp only [infsL, List.getElem?_cons_succ, infsL_get ops ms l (i + 1) j]; rw [show i + 1 + j = i + (j + 1) by omega]

theorem infs_get (ops : List Oper) (j : Nat) : (infs P ops)[j]? = (ops[j]?).map fun o => ⟨j, o, clsOf P o.op, (masksL ops []).getD j 0, tmpsOf o.op.operands.toList ++ guardTmp ops o.guard⟩ := by
  unfold infs; rw [infsL_get]; simp

theorem infs_mem {ops : List Oper} {f : Inf} (h : f ∈ infs P ops) : (infs P ops)[f.i]? = some f ∧ ops[f.i]? = some f.o ∧ f.cls = clsOf P f.o.op ∧ f.mask = (masksL ops []).getD f.i 0 ∧ f.looks = tmpsOf f.o.op.operands.toList ++ guardTmp ops f.o.guard := by
  obtain ⟨j, hj⟩ := List.mem_iff_getElem?.1 h
  have h2 := hj
  rw [infs_get] at h2
  cases ho : ops[j]? with
  | none => rw [ho] at h2; cases h2
  | some o =>
    rw [ho] at h2
    cases h2
    exact ⟨hj, ho, rfl, rfl, rfl⟩

theorem infsOk_mem {all : List Inf} : ∀ {l : List Inf}, infsOk all l = true → ∀ f ∈ l, infOk all f = true
  | [], _, f, hf => by cases hf
  | g :: l, h, f, hf => by
    simp only [infsOk] at h
    cases hg : infOk all g with
    | false => rw [hg] at h; cases h
    | true =>
      rw [hg] at h
      rcases List.mem_cons.1 hf with rfl | hf
      · exact hg
      · exact infsOk_mem h f hf

theorem predsOk_mem {n : Nat} : ∀ {l : List Nat}, predsOk n l = true → ∀ p ∈ l, p < n
  | [], _, p, hp => by cases hp
  | q :: l, h, p, hp => by
    simp only [predsOk] at h
    cases hq : Nat.blt q n with
    | false => rw [hq] at h; cases h
    | true =>
      rw [hq] at h
      rcases List.mem_cons.1 hp with rfl | hp
      · exact bltT hq
      · exact predsOk_mem h p hp

theorem mem_predsL : ∀ {l : List Edge} {p : Nat}, p ∈ predsL l ↔ ∃ e ∈ l, Region.binds .any e = true ∧ e.on = p
  | [], p => by simp [predsL]
  | e :: l, p => by
    simp only [predsL]
    cases hb : Region.binds .any e with
    | true => simp only [List.mem_cons, mem_predsL (l := l)]; constructor
              · rintro (rfl | ⟨e2, h1, h2, h3⟩)
                · exact ⟨e, .inl rfl, hb, rfl⟩
                · exact ⟨e2, .inr h1, h2, h3⟩
              · rintro ⟨e2, rfl | h1, h2, h3⟩
                · exact .inl h3.symm
                · exact .inr ⟨e2, h1, h2, h3⟩
    | false => rw [mem_predsL (l := l)]; constructor
               · rintro ⟨e2, h1, h2, h3⟩; exact ⟨e2, List.mem_cons_of_mem _ h1, h2, h3⟩
               · rintro ⟨e2, h1, h2, h3⟩
                 rcases List.mem_cons.1 h1 with rfl | h1
                 · rw [hb] at h2; cases h2
                 · exact ⟨e2, h1, h2, h3⟩

theorem maskOf_bit {acc : List Nat} : ∀ {l : List Nat} {p : Nat}, (maskOf acc l).testBit p = true → ∃ q ∈ l, q = p ∨ (acc.getD q 0).testBit p = true
  | [], p, h => by simp [maskOf] at h
  | q :: l, p, h => by
    simp only [maskOf, Nat.testBit_or, Bool.or_eq_true] at h
    rcases h with h | h | h
    · rw [Nat.one_shiftLeft, Nat.testBit_two_pow] at h
      exact ⟨q, List.mem_cons_self .., .inl (of_decide_eq_true h)⟩
    · exact ⟨q, List.mem_cons_self .., .inr h⟩
    · obtain ⟨q2, h1, h2⟩ := maskOf_bit h
      exact ⟨q2, List.mem_cons_of_mem _ h1, h2⟩

theorem masksL_get : ∀ (l : List Oper) (acc : List Nat) (j : Nat), (∀ k, k < acc.length → (masksL l acc)[k]? = acc[k]?) ∧
    ∀ o, l[j]? = some o → ∃ acc', (∀ q, acc'.getD q 0 = (masksL l acc).getD q 0 ∨ acc'.getD q 0 = 0) ∧ (masksL l acc).getD (acc.length + j) 0 = maskOf acc' (predsL o.after.toList)
  | [], acc, j => ⟨fun k hk => rfl, fun o ho => by simp at ho⟩
  | x :: l, acc, j => by
    have ih := masksL_get l (acc ++ [maskOf acc (predsL x.after.toList)])
    have hold : ∀ k, k < acc.length → (masksL (x :: l) acc)[k]? = acc[k]? := fun k hk => by
      rw [masksL, (ih 0).1 k (by simp; omega), List.getElem?_append_left hk]
    refine ⟨hold, fun o ho => ?_⟩
    cases j with
    | zero =>
      cases ho
      refine ⟨acc, fun q => ?_, ?_⟩
      · by_cases hq : q < acc.length
        · left; rw [List.getD_eq_getElem?_getD, List.getD_eq_getElem?_getD, hold q hq]
        · right; rw [List.getD_eq_getElem?_getD, List.getElem?_eq_none (by omega)]; rfl
      · rw [masksL, List.getD_eq_getElem?_getD, Nat.add_zero, (ih 0).1 acc.length (by simp)]
        simp
    | succ j =>
      obtain ⟨acc', h1, h2⟩ := (ih j).2 o (by simpa using ho)
      refine ⟨acc', h1, ?_⟩
      rw [masksL]
      rw [List.length_append, List.length_singleton] at h2
      rw [← h2]; congr 1; omega

theorem mask_bit {ops : List Oper} {j p : Nat} {o : Oper} (ho : ops[j]? = some o) (h : ((masksL ops []).getD j 0).testBit p = true) : ∃ q ∈ predsL o.after.toList, q = p ∨ ((masksL ops []).getD q 0).testBit p = true := by
  obtain ⟨acc', h1, h2⟩ := (masksL_get ops [] j).2 o ho
  simp only [List.length_nil, Nat.zero_add] at h2
  rw [h2] at h
  obtain ⟨q, h3, h4⟩ := maskOf_bit h
  refine ⟨q, h3, h4.imp id fun h4 => ?_⟩
  rcases h1 q with h5 | h5
  · rw [← h5]; exact h4
  · rw [h5] at h4; simp at h4

/-- what is listed is closed downward -/
def Closed (ops : List Oper) (L : Nat → Bool) : Prop := ∀ i o, ops[i]? = some o → L i = true → ∀ p ∈ predsL o.after.toList, L p = true

theorem mask_listed {ops : List Oper} (hall : infsOk (infs P ops) (infs P ops) = true) {L : Nat → Bool} (hL : Closed ops L) : ∀ (n j : Nat) (o : Oper), j < n → ops[j]? = some o → (∀ p ∈ predsL o.after.toList, L p = true) → ∀ p, ((masksL ops []).getD j 0).testBit p = true → L p = true := by
  intro n
  induction n with
  | zero => intro j o h; omega
  | succ n ih =>
    intro j o hj ho hp p hb
    obtain ⟨q, h1, h2⟩ := mask_bit ho hb
    rcases h2 with rfl | h2
    · exact hp q h1
    · have hmem : (⟨j, o, clsOf P o.op, (masksL ops []).getD j 0, tmpsOf o.op.operands.toList ++ guardTmp ops o.guard⟩ : Inf) ∈ infs P ops := List.mem_iff_getElem?.2 ⟨j, by rw [infs_get, ho]; rfl⟩
      have hok := infsOk_mem hall _ hmem
      simp only [infOk, Bool.and_eq_true] at hok
      have hlt := predsOk_mem hok.1 q h1
      have hqn : q < ops.length := by have := lgetElem?_lt ho; omega
      exact ih q ops[q] (by omega) (List.getElem?_eq_getElem hqn) (hL q _ (List.getElem?_eq_getElem hqn) (hp q h1)) p h2

theorem writersIn_mem {mask : Nat} {looks : List Nat} : ∀ {l : List Inf}, writersIn mask looks l = true → ∀ f ∈ l, ∀ d, f.o.dst = some d → d ∈ looks → mask.testBit f.i = true
  | [], _, f, hf => by cases hf
  | g :: l, h, f, hf => by
    intro d hd hdl
    simp only [writersIn] at h
    rcases List.mem_cons.1 hf with rfl | hf
    · rw [hd] at h
      dsimp only at h
      have : looks.contains d = true := by simpa using hdl
      rw [this] at h
      dsimp only at h
      cases hb : mask.testBit f.i with
      | true => rfl
      | false => rw [hb] at h; cases h
    · revert h
      cases g.o.dst with
      | none => intro h; exact writersIn_mem h f hf d hd hdl
      | some d2 =>
        dsimp only
        cases looks.contains d2 with
        | false => intro h; exact writersIn_mem h f hf d hd hdl
        | true =>
          cases mask.testBit g.i with
          | true => intro h; exact writersIn_mem h f hf d hd hdl
          | false => intro h; cases h

theorem mem_heavy : ∀ {l : List Inf} {f : Inf}, f ∈ heavy l ↔ f ∈ l ∧ f.cls = 2
  | [], f => by simp [heavy]
  | g :: l, f => by
    simp only [heavy]
    cases hg : Nat.beq g.cls 2 with
    | true =>
      simp only [List.mem_cons, mem_heavy (l := l)]
      constructor
      · rintro (rfl | h)
        · exact ⟨.inl rfl, beqT hg⟩
        · exact ⟨.inr h.1, h.2⟩
      · rintro ⟨rfl | h1, h2⟩
        · exact .inl rfl
        · exact .inr ⟨h1, h2⟩
    | false =>
      dsimp only
      rw [mem_heavy (l := l)]
      constructor
      · rintro ⟨h1, h2⟩; exact ⟨List.mem_cons_of_mem _ h1, h2⟩
      · rintro ⟨h1, h2⟩
        rcases List.mem_cons.1 h1 with rfl | h1
        · rw [h2] at hg; simp at hg
        · exact ⟨h1, h2⟩

theorem mem_light {ws : List Inf} {s : Nat} : ∀ {l : List Inf} {f : Inf}, f ∈ light ws s l ↔ f ∈ l ∧ f.cls ≠ 2 ∧ cntW f.mask ws = s
  | [], f => by simp [light]
  | g :: l, f => by
    simp only [light]
    have step : (f ∈ light ws s l ↔ f ∈ l ∧ f.cls ≠ 2 ∧ cntW f.mask ws = s) := mem_light
    cases hg : Nat.beq g.cls 2 with
    | true =>
      dsimp only
      rw [step]
      constructor
      · rintro ⟨h1, h2⟩; exact ⟨List.mem_cons_of_mem _ h1, h2⟩
      · rintro ⟨h1, h2, h3⟩
        rcases List.mem_cons.1 h1 with rfl | h1
        · exact absurd (beqT hg) h2
        · exact ⟨h1, h2, h3⟩
    | false =>
      cases hs : Nat.beq (cntW g.mask ws) s with
      | true =>
        dsimp only
        rw [List.mem_cons, step, List.mem_cons]
        constructor
        · rintro (rfl | h)
          · exact ⟨.inl rfl, fun e => by rw [e] at hg; simp at hg, beqT hs⟩
          · exact ⟨.inr h.1, h.2⟩
        · rintro ⟨rfl | h1, h2⟩
          · exact .inl rfl
          · exact .inr ⟨h1, h2⟩
      | false =>
        dsimp only
        rw [step]
        constructor
        · rintro ⟨h1, h2⟩; exact ⟨List.mem_cons_of_mem _ h1, h2⟩
        · rintro ⟨h1, h2, h3⟩
          rcases List.mem_cons.1 h1 with rfl | h1
          · rw [h3] at hs; simp at hs
          · exact ⟨h1, h2, h3⟩

/-! ### values that are told to be one -/
mutual
theorem vEq_eq : ∀ (a b : Value), vEq a b = true → a = b
  | .bool a, b, h => by cases b <;> simp [vEq] at h; subst h; rfl
  | .int k a, b, h => by cases b <;> simp [vEq] at h; obtain ⟨rfl, rfl⟩ := h; rfl
  | .float k a, b, h => by cases b <;> simp [vEq] at h; obtain ⟨rfl, h⟩ := h; rw [h]
  | .complex k a c, b, h => by cases b <;> simp [vEq] at h
  | .string a, b, h => by
    cases b <;> simp [vEq, bytesEq_iff] at h
    congr 1; apply ByteArray.ext; exact h
  | .pointer a, b, h => by cases b <;> simp [vEq] at h; subst h; rfl
  | .slice a n c, b, h => by cases b <;> simp [vEq] at h; obtain ⟨rfl, rfl, rfl⟩ := h; rfl
  | .map a, b, h => by cases b <;> simp [vEq] at h; subst h; rfl
  | .chan a, b, h => by cases b <;> simp [vEq] at h
  | .func f ⟨a⟩ ⟨c⟩, b, h => by
    cases b <;> simp only [vEq] at h <;> try (cases h; done)
    rename_i g b d
    obtain ⟨b⟩ := b; obtain ⟨d⟩ := d
    simp only [vEq, Bool.and_eq_true, decide_eq_true_eq] at h
    obtain ⟨rfl, h1, h2⟩ := h
    rw [vEqs_eq a b h1, vEqs_eq c d h2]
  | .nilFunc, b, h => by cases b <;> simp [vEq] at h; rfl
  | .iface t v, b, h => by
    cases b <;> simp only [vEq] at h <;> try (cases h; done)
    rename_i u x
    simp only [Bool.and_eq_true] at h
    rw [beqT h.1, vEq_eq v x h.2]
  | .nilIface, b, h => by cases b <;> simp [vEq] at h; rfl
  | .agg ⟨a⟩, b, h => by
    cases b <;> simp only [vEq] at h <;> try (cases h; done)
    rename_i b
    obtain ⟨b⟩ := b
    simp only [vEq] at h
    rw [vEqs_eq a b h]
  | .tuple ⟨a⟩, b, h => by
    cases b <;> simp only [vEq] at h <;> try (cases h; done)
    rename_i b
    obtain ⟨b⟩ := b
    simp only [vEq] at h
    rw [vEqs_eq a b h]
theorem vEqs_eq : ∀ (a b : List Value), vEqs a b = true → a = b
  | [], b, h => by cases b <;> simp [vEqs] at h; rfl
  | v :: a, b, h => by
    cases b with
    | nil => simp [vEqs] at h
    | cons x b =>
      simp only [vEqs, Bool.and_eq_true] at h
      rw [vEq_eq v x h.1, vEqs_eq a b h.2]
end
end Go.Sim


namespace Go.Sim
variable {P : Program} {G : Nat → Option (List Value)}

theorem clsOf_zero {o : Op} (h : clsOf P o = 0) : quietOp P o = true := by
  unfold clsOf at h
  cases hq : quietOp P o with
  | true => rfl
  | false => rw [hq] at h; dsimp only at h; cases hm : isMake o <;> rw [hm] at h <;> cases h
theorem clsOf_one {o : Op} (h : clsOf P o = 1) : isMake o = true := by
  unfold clsOf at h
  cases hq : quietOp P o with
  | true => rw [hq] at h; cases h
  | false => rw [hq] at h; dsimp only at h; cases hm : isMake o with
    | true => rfl
    | false => rw [hm] at h; cases h
theorem clsOf_cases (o : Op) : clsOf P o = 0 ∨ clsOf P o = 1 ∨ clsOf P o = 2 := by
  unfold clsOf
  cases quietOp P o <;> cases isMake o <;> simp

/-- the shape of what a making operation leaves -/
theorem make_shape {o : Op} (hm : isMake o = true) {tm : TM} {h h' : Hp} {v : Value} (e : aop P G o tm h = some (v, h')) : ∃ obj, h' = { next := h.next + 1, bs := h.bs.set h.next obj } := by
  cases o with
  | alloc t =>
    simp only [aop] at e
    split at e
    · unfold newC at e; cases e; exact ⟨_, rfl⟩
    · cases e
  | box t x =>
    simp only [aop] at e
    split at e
    · unfold newC at e; cases e; exact ⟨_, rfl⟩
    · cases e
  | buildSlice t len parts =>
    simp only [aop] at e
    split at e
    · split at e
      · split at e
        · split at e
          · split at e
            · rename_i hc; unfold newC at hc; cases hc; cases e; exact ⟨_, rfl⟩
            · cases e
          · cases e
        · cases e
      · cases e
    · cases e
  | makeSlice t l c =>
    simp only [aop] at e
    split at e
    · split at e
      · split at e
        · split at e
          · split at e
            · rename_i hc; unfold newC at hc; cases hc; cases e; exact ⟨_, rfl⟩
            · cases e
          · cases e
        · cases e
      · cases e
    · cases e
  | makeMap t q =>
    cases q with
    | none => simp only [aop] at e; cases e; exact ⟨_, rfl⟩
    | some x =>
      simp only [aop] at e
      split at e
      · cases e; exact ⟨_, rfl⟩
      · cases e
  | _ => simp [isMake] at hm

/-- the tmps of a cut-out frame are among those that are looked at -/
theorem subT_get {tm : TM} : ∀ {l : List Nat} {acc : TM} {t : Nat} {v : Value}, (subT tm l acc).get t = some v → acc.get t = some v ∨ t ∈ l
  | [], acc, t, v, h => .inl h
  | q :: l, acc, t, v, h => by
    simp only [subT] at h
    split at h
    · rename_i u hu
      rcases subT_get h with h1 | h1
      · rw [Tr.get_set] at h1
        by_cases e : q = t
        · exact .inr (by rw [e]; exact List.mem_cons_self ..)
        · rw [if_neg e] at h1; exact .inl h1
      · exact .inr (List.mem_cons_of_mem _ h1)
    · rcases subT_get h with h1 | h1
      · exact .inl h1
      · exact .inr (List.mem_cons_of_mem _ h1)
theorem subE_get {tm : TM} {l : List Nat} {t : Nat} {v : Value} (h : (subT tm l .e).get t = some v) : t ∈ l := by
  rcases subT_get h with h | h
  · rw [Tr.get_e] at h; cases h
  · exact h

/-- what is known of a light operation that was run -/
structure RcL (P : Program) (G : Nat → Option (List Value)) (ops : List Oper) (nt : Nat) (h H : Hp) (r : Rc) : Prop where
  lt : ∀ d, r.inf.o.dst = some d → d < nt
  look : ∀ t v, r.sub.get t = some v → t ∈ r.inf.looks
  guard : guardOk ops r.sub r.inf.o.guard = some r.go
  off : r.go = false → r.v = undef
  on : r.go = true → ∃ hp hp', aop P G r.inf.o.op r.sub hp = some (r.v, hp') ∧ hp.next = r.id ∧ (r.inf.cls = 1 → h.next ≤ r.id ∧ r.id < H.next ∧ H.bs.get r.id = hp'.bs.get r.id)

def Rc.made (r : Rc) : Prop := r.inf.cls = 1 ∧ r.go = true

theorem putT_lt {tm tm' : TM} {dst : Option Nat} {nt : Nat} {v : Value} (h : putT tm dst nt v = some tm') : ∀ d, dst = some d → d < nt := by
  intro d hd
  subst hd
  unfold putT at h
  dsimp only at h
  split at h
  · rename_i hb; exact bltT hb
  · cases h
theorem putT_get {tm tm' : TM} {dst : Option Nat} {nt : Nat} {v : Value} (h : putT tm dst nt v = some tm') {t : Nat} (ht : dst ≠ some t) : tm'.get t = tm.get t := by
  unfold putT at h
  cases dst with
  | none => cases h; rfl
  | some d =>
    dsimp only at h
    split at h
    · cases h; rw [Tr.get_set, if_neg (fun e => ht (by rw [e]))]
    · cases h

/-- memory that only has more objects -/
structure Grows (h H : Hp) : Prop where
  next : h.next ≤ H.next
  old : ∀ i, i < h.next → H.bs.get i = h.bs.get i
theorem Grows.refl (h : Hp) : Grows h h := ⟨Nat.le_refl _, fun _ _ => rfl⟩
theorem Grows.trans {a b c : Hp} (x : Grows a b) (y : Grows b c) : Grows a c :=
  ⟨Nat.le_trans x.next y.next, fun i hi => (y.old i (Nat.lt_of_lt_of_le hi x.next)).trans (x.old i hi)⟩

theorem runLight_spec {ops : List Oper} {nt : Nat} : ∀ {fs : List Inf} {tm tm' : TM} {h h' : Hp} {rs : List Rc}, (∀ f ∈ fs, f.cls = clsOf P f.o.op) → runLight P G ops nt fs tm h = some (tm', h', rs) →
    rs.map (·.inf) = fs ∧ Grows h h' ∧ (∀ t, (∀ f ∈ fs, f.o.dst ≠ some t) → tm'.get t = tm.get t) ∧ (∀ r ∈ rs, RcL P G ops nt h h' r) ∧
    (∀ r1 ∈ rs, ∀ r2 ∈ rs, r1.made → r2.made → r1.id = r2.id → r1 = r2)
  | [], tm, tm', h, h', rs, _, e => by
    simp only [runLight, Option.some.injEq, Prod.mk.injEq] at e
    obtain ⟨rfl, rfl, rfl⟩ := e
    refine ⟨rfl, .refl h, fun _ _ => rfl, ?_, ?_⟩
    · intro r hr; cases hr
    · intro r hr; cases hr
  | f :: fs, tm, tm', h, h', rs, hc, e => by
    have hcf := hc f (List.mem_cons_self ..)
    have hct : ∀ g ∈ fs, g.cls = clsOf P g.o.op := fun g hg => hc g (List.mem_cons_of_mem _ hg)
    simp only [runLight, aopF_eq] at e
    split at e
    · rename_i hg
      split at e
      · rename_i v h1 ha
        split at e
        · rename_i tm1 hp
          split at e
          · rename_i tm2 h2 rs2 hr
            cases e
            obtain ⟨hx, hr, k1, k0⟩ : ∃ hx, runLight P G ops nt fs tm1 hx = some (tm', h', rs2) ∧ (f.cls = 1 → hx = h1) ∧ (f.cls ≠ 1 → hx = h) := by
              cases hb : Nat.beq f.cls 1 with
              | true => rw [hb] at hr; exact ⟨h1, hr, fun _ => rfl, fun hn => absurd (beqT hb) hn⟩
              | false => rw [hb] at hr; exact ⟨h, hr, fun hn => (by rw [hn] at hb; simp at hb), fun _ => rfl⟩
            obtain ⟨g1, g2, g3, g4, g5⟩ := runLight_spec hct hr
            have hstep : Grows h hx ∧ (f.cls = 1 → ∃ obj, h1 = { next := h.next + 1, bs := h.bs.set h.next obj } ∧ hx = h1) := by
              by_cases hb : f.cls = 1
              · obtain ⟨obj, ho⟩ := make_shape (clsOf_one (hcf ▸ hb)) ha
                rw [k1 hb]
                refine ⟨?_, fun _ => ⟨obj, ho, rfl⟩⟩
                rw [ho]
                exact ⟨Nat.le_succ _, fun i hi => by simp only [Tr.get_set]; rw [if_neg (by omega)]⟩
              · rw [k0 hb]; exact ⟨.refl h, fun h1 => absurd h1 hb⟩
            refine ⟨by simp [g1], hstep.1.trans g2, fun t ht => ?_, fun r hr => ?_, fun r1 hr1 r2 hr2 m1 m2 he => ?_⟩
            · rw [g3 t (fun g hg => ht g (List.mem_cons_of_mem _ hg)), putT_get hp (ht f (List.mem_cons_self ..))]
            · rcases List.mem_cons.1 hr with rfl | hr
              · refine ⟨putT_lt hp, fun t v hs => subE_get hs, hg, fun hh => (by cases hh), fun _ => ⟨h, h1, ha, rfl, fun hcl => ?_⟩⟩
                obtain ⟨obj, ho, hm⟩ := hstep.2 hcl
                subst hm
                have hn : hx.next = h.next + 1 := by rw [ho]
                exact ⟨Nat.le_refl _, by have := g2.next; simp only; omega, g2.old _ (by simp only; omega)⟩
              · obtain ⟨kk, k0, k1, k2, k3⟩ := g4 r hr
                refine ⟨kk, k0, k1, k2, fun hgo => ?_⟩
                obtain ⟨hp1, hp2, x1, x2, x3⟩ := k3 hgo
                exact ⟨hp1, hp2, x1, x2, fun hcl => ⟨Nat.le_trans hstep.1.next (x3 hcl).1, (x3 hcl).2⟩⟩
            · have head : ∀ r ∈ rs2, r.made → f.cls = 1 → r.id ≠ h.next := by
                intro r hr hm hcl e
                obtain ⟨_, _, _, _, x3⟩ := (g4 r hr).on hm.2
                obtain ⟨obj, ho, hm1⟩ := hstep.2 hcl
                have := (x3 hm.1).1
                rw [hm1, ho] at this
                simp only at this
                omega
              rcases List.mem_cons.1 hr1 with rfl | hr1 <;> rcases List.mem_cons.1 hr2 with rfl | hr2
              · rfl
              · exact absurd he.symm (head r2 hr2 m2 m1.1)
              · exact absurd he (head r1 hr1 m1 m2.1)
              · exact g5 r1 hr1 r2 hr2 m1 m2 he
          · cases e
        · cases e
      · cases e
    · rename_i hg
      split at e
      · rename_i tm1 hp
        split at e
        · rename_i tm2 h2 rs2 hr
          cases e
          obtain ⟨g1, g2, g3, g4, g5⟩ := runLight_spec hct hr
          refine ⟨by simp [g1], g2, fun t ht => ?_, fun r hr => ?_, fun r1 hr1 r2 hr2 m1 m2 he => ?_⟩
          · rw [g3 t (fun g hg => ht g (List.mem_cons_of_mem _ hg)), putT_get hp (ht f (List.mem_cons_self ..))]
          · rcases List.mem_cons.1 hr with rfl | hr
            · exact ⟨putT_lt hp, fun t v hs => subE_get hs, hg, fun _ => rfl, fun hh => (by cases hh)⟩
            · exact g4 r hr
          · rcases List.mem_cons.1 hr1 with rfl | hr1
            · exact absurd m1.2 (by simp)
            · rcases List.mem_cons.1 hr2 with rfl | hr2
              · exact absurd m2.2 (by simp)
              · exact g5 r1 hr1 r2 hr2 m1 m2 he
        · cases e
      · cases e
    · cases e

/-- the run of a region, laid open -/
inductive Trace (P : Program) (G : Nat → Option (List Value)) (E : FuncId → List Value → Option Value) (call : Call) (ops : List Oper) (nt : Nat) (all ws0 : List Inf) : List Inf → Nat → Hp → List Hp → List Rc → Prop where
  | last {s : Nat} {h H : Hp} {rs : List Rc} (hl : rs.map (·.inf) = light ws0 s all) (hg : Grows h H) (hr : ∀ r ∈ rs, RcL P G ops nt h H r) (hd : ∀ r1 ∈ rs, ∀ r2 ∈ rs, r1.made → r2.made → r1.id = r2.id → r1 = r2) : Trace P G E call ops nt all ws0 [] s h [H] rs
  | step {f : Inf} {ws : List Inf} {s : Nat} {h H h2 : Hp} {hs : List Hp} {rs rs2 : List Rc} {rw : Rc} (hl : rs.map (·.inf) = light ws0 s all) (hg : Grows h H) (hr : ∀ r ∈ rs, RcL P G ops nt h H r)
      (hd : ∀ r1 ∈ rs, ∀ r2 ∈ rs, r1.made → r2.made → r1.id = r2.id → r1 = r2)
      (hw : rw.inf = f) (hlt : ∀ d, f.o.dst = some d → d < nt) (hlk : ∀ t v, rw.sub.get t = some v → t ∈ f.looks) (hgu : guardOk ops rw.sub f.o.guard = some rw.go) (hon : rw.go = true → stepOp P G E call f.o rw.sub H = some (rw.v, h2)) (hoff : rw.go = false → rw.v = undef ∧ h2 = H)
      (ht : Trace P G E call ops nt all ws0 ws (s + 1) h2 hs rs2) : Trace P G E call ops nt all ws0 (f :: ws) s h (H :: hs) (rs ++ rw :: rs2)

theorem runWs_spec {E : FuncId → List Value → Option Value} {call : Call} {ops : List Oper} {nt : Nat} {all ws0 : List Inf} (hc : ∀ f ∈ all, f.cls = clsOf P f.o.op) : ∀ {ws : List Inf} {s : Nat} {tm tm' : TM} {h : Hp} {hs : List Hp} {rs : List Rc}, (∀ f ∈ ws, f ∈ all) →
    runWs P G E call ops nt all ws0 ws s tm h = some (tm', hs, rs) → Trace P G E call ops nt all ws0 ws s h hs rs ∧ (∀ t, (∀ f ∈ all, f.o.dst ≠ some t) → tm'.get t = tm.get t)
  | [], s, tm, tm', h, hs, rs, _, e => by
    simp only [runWs, stepF_eq] at e
    split at e
    · rename_i tm1 h1 rs1 hr
      cases e
      obtain ⟨g1, g2, g3, g4, g5⟩ := runLight_spec (fun f hf => hc f (mem_light.1 hf).1) hr
      exact ⟨.last g1 g2 g4 g5, fun t ht => g3 t (fun f hf => ht f (mem_light.1 hf).1)⟩
    · cases e
  | f :: ws, s, tm, tm', h, hs, rs, hall, e => by
    simp only [runWs, stepF_eq] at e
    split at e
    · cases e
    · rename_i tm1 h1 rs1 hr
      obtain ⟨g1, g2, g3, g4, g5⟩ := runLight_spec (fun f hf => hc f (mem_light.1 hf).1) hr
      have keep : ∀ t, (∀ f ∈ all, f.o.dst ≠ some t) → tm1.get t = tm.get t := fun t ht => g3 t (fun f hf => ht f (mem_light.1 hf).1)
      split at e
      · rename_i hg
        split at e
        · rename_i v h2 hs2
          split at e
          · rename_i tm2 hp
            split at e
            · rename_i tm3 hs3 rs3 hr3
              cases e
              obtain ⟨k1, k2⟩ := runWs_spec hc (fun g hg => hall g (List.mem_cons_of_mem _ hg)) hr3
              exact ⟨.step g1 g2 g4 g5 rfl (putT_lt hp) (fun t v hs => subE_get hs) hg (fun _ => hs2) (fun hh => by cases hh) k1, fun t ht => by rw [k2 t ht, putT_get hp (ht f (hall f (List.mem_cons_self ..))), keep t ht]⟩
            · cases e
          · cases e
        · cases e
      · rename_i hg
        split at e
        · rename_i tm2 hp
          split at e
          · rename_i tm3 hs3 rs3 hr3
            cases e
            obtain ⟨k1, k2⟩ := runWs_spec hc (fun g hg => hall g (List.mem_cons_of_mem _ hg)) hr3
            exact ⟨.step g1 g2 g4 g5 rfl (putT_lt hp) (fun t v hs => subE_get hs) hg (fun hh => by cases hh) (fun _ => ⟨rfl, rfl⟩) k1, fun t ht => by rw [k2 t ht, putT_get hp (ht f (hall f (List.mem_cons_self ..))), keep t ht]⟩
          · cases e
        · cases e
      · cases e

theorem Trace.length {E : FuncId → List Value → Option Value} {call : Call} {ops : List Oper} {nt : Nat} {all ws0 ws : List Inf} {s : Nat} {h : Hp} {hs : List Hp} {rs : List Rc} (t : Trace P G E call ops nt all ws0 ws s h hs rs) : hs.length = ws.length + 1 := by
  induction t with
  | last => rfl
  | step _ _ _ _ _ _ _ _ _ _ _ ih => simp [ih]

theorem rcsOk_mem {ws : List Inf} {hs : List Hp} {tm : TM} : ∀ {l : List Rc}, rcsOk P G ws hs tm l = true → ∀ r ∈ l, rcOk P G ws hs tm r = true
  | [], _, r, hr => by cases hr
  | q :: l, h, r, hr => by
    simp only [rcsOk] at h
    cases hq : rcOk P G ws hs tm q with
    | false => rw [hq] at h; cases h
    | true =>
      rw [hq] at h
      rcases List.mem_cons.1 hr with rfl | hr
      · exact hq
      · exact rcsOk_mem h r hr

theorem quietIn_get {r : Rc} {lo hi : Nat} : ∀ {hs : List Hp} {s q : Nat} {H : Hp}, quietIn P G r lo hi s hs = true → hs[q]? = some H → lo ≤ s + q → s + q ≤ hi → quietAt P G r H = true
  | [], s, q, H, _, hq, _, _ => by simp at hq
  | h :: hs, s, q, H, hk, hq, h1, h2 => by
    simp only [quietIn] at hk
    cases q with
    | zero =>
      cases hq
      have a : Nat.ble lo s = true := Nat.ble_eq_true_of_le (by omega)
      have b : Nat.ble s hi = true := Nat.ble_eq_true_of_le (by omega)
      rw [a, b] at hk
      dsimp only at hk
      cases hh : quietAt P G r h with
      | true => rfl
      | false => rw [hh] at hk; cases hk
    | succ q =>
      have tail : quietIn P G r lo hi (s + 1) hs = true := by
        revert hk
        cases Nat.ble lo s <;> cases Nat.ble s hi <;> try exact id
        dsimp only
        cases quietAt P G r h with
        | true => exact id
        | false => intro h; cases h
      exact quietIn_get tail (by simpa using hq) (by omega) (by omega)

theorem sameTmps_get {a b : TM} : ∀ {l : List Nat}, sameTmps a b l = true → ∀ t ∈ l, ∀ v, a.get t = some v → b.get t = some v
  | [], _, t, ht => by cases ht
  | q :: l, h, t, ht => by
    intro v hv
    simp only [sameTmps] at h
    rcases List.mem_cons.1 ht with rfl | ht
    · rw [hv] at h
      cases hb : b.get t with
      | none => rw [hb] at h; simp at h
      | some u =>
        rw [hb] at h
        dsimp only at h
        cases he : vEq v u with
        | true => rw [vEq_eq v u he]
        | false => rw [he] at h; cases h
    · have : sameTmps a b l = true := by
        revert h
        cases a.get q <;> cases b.get q <;> try exact id
        · intro h; cases h
        · rename_i x y
          dsimp only
          cases vEq x y with
          | true => exact id
          | false => intro h; cases h
      exact sameTmps_get this t ht v hv

end Go.Sim


namespace Go.Sim
variable {P : Program} {G : Nat → Option (List Value)}

/-- objects that nobody knows may be added -/
theorem Rel.more {m : Ren} {F : Nat → Prop} {K : World} {h H : Hp} {w : World} (r : Rel P G m F K h w) (g : Grows h H) : Rel P G m F K H w where
  len := fun i hi => r.len i (Nat.le_trans g.next hi)
  os := r.os
  tape := r.tape
  output := r.output
  size := r.size
  fr := r.fr
  glob := r.glob
  obj := fun i o hi => by
    by_cases hlt : i < h.next
    · exact r.obj i o (by rw [← g.old i hlt]; exact hi)
    · have hm := r.len i (by omega)
      cases o <;> first | trivial | (intro b hb; rw [hm] at hb; cases hb)
  inj := fun i j o o' b b' h1 h2 l1 l2 m1 m2 e => by
    have hi : i < h.next := by
      rcases Nat.lt_or_ge i h.next with hh | hh
      · exact hh
      · rw [r.len i hh] at m1; cases m1
    have hj : j < h.next := by
      rcases Nat.lt_or_ge j h.next with hh | hh
      · exact hh
      · rw [r.len j hh] at m2; cases m2
    exact r.inj i j o o' b b' (by rw [← g.old i hi]; exact h1) (by rw [← g.old j hj]; exact h2) l1 l2 m1 m2 e

theorem Step.more {m : Ren} {h H : Hp} (g : Grows h H) : Step m m h H := ⟨.refl m, g.next, fun i hi hm => ⟨hm, g.old i hi⟩⟩

theorem Trace.enter {E : FuncId → List Value → Option Value} {call : Call} {ops : List Oper} {nt : Nat} {all ws0 ws : List Inf} {s : Nat} {h : Hp} {hs : List Hp} {rs : List Rc} (t : Trace P G E call ops nt all ws0 ws s h hs rs) :
    ∃ (H : Hp) (hs' : List Hp) (rl : List Rc), hs = H :: hs' ∧ rl.map (·.inf) = light ws0 s all ∧ Grows h H ∧ (∀ r ∈ rl, RcL P G ops nt h H r) ∧ (∀ r1 ∈ rl, ∀ r2 ∈ rl, r1.made → r2.made → r1.id = r2.id → r1 = r2) ∧ ∀ r ∈ rl, r ∈ rs := by
  cases t with
  | last a b c d => exact ⟨_, _, _, rfl, a, b, c, d, fun r hr => hr⟩
  | step a b c d => exact ⟨_, _, _, rfl, a, b, c, d, fun r hr => List.mem_append_left _ hr⟩

/-- what the run tells of a quiet operation -/
theorem Trace.light_rc {E : FuncId → List Value → Option Value} {call : Call} {ops : List Oper} {nt : Nat} {ws : List Inf} {s : Nat} {h : Hp} {hs : List Hp} {rs : List Rc} (t : Trace P G E call ops nt (infs P ops) (heavy (infs P ops)) ws s h hs rs) (hws : ∀ f ∈ ws, f.cls = 2) :
    ∀ r ∈ rs, r.inf.cls = 0 → r.inf ∈ infs P ops ∧ guardOk ops r.sub r.inf.o.guard = some r.go ∧ (r.go = true → ∃ hp hp', aop P G r.inf.o.op r.sub hp = some (r.v, hp')) := by
  have one : ∀ {s : Nat} {rl : List Rc} {h H : Hp}, rl.map (·.inf) = light (heavy (infs P ops)) s (infs P ops) → (∀ r ∈ rl, RcL P G ops nt h H r) → ∀ r ∈ rl, r.inf ∈ infs P ops ∧ guardOk ops r.sub r.inf.o.guard = some r.go ∧ (r.go = true → ∃ hp hp', aop P G r.inf.o.op r.sub hp = some (r.v, hp')) := by
    intro s rl h H hm hr r hrl
    have hin : r.inf ∈ light (heavy (infs P ops)) s (infs P ops) := by rw [← hm]; exact List.mem_map.2 ⟨r, hrl, rfl⟩
    have q := hr r hrl
    exact ⟨(mem_light.1 hin).1, q.guard, fun hgo => by obtain ⟨hp, hp', ha, _⟩ := q.on hgo; exact ⟨hp, hp', ha⟩⟩
  induction t with
  | last hl hg hr hd => intro r hrl _; exact one hl hr r hrl
  | step hl hg hr hd hw hlt hlk hgu hon hoff ht ih =>
    intro r hrl hc
    rcases List.mem_append.1 hrl with hrl | hrl
    · exact one hl hr r hrl
    · rcases List.mem_cons.1 hrl with rfl | hrl
      · rw [hw, hws _ (List.mem_cons_self ..)] at hc
        cases hc
      · exact ih (fun f hf => hws f (List.mem_cons_of_mem _ hf)) r hrl hc

/-! ### the row of the heavy ones -/
theorem heavy_filter : ∀ l : List Inf, heavy l = l.filter (fun f => Nat.beq f.cls 2)
  | [] => rfl
  | f :: l => by
    simp only [heavy, List.filter_cons]
    cases h : Nat.beq f.cls 2 with
    | true => simp [heavy_filter l]
    | false => simp [heavy_filter l]

theorem infs_pairwise (ops : List Oper) : (infs P ops).Pairwise (fun a b => a.i < b.i) := by
  rw [List.pairwise_iff_getElem]
  intro i j hi hj hij
  have h1 := infs_get (P := P) ops i
  have h2 := infs_get (P := P) ops j
  rw [List.getElem?_eq_getElem hi] at h1
  rw [List.getElem?_eq_getElem hj] at h2
  cases o1 : ops[i]? with
  | none => rw [o1] at h1; cases h1
  | some a =>
    cases o2 : ops[j]? with
    | none => rw [o2] at h2; cases h2
    | some b =>
      rw [o1] at h1
      rw [o2] at h2
      simp only [Option.map_some, Option.some.injEq] at h1 h2
      rw [h1, h2]
      exact hij

theorem heavy_pairwise (ops : List Oper) : (heavy (infs P ops)).Pairwise (fun a b => a.i < b.i) := by
  rw [heavy_filter]; exact (infs_pairwise ops).filter _

theorem chain_pred : ∀ {pre : List Inf} {ws : List Inf} {g f : Inf}, chainW (pre ++ g :: ws) = true → f ∈ ws → ∃ p ∈ g :: ws, f.mask.testBit p.i = true
  | [], ws, g, f, h, hf => by
    induction ws generalizing g with
    | nil => cases hf
    | cons x ws ih =>
      simp only [List.nil_append, chainW] at h ih
      cases hb : x.mask.testBit g.i with
      | false => rw [hb] at h; cases h
      | true =>
        rw [hb] at h
        rcases List.mem_cons.1 hf with rfl | hf
        · exact ⟨g, List.mem_cons_self .., hb⟩
        · obtain ⟨p, h1, h2⟩ := ih (g := x) (by cases ws with
            | nil => rfl
            | cons y ws => exact h) hf
          exact ⟨p, List.mem_cons_of_mem _ h1, h2⟩
  | x :: pre, ws, g, f, h, hf => by
    have : chainW (pre ++ g :: ws) = true := by
      revert h
      rw [List.cons_append]
      generalize pre ++ g :: ws = l
      intro h
      cases l with
      | nil => rfl
      | cons y l =>
        simp only [chainW] at h
        cases hb : y.mask.testBit x.i with
        | false => rw [hb] at h; cases h
        | true => rw [hb] at h; exact h
    exact chain_pred this hf

theorem cntW_append (mask : Nat) : ∀ a b : List Inf, cntW mask (a ++ b) = cntW mask a + cntW mask b
  | [], b => by simp [cntW]
  | f :: a, b => by
    simp only [List.cons_append, cntW, cntW_append mask a b]
    cases mask.testBit f.i <;> simp; omega
theorem cntW_le (mask : Nat) : ∀ a : List Inf, cntW mask a ≤ a.length
  | [] => by simp [cntW]
  | f :: a => by
    simp only [cntW, List.length_cons]
    have := cntW_le mask a
    cases mask.testBit f.i <;> simp <;> omega
theorem cntW_zero {mask : Nat} : ∀ {a : List Inf}, (∀ f ∈ a, mask.testBit f.i = false) → cntW mask a = 0
  | [], _ => rfl
  | f :: a, h => by simp only [cntW, h f (List.mem_cons_self ..)]; exact cntW_zero fun g hg => h g (List.mem_cons_of_mem _ hg)
theorem cntFree_ge {i : Nat} : ∀ {pre ws : List Inf}, (∀ f ∈ pre, f.mask.testBit i = false) → pre.length ≤ cntFree i (pre ++ ws)
  | [], ws, _ => Nat.zero_le _
  | f :: pre, ws, h => by
    simp only [List.cons_append, cntFree, h f (List.mem_cons_self ..), List.length_cons]
    have := cntFree_ge (ws := ws) (fun g hg => h g (List.mem_cons_of_mem _ hg))
    omega

/-! ### what is listed -/
def unl (L : Array Bool) : Nat := L.toList.countP (fun b => !b)

theorem countP_set_true : ∀ {l : List Bool} {i : Nat}, l[i]? = some false → (l.set i true).countP (fun b => !b) + 1 = l.countP (fun b => !b)
  | [], i, h => by simp at h
  | b :: l, 0, h => by simp at h; subst h; simp
  | b :: l, i + 1, h => by
    have := countP_set_true (l := l) (i := i) (by simpa using h)
    simp only [List.set_cons_succ, List.countP_cons]
    omega
theorem unl_set {L : Array Bool} {i : Nat} (hi : i < L.size) (h : L.getD i false = false) : unl (L.setIfInBounds i true) + 1 = unl L := by
  unfold unl
  rw [Array.toList_setIfInBounds]
  refine countP_set_true ?_
  rw [Array.getElem?_toList]
  simp [hi] at h ⊢
  exact h
theorem unl_zero {L : Array Bool} (h : unl L = 0) {i : Nat} (hi : i < L.size) : L.getD i false = true := by
  unfold unl at h
  rw [List.countP_eq_zero] at h
  have := h L[i] (by simp)
  simp [hi]
  simpa using this

theorem set_listed {L : Array Bool} {i j : Nat} (hi : i < L.size) : (L.setIfInBounds i true).getD j false = true ↔ (j = i ∨ L.getD j false = true) := by
  by_cases e : i = j
  · subst e; simp [hi]
  · rw [getD_set_ne false e]; constructor
    · exact .inr
    · rintro (rfl | h)
      · exact absurd rfl e
      · exact h
end Go.Sim


namespace Go.Sim
variable {P : Program} {G : Nat → Option (List Value)}

/-- what is known of a light operation that has come up -/
structure RcG (P : Program) (G : Nat → Option (List Value)) (ops : List Oper) (nt : Nat) (h0 H : Hp) (mm : Ren) (L : Array Bool) (r : Rc) : Prop where
  lt : ∀ d, r.inf.o.dst = some d → d < nt
  look : ∀ t v, r.sub.get t = some v → t ∈ r.inf.looks
  guard : guardOk ops r.sub r.inf.o.guard = some r.go
  off : r.go = false → r.v = undef
  on : r.go = true → ∃ hp hp', aop P G r.inf.o.op r.sub hp = some (r.v, hp') ∧ hp.next = r.id ∧ (r.inf.cls = 1 → h0.next ≤ r.id ∧ r.id < H.next ∧ (L.getD r.inf.i false = false → mm r.id = none ∧ H.bs.get r.id = hp'.bs.get r.id))

structure Inv (P : Program) (G : Nat → Option (List Value)) (E : FuncId → List Value → Option Value) (call : Call) (ops : Array Oper) (nt : Nat) (tmF : TM) (hsF : List Hp) (rsF : List Rc) (hE : Hp) (F : Nat → Prop) (K : World) (m0 : Ren) (h0 : Hp) (a0 : Act)
    (s : Nat) (ws : List Inf) (h H : Hp) (hs : List Hp) (rs pool : List Rc) (mm : Ren) (L : Array Bool) (a : Act) (w : World) : Prop where
  tr : Trace P G E call ops.toList nt (infs P ops.toList) (heavy (infs P ops.toList)) ws s h (H :: hs) rs
  rsIn : ∀ r ∈ rs, r ∈ rsF
  idx : hsF[s]? = some H ∧ ∀ k, hs[k]? = hsF[s + 1 + k]?
  end_ : lastH (H :: hs) = some hE
  pre : ∃ pre, heavy (infs P ops.toList) = pre ++ ws ∧ pre.length = s ∧ (∀ f ∈ pre, L.getD f.i false = true) ∧ ∀ f ∈ ws, L.getD f.i false = false
  has : ∀ f ∈ infs P ops.toList, f.cls ≠ 2 → cntW f.mask (heavy (infs P ops.toList)) ≤ s → ∃ r ∈ pool, r.inf = f
  poolIn : ∀ r ∈ pool, r ∈ rsF
  poolG : ∀ r ∈ pool, RcG P G ops.toList nt h0 H mm L r
  poolD : ∀ r1 ∈ pool, ∀ r2 ∈ pool, r1.made → r2.made → r1.id = r2.id → r1 = r2
  rel : Rel P G mm F K H w
  stp : Step m0 mm h0 H
  size : L.size = ops.size
  closed : Closed ops.toList (fun i => L.getD i false)
  tsize : a.tmps.size = nt
  tmps : ∀ t v, tmF.get t = some v → (∀ f ∈ infs P ops.toList, f.o.dst = some t → L.getD f.i false = true) → ∃ v', renO mm v = some v' ∧ a.tmps[t]? = some v'
  defers : a.defers = a0.defers

section
variable {E : FuncId → List Value → Option Value} {call : Call} {ops : Array Oper} {nt : Nat} {tmF : TM} {hsF : List Hp} {rsF : List Rc} {hE : Hp} {F : Nat → Prop} {K : World} {m0 : Ren} {h0 : Hp} {a0 : Act}
variable {s : Nat} {ws : List Inf} {h H : Hp} {hs : List Hp} {rs pool : List Rc} {mm : Ren} {L : Array Bool} {a : Act} {w : World}


theorem Inv.mask (I : Inv P G E call ops nt tmF hsF rsF hE F K m0 h0 a0 s ws h H hs rs pool mm L a w) (hall : infsOk (infs P ops.toList) (infs P ops.toList) = true) {f : Inf} (hf : f ∈ infs P ops.toList) (hp : ∀ p ∈ predsL f.o.after.toList, L.getD p false = true) : ∀ p, f.mask.testBit p = true → L.getD p false = true := by
  intro p hb
  obtain ⟨_, h1, _, h2, _⟩ := infs_mem hf
  rw [h2] at hb
  exact mask_listed hall I.closed (f.i + 1) f.i f.o (Nat.lt_succ_self _) h1 hp p hb

/-- what stands in the tmps that are looked at -/
theorem Inv.trel (I : Inv P G E call ops nt tmF hsF rsF hE F K m0 h0 a0 s ws h H hs rs pool mm L a w) (hall : infsOk (infs P ops.toList) (infs P ops.toList) = true) {f : Inf} (hf : f ∈ infs P ops.toList) (hp : ∀ p ∈ predsL f.o.after.toList, L.getD p false = true) {sub : TM} (hlk : ∀ t v, sub.get t = some v → t ∈ f.looks)
    (hsame : ∀ t ∈ f.looks, ∀ v, sub.get t = some v → tmF.get t = some v) : TRel mm nt sub a.tmps := by
  refine ⟨I.tsize, fun t v ht => ?_⟩
  have hin := hlk t v ht
  refine I.tmps t v (hsame t hin v ht) fun g hg hd => ?_
  have hok := infsOk_mem hall f hf
  simp only [infOk, Bool.and_eq_true] at hok
  exact I.mask hall hf hp _ (writersIn_mem hok.2 g hg t hd hin)

theorem Inv.put_tmps (I : Inv P G E call ops nt tmF hsF rsF hE F K m0 h0 a0 s ws h H hs rs pool mm L a w) {f : Inf} (hf : f ∈ infs P ops.toList) (hi : f.i < L.size) {mm' : Ren} (he : Ext mm mm') {v v' : Value} (hv : renO mm' v = some v') (hlt : ∀ d, f.o.dst = some d → d < nt) (hd : ∀ d, f.o.dst = some d → tmF.get d = some v) :
    (a.put f.o.dst v').tmps.size = nt ∧ ∀ t x, tmF.get t = some x → (∀ g ∈ infs P ops.toList, g.o.dst = some t → (L.setIfInBounds f.i true).getD g.i false = true) → ∃ x', renO mm' x = some x' ∧ (a.put f.o.dst v').tmps[t]? = some x' := by
  have old : ∀ t x, f.o.dst ≠ some t → tmF.get t = some x → (∀ g ∈ infs P ops.toList, g.o.dst = some t → (L.setIfInBounds f.i true).getD g.i false = true) → ∃ x', renO mm' x = some x' ∧ a.tmps[t]? = some x' := by
    intro t x hne hx hw
    obtain ⟨x', h1, h2⟩ := I.tmps t x hx fun g hg hgd => by
      rcases (set_listed hi).1 (hw g hg hgd) with e | e
      · exfalso
        obtain ⟨g1, _⟩ := infs_mem hg
        obtain ⟨f1, _⟩ := infs_mem hf
        rw [e, f1] at g1
        cases g1
        exact hne hgd
      · exact e
    exact ⟨x', renO_mono he _ _ h1, h2⟩
  cases hdst : f.o.dst with
  | none =>
    refine ⟨I.tsize, fun t x hx hw => ?_⟩
    exact old t x (by rw [hdst]; simp) hx hw
  | some d =>
    refine ⟨by simp [Act.put, I.tsize], fun t x hx hw => ?_⟩
    by_cases e : d = t
    · subst e
      have hd2 := hd d hdst
      rw [hx] at hd2
      obtain rfl := Option.some.inj hd2
      have hl := hlt d hdst
      exact ⟨v', hv, by simp [Act.put, I.tsize, hl]⟩
    · obtain ⟨x', h1, h2⟩ := old t x (by rw [hdst]; exact fun hh => e (Option.some.inj hh)) hx hw
      exact ⟨x', h1, by simp [Act.put, Array.getElem?_setIfInBounds, e, h2]⟩

/-- the ready one -/
theorem Inv.ready (I : Inv P G E call ops nt tmF hsF rsF hE F K m0 h0 a0 s ws h H hs rs pool mm L a w) {i : Nat} (hi : i ∈ Region.ready .any ops L) : ∃ f, f ∈ infs P ops.toList ∧ f.i = i ∧ ops[i]? = some f.o ∧ i < L.size ∧ L.getD f.i false = false ∧ (∀ p ∈ predsL f.o.after.toList, L.getD p false = true) := by
  obtain ⟨h1, o, ho, h2⟩ := mem_ready.1 hi
  have hlt := getElem?_lt' ho
  have hl : ops.toList[i]? = some o := by simpa using ho
  have hg := infs_get (P := P) ops.toList i
  rw [hl] at hg
  refine ⟨_, List.mem_iff_getElem?.2 ⟨i, hg⟩, rfl, ho, by rw [I.size]; exact hlt, ?_, ?_⟩
  · have : i < L.size := by rw [I.size]; exact hlt
    simp [this] at h1 ⊢; exact h1
  · intro p hp
    obtain ⟨e, he, hb, rfl⟩ := mem_predsL.1 hp
    exact h2 e (by simpa using he) hb

theorem Inv.done (I : Inv P G E call ops nt tmF hsF rsF hE F K m0 h0 a0 s ws h H hs rs pool mm L a w) (hall : infsOk (infs P ops.toList) (infs P ops.toList) = true) (hr : Region.ready .any ops L = []) : ∀ n i, i < n → i < L.size → L.getD i false = true := by
  intro n
  induction n with
  | zero => intro i h; omega
  | succ n ih =>
    intro i hn hi
    cases hl : L.getD i false with
    | true => rfl
    | false =>
      exfalso
      have hi2 : i < ops.size := by rw [← I.size]; exact hi
      have : i ∈ Region.ready .any ops L := by
        refine mem_ready.2 ⟨by simp [hi] at hl ⊢; exact hl, ops[i], by simp [hi2], fun e he hb => ?_⟩
        have hg := infs_get (P := P) ops.toList i
        have hl : ops.toList[i]? = some ops[i] := by simp [hi2]
        rw [hl] at hg
        have hok := infsOk_mem hall _ (List.mem_iff_getElem?.2 ⟨i, hg⟩)
        simp only [infOk, Bool.and_eq_true] at hok
        have hlt := predsOk_mem hok.1 e.on (mem_predsL.2 ⟨e, by simpa using he, hb, rfl⟩)
        have hlt' : e.on < i := hlt
        exact ih e.on (by omega) (by omega)
      rw [hr] at this
      cases this

theorem closed_set (I : Inv P G E call ops nt tmF hsF rsF hE F K m0 h0 a0 s ws h H hs rs pool mm L a w) {f : Inf} (hf : f ∈ infs P ops.toList) (hi : f.i < L.size) (hp : ∀ p ∈ predsL f.o.after.toList, L.getD p false = true) : Closed ops.toList (fun i => (L.setIfInBounds f.i true).getD i false) := by
  intro i o ho hl p hpp
  refine (set_listed hi).2 (.inr ?_)
  rcases (set_listed hi).1 hl with e | e
  · subst e
    obtain ⟨_, h1, _⟩ := infs_mem hf
    rw [h1] at ho
    cases ho
    exact hp p hpp
  · exact I.closed i o ho e p hpp

theorem Inv.span (I : Inv P G E call ops nt tmF hsF rsF hE F K m0 h0 a0 s ws h H hs rs pool mm L a w) (hall : infsOk (infs P ops.toList) (infs P ops.toList) = true) {f : Inf} (hf : f ∈ infs P ops.toList) (hun : L.getD f.i false = false) (hp : ∀ p ∈ predsL f.o.after.toList, L.getD p false = true) :
    cntW f.mask (heavy (infs P ops.toList)) ≤ s ∧ s ≤ cntFree f.i (heavy (infs P ops.toList)) := by
  obtain ⟨pre, h1, h2, h3, h4⟩ := I.pre
  have hm := I.mask hall hf hp
  rw [h1]
  constructor
  · rw [cntW_append, cntW_zero (a := ws) (fun g hg => by
      cases hb : f.mask.testBit g.i with
      | false => rfl
      | true => have := hm _ hb; rw [h4 g hg] at this; cases this)]
    have := cntW_le f.mask pre
    omega
  · rw [← h2]
    refine cntFree_ge fun g hg => ?_
    cases hb : g.mask.testBit f.i with
    | false => rfl
    | true =>
      exfalso
      have hgm : g ∈ infs P ops.toList := (mem_heavy.1 (by rw [h1]; exact List.mem_append_left _ hg)).1
      obtain ⟨_, g1, _⟩ := infs_mem hgm
      have := I.mask hall hgm (fun p hpp => I.closed g.i g.o g1 (h3 g hg) p hpp) _ hb
      rw [hun] at this
      cases this

theorem Inv.step_light (I : Inv P G E call ops nt tmF hsF rsF hE F K m0 h0 a0 s ws h H hs rs pool mm L a w) {f : Inf} (hf : f ∈ infs P ops.toList) (hi : f.i < L.size) (hun : L.getD f.i false = false) (hp : ∀ p ∈ predsL f.o.after.toList, L.getD p false = true) (hcl : f.cls ≠ 2)
    {r : Rc} (hr : r ∈ pool) (hrf : r.inf = f) {mm' : Ren} {w' : World} {v' : Value} (hv : renO mm' r.v = some v') (he : Ext mm mm') (hrel : Rel P G mm' F K H w') (hstp : Step m0 mm' h0 H)
    (hkeep : ∀ r2 ∈ pool, r2.made → r2 ≠ r → mm r2.id = none → mm' r2.id = none) (hd : ∀ d, f.o.dst = some d → tmF.get d = some r.v) :
    Inv P G E call ops nt tmF hsF rsF hE F K m0 h0 a0 s ws h H hs rs pool mm' (L.setIfInBounds f.i true) (a.put f.o.dst v') w' := by
  obtain ⟨t1, t2⟩ := I.put_tmps hf hi he hv (fun d hdd => (I.poolG r hr).lt d (by rw [hrf]; exact hdd)) hd
  refine ⟨I.tr, I.rsIn, I.idx, I.end_, ?_, I.has, I.poolIn, fun r2 hr2 => ?_, I.poolD, hrel, hstp, by simp [I.size], closed_set I hf hi hp, t1, t2, Act.put_defers'.trans I.defers⟩
  · obtain ⟨pre, h1, h2, h3, h4⟩ := I.pre
    refine ⟨pre, h1, h2, fun g hg => (set_listed hi).2 (.inr (h3 g hg)), fun g hg => ?_⟩
    rw [getD_set_ne false, h4 g hg]
    intro e
    obtain ⟨g1, g2⟩ := mem_heavy.1 (by rw [h1]; exact List.mem_append_right _ hg : g ∈ heavy (infs P ops.toList))
    obtain ⟨k1, _⟩ := infs_mem g1
    obtain ⟨k2, _⟩ := infs_mem hf
    rw [e, k1] at k2
    cases k2
    exact hcl g2
  · have q := I.poolG r2 hr2
    refine ⟨q.lt, q.look, q.guard, q.off, fun hgo => ?_⟩
    obtain ⟨hp1, hp2, x1, x2, x3⟩ := q.on hgo
    refine ⟨hp1, hp2, x1, x2, fun hc => ?_⟩
    obtain ⟨y1, y2, y3⟩ := x3 hc
    refine ⟨y1, y2, fun hl => ?_⟩
    have hne : r2.inf.i ≠ f.i := fun e => by rw [(set_listed hi).2 (.inl e)] at hl; cases hl
    have hl2 : L.getD r2.inf.i false = false := by rw [getD_set_ne false (Ne.symm hne)] at hl; exact hl
    obtain ⟨z1, z2⟩ := y3 hl2
    exact ⟨hkeep r2 hr2 ⟨hc, hgo⟩ (fun e => hne (by rw [e, hrf])) z1, z2⟩

theorem Inv.step_heavy (hsE : ∀ k, hs[k]? = hsF[s + 1 + k]?) {ws' : List Inf} {f : Inf} (I : Inv P G E call ops nt tmF hsF rsF hE F K m0 h0 a0 s (f :: ws') h H hs rs pool mm L a w) (hf : f ∈ infs P ops.toList) (hi : f.i < L.size) (hp : ∀ p ∈ predsL f.o.after.toList, L.getD p false = true)
    {h2 : Hp} {rs2 : List Rc} (ht : Trace P G E call ops.toList nt (infs P ops.toList) (heavy (infs P ops.toList)) ws' (s + 1) h2 hs rs2) (hin : ∀ r ∈ rs2, r ∈ rsF) (hlt : ∀ d, f.o.dst = some d → d < nt)
    {mm' : Ren} {w' : World} {v v' : Value} (hst : Step mm mm' H h2) (hv : renO mm' v = some v') (hrel : Rel P G mm' F K h2 w') (hd : ∀ d, f.o.dst = some d → tmF.get d = some v) :
    ∃ h H hs rs pool, Inv P G E call ops nt tmF hsF rsF hE F K m0 h0 a0 (s + 1) ws' h H hs rs pool mm' (L.setIfInBounds f.i true) (a.put f.o.dst v') w' := by
  obtain ⟨H2, hs', rl, rfl, r1, g, r2, r3, r4⟩ := ht.enter
  obtain ⟨t1, t2⟩ := I.put_tmps hf hi hst.ext hv hlt hd
  have hst2 : Step mm mm' H H2 := hst.trans (Step.more g)
  have h0H : h0.next ≤ H.next := I.stp.next
  refine ⟨h2, H2, hs', rs2, pool ++ rl, ht, hin, ⟨by have := hsE 0; simpa using this.symm, fun k => by have := hsE (k + 1); simp only [List.getElem?_cons_succ] at this; rw [this]; congr 1; omega⟩, I.end_, ?_, ?_, ?_, ?_, ?_, hrel.more g, I.stp.trans hst2, by simp [I.size], closed_set I hf hi hp, t1, t2, Act.put_defers'.trans I.defers⟩
  · obtain ⟨pre, h1, h2, h3, h4⟩ := I.pre
    refine ⟨pre ++ [f], by rw [h1]; simp, by simp [h2], fun g hg => ?_, fun g hg => ?_⟩
    · rcases List.mem_append.1 hg with hg | hg
      · exact (set_listed hi).2 (.inr (h3 g hg))
      · rw [List.mem_singleton.1 hg]; exact (set_listed hi).2 (.inl rfl)
    · have hpw := heavy_pairwise (P := P) ops.toList
      rw [h1, List.pairwise_append] at hpw
      have := (List.pairwise_cons.1 hpw.2.1).1 g hg
      rw [getD_set_ne false (by omega)]
      exact h4 g (List.mem_cons_of_mem _ hg)
  · intro g hg hc hcnt
    by_cases e : cntW g.mask (heavy (infs P ops.toList)) = s + 1
    · have : g ∈ light (heavy (infs P ops.toList)) (s + 1) (infs P ops.toList) := mem_light.2 ⟨hg, hc, e⟩
      rw [← r1] at this
      obtain ⟨r, hr, he⟩ := List.mem_map.1 this
      exact ⟨r, List.mem_append_right _ hr, he⟩
    · obtain ⟨r, hr, he⟩ := I.has g hg hc (by omega)
      exact ⟨r, List.mem_append_left _ hr, he⟩
  · intro r hr
    rcases List.mem_append.1 hr with hr | hr
    · exact I.poolIn r hr
    · exact hin r (r4 r hr)
  · intro r hr
    rcases List.mem_append.1 hr with hr | hr
    · have q := I.poolG r hr
      refine ⟨q.lt, q.look, q.guard, q.off, fun hgo => ?_⟩
      obtain ⟨hp1, hp2, x1, x2, x3⟩ := q.on hgo
      refine ⟨hp1, hp2, x1, x2, fun hc => ?_⟩
      obtain ⟨y1, y2, y3⟩ := x3 hc
      refine ⟨y1, Nat.lt_of_lt_of_le y2 hst2.next, fun hl => ?_⟩
      have hl2 : L.getD r.inf.i false = false := by
        cases hb : L.getD r.inf.i false with
        | false => rfl
        | true => rw [(set_listed hi).2 (.inr hb)] at hl; cases hl
      obtain ⟨z1, z2⟩ := y3 hl2
      obtain ⟨z3, z4⟩ := hst2.unborn _ y2 z1
      exact ⟨z3, z4.trans z2⟩
    · have q := r2 r hr
      refine ⟨q.lt, q.look, q.guard, q.off, fun hgo => ?_⟩
      obtain ⟨hp1, hp2, x1, x2, x3⟩ := q.on hgo
      refine ⟨hp1, hp2, x1, x2, fun hc => ?_⟩
      obtain ⟨y1, y2, y3⟩ := x3 hc
      have := hst.next
      exact ⟨by omega, y2, fun _ => ⟨hrel.len _ y1, y3⟩⟩
  · intro ra hra rb hrb ma mb e
    have low : ∀ r ∈ pool, r.made → r.id < H.next := fun r hr hm => by
      obtain ⟨_, _, _, _, x3⟩ := (I.poolG r hr).on hm.2
      exact (x3 hm.1).2.1
    have high : ∀ r ∈ rl, r.made → h2.next ≤ r.id := fun r hr hm => by
      obtain ⟨_, _, _, _, x3⟩ := (r2 r hr).on hm.2
      exact (x3 hm.1).1
    have := hst.next
    rcases List.mem_append.1 hra with hra | hra <;> rcases List.mem_append.1 hrb with hrb | hrb
    · exact I.poolD ra hra rb hrb ma mb e
    · have := low ra hra ma; have := high rb hrb mb; omega
    · have := high ra hra ma; have := low rb hrb mb; omega
    · exact r3 ra hra rb hrb ma mb e
end
end Go.Sim


namespace Go.Sim
variable {P : Program} {G : Nat → Option (List Value)}
section
variable {E : FuncId → List Value → Option Value} {call : Call} {ops : Array Oper} {nt : Nat} {tmF : TM} {hsF : List Hp} {rsF : List Rc} {hE : Hp} {F : Nat → Prop} {K : World} {m0 : Ren} {h0 : Hp} {a0 : Act}


theorem lastH_one {H : Hp} {hs : List Hp} {x : Hp} (h : lastH (H :: hs) = some x) (hn : hs = []) : H = x := by
  subst hn; simpa [lastH] using h

/-- what is asked of what was seen in the run -/
def RcP (P : Program) (G : Nat → Option (List Value)) (wsA : List Inf) (tmF : TM) (hsF : List Hp) (r : Rc) : Prop :=
  (∀ t ∈ r.inf.looks, ∀ v, r.sub.get t = some v → tmF.get t = some v) ∧ (∀ d, r.inf.o.dst = some d → tmF.get d = some r.v) ∧
  (r.inf.cls = 0 → r.go = true → ∀ q H, hsF[q]? = some H → cntW r.inf.mask wsA ≤ q → q ≤ cntFree r.inf.i wsA → ∃ h', aop P G r.inf.o.op r.sub H = some (r.v, h'))

theorem rcP_of_ok {wsA : List Inf} {r : Rc} (h : rcOk P G wsA hsF tmF r = true) : RcP P G wsA tmF hsF r := by
  simp only [rcOk, Bool.and_eq_true] at h
  refine ⟨fun t ht v hv => sameTmps_get h.1 t ht v hv, fun d hd => ?_, fun hc hgo q H hq h1 h2 => ?_⟩
  · have h2 := h.2.1
    unfold dstIs at h2
    rw [hd] at h2
    dsimp only at h2
    split at h2
    · rename_i u hu
      rw [hu, vEq_eq _ _ h2]
    · cases h2
  · have h3 := h.2.2
    rw [hc, hgo] at h3
    have hqi := quietIn_get h3 hq (by omega) (by omega)
    unfold quietAt at hqi
    rw [aopF_eq] at hqi
    split at hqi
    · rename_i v hx ha
      obtain rfl := vEq_eq _ _ hqi
      exact ⟨_, ha⟩
    · cases hqi

theorem clsOf_defer {c : Go.Call} {n : Nat} (h : clsOf P (.defer c) = n) : n = 2 := h.symm

theorem Inv.run {ρ : Option Nat} (hN : NamesOk P) (hX : ExtOk P E) (hC : CallOk P G call) (hall : infsOk (infs P ops.toList) (infs P ops.toList) = true) (hch : chainW (heavy (infs P ops.toList)) = true)
    (hok : ∀ r ∈ rsF, RcP P G (heavy (infs P ops.toList)) tmF hsF r) {Q : Exit → Act → World → Prop}
    (hq : ∀ m' a' w', Step m0 m' h0 hE → Rel P G m' F K hE w' → TRel m' nt tmF a'.tmps → a'.defers = a0.defers → Q .normal a' w') :
    ∀ (fuel s : Nat) (ws : List Inf) (h H : Hp) (hs : List Hp) (rs pool : List Rc) (mm : Ren) (L : Array Bool) (a : Act) (w : World), Inv P G E call ops nt tmF hsF rsF hE F K m0 h0 a0 s ws h H hs rs pool mm L a w → unl L ≤ fuel → wpAnyIn (FR ρ) 0 P .any ops Q fuel L a w := by
  have fin : ∀ {s : Nat} {ws : List Inf} {h H : Hp} {hs : List Hp} {rs pool : List Rc} {mm : Ren} {L : Array Bool} {a : Act} {w : World}, Inv P G E call ops nt tmF hsF rsF hE F K m0 h0 a0 s ws h H hs rs pool mm L a w → (∀ i, i < L.size → L.getD i false = true) → Q .normal a w := by
    intro s ws h H hs rs pool mm L a w I hl
    have hlA : ∀ f ∈ infs P ops.toList, L.getD f.i false = true := fun f hf => by
      obtain ⟨_, h1, _⟩ := infs_mem hf
      exact hl _ (by rw [I.size]; have := lgetElem?_lt h1; simpa using this)
    have hws : ws = [] := by
      obtain ⟨pre, h1, h2, h3, h4⟩ := I.pre
      cases ws with
      | nil => rfl
      | cons f ws =>
        have := hlA f (mem_heavy.1 (by rw [h1]; exact List.mem_append_right _ (List.mem_cons_self ..))).1
        rw [h4 f (List.mem_cons_self ..)] at this; cases this
    have hH : H = hE := by
      refine lastH_one I.end_ ?_
      have := I.tr.length
      rw [hws] at this
      simp only [List.length_cons, List.length_nil] at this
      exact List.length_eq_zero_iff.1 (by omega)
    subst hH
    exact hq mm a w I.stp I.rel ⟨I.tsize, fun t v ht => I.tmps t v ht fun f hf _ => hlA f hf⟩ I.defers
  intro fuel
  induction fuel with
  | zero =>
    intro s ws h H hs rs pool mm L a w I hu
    have hl : ∀ i, i < L.size → L.getD i false = true := fun i hi => unl_zero (by omega) hi
    refine ⟨?_, fin I hl⟩
    cases hr : Region.ready .any ops L with
    | nil => rfl
    | cons i l =>
      obtain ⟨f, h1, h2, h3, h4, h5, h6⟩ := I.ready (i := i) (by rw [hr]; exact List.mem_cons_self ..)
      rw [hl f.i (by rw [h2]; exact h4)] at h5; cases h5
  | succ fuel ih =>
    intro s ws h H hs rs pool mm L a w I hu
    refine ⟨fun hr => fin I fun i hi => I.done hall hr (i + 1) i (Nat.lt_succ_self _) hi, fun i hi => ?_⟩
    obtain ⟨f, hf, rfl, ho, hlt, hun, hp⟩ := I.ready hi
    have hul := unl_set hlt hun
    unfold wpOpIn
    rw [ho]
    dsimp only
    obtain ⟨_, _, hfc, _, hfl⟩ := infs_mem hf
    by_cases hcl : f.cls = 2
    · -- a heavy one: the next in the row
      have hfw : ∃ ws', ws = f :: ws' := by
        obtain ⟨pre, h1, h2, h3, h4⟩ := I.pre
        have hfh : f ∈ heavy (infs P ops.toList) := mem_heavy.2 ⟨hf, hcl⟩
        rw [h1] at hfh
        rcases List.mem_append.1 hfh with hb | hb
        · rw [h3 f hb] at hun; cases hun
        · cases ws with
          | nil => cases hb
          | cons g ws' =>
            rcases List.mem_cons.1 hb with rfl | hb
            · exact ⟨ws', rfl⟩
            · exfalso
              rw [h1] at hch
              obtain ⟨p, hp1, hp2⟩ := chain_pred hch hb
              have := I.mask hall hf hp _ hp2
              rw [h4 p hp1] at this; cases this
      obtain ⟨ws', rfl⟩ := hfw
      have htr := I.tr
      generalize hHs : H :: hs = hsx at htr
      cases htr with
      | step hl hg hr hd hw hdl hlk hgu hon hoff ht =>
        rename_i H' h2 hs' rsl rs2 rw_
        cases hHs
        have hrin : rw_ ∈ rsF := I.rsIn _ (List.mem_append_right _ (List.mem_cons_self ..))
        have hrc := hok _ hrin
        unfold RcP at hrc
        rw [hw] at hrc
        have rt := I.trel hall hf hp hlk hrc.1
        have hwant := guardOk_sound rt hgu rfl
        rw [hwant]
        have hsE := I.idx.2
        have hin : ∀ r ∈ rs2, r ∈ rsF := fun r hr => I.rsIn r (List.mem_append_right _ (List.mem_cons_of_mem _ hr))
        cases hgo : rw_.go with
        | true =>
          rw [if_pos rfl]
          refine stepOp_sound hN hX hC I.rel rt (hon hgo) fun m' v' w' k1 k2 k3 => ?_
          obtain ⟨h', H', hs', rs', pool', J⟩ := I.step_heavy hsE hf hlt hp ht hin hdl k1 k2 k3 hrc.2.1
          exact ih _ _ _ _ _ _ _ _ _ _ _ J (by omega)
        | false =>
          rw [if_neg (by decide)]
          obtain ⟨e1, e2⟩ := hoff hgo
          subst e2
          refine ⟨fun _ _ => trivial, ?_⟩
          obtain ⟨h', H', hs', rs', pool', J⟩ := I.step_heavy hsE hf hlt hp ht hin hdl (.refl mm _) (v := rw_.v) (v' := undef) (by rw [e1]; simp [undef, renO, renOs]) I.rel hrc.2.1
          exact ih _ _ _ _ _ _ _ _ _ _ _ J (by omega)
    · -- a light one
      obtain ⟨hlo, hhi⟩ := I.span hall hf hun hp
      obtain ⟨r, hr, hrf⟩ := I.has f hf hcl hlo
      have q := I.poolG r hr
      have hrc := hok _ (I.poolIn r hr)
      unfold RcP at hrc
      rw [hrf] at hrc
      have rt := I.trel hall hf hp (by rw [← hrf]; exact q.look) hrc.1
      have hgu := q.guard
      rw [hrf] at hgu
      have hwant := guardOk_sound rt hgu rfl
      rw [hwant]
      cases hgo : r.go with
      | false =>
        rw [if_neg (by decide)]
        refine ⟨fun _ _ => trivial, ?_⟩
        have J := I.step_light hf hlt hun hp hcl hr hrf (mm' := mm) (w' := w) (v' := undef) (by rw [q.off hgo]; simp [undef, renO, renOs]) (.refl mm) I.rel I.stp (fun _ _ _ _ h => h) hrc.2.1
        exact ih _ _ _ _ _ _ _ _ _ _ _ J (by omega)
      | true =>
        rw [if_pos rfl]
        refine ⟨fun _ _ => trivial, ?_⟩
        rcases clsOf_cases (P := P) f.o.op with hc | hc | hc
        · -- a quiet one
          obtain ⟨hx, ha⟩ := hrc.2.2 (hfc.trans hc) hgo s H I.idx.1 hlo hhi
          · obtain ⟨_, v', g1, g2⟩ := aopQ_sound I.rel rt (clsOf_zero hc) ha
            rw [Oper.semAt_eq _ _ _ (fun c hd => by rw [hd] at hc; exact absurd (clsOf_defer hc) (by decide)), g2, Oper.uponIn_value]
            have J := I.step_light hf hlt hun hp hcl hr hrf (mm' := mm) (w' := w) (v' := v') g1 (.refl mm) I.rel I.stp (fun _ _ _ _ h => h) hrc.2.1
            exact ih _ _ _ _ _ _ _ _ _ _ _ J (by omega)
        · -- one that makes memory
          have hc1 : r.inf.cls = 1 := by rw [hrf, hfc, hc]
          obtain ⟨hp1, hp2, x1, x2, x3⟩ := q.on hgo
          obtain ⟨y1, y2, y3⟩ := x3 hc1
          obtain ⟨z1, z2⟩ := y3 (by rw [hrf]; exact hun)
          rw [hrf] at x1
          obtain ⟨v', w', ⟨obj, cobj, e1, e2, g1, g2⟩, g3⟩ := aopA_sound rt (clsOf_one hc) x1 F w
          rw [Oper.semAt_eq _ _ _ (fun c hd => by rw [hd] at hc; exact absurd (clsOf_defer hc) (by decide)), g3, Oper.uponIn_value]
          have hF : ¬ F w.heap.size := fun hF => by have := (I.rel.fr _ hF).1; have := I.rel.size; omega
          rw [x2] at g1 g2
          have hb : hp2.bs.get r.id = some obj := by rw [e1]; simp only [Tr.get_set]; rw [if_pos x2]
          have hrel : Rel P G (mm.up r.id ⟨w.heap.size, 0, 0⟩) F K H w' := by
            subst e2
            refine I.rel.born ⟨w.heap.size, 0, 0⟩ obj y2 (Nat.le_refl _) z1 rfl rfl rfl (by simp) (fun k hk => Go.RowKit.Below.heap_alloc _ _ _ hk) ?_ ?_ (g2 _ (Ext.one z1 _) (Ren.up_same ..) hF)
            · intro j o bj hj ho hl hm e
              obtain ⟨_, hk⟩ := ObjR_bi (I.rel.obj j o ho) hl hm
              rw [e] at hk
              exact absurd hk (Nat.lt_irrefl _)
            · intro j
              by_cases hj : r.id = j
              · rw [if_pos hj, ← hj, z2, hb]
              · rw [if_neg hj]
          have hst : Step m0 (mm.up r.id ⟨w.heap.size, 0, 0⟩) h0 H := ⟨I.stp.ext.trans (Ext.one z1 _), I.stp.next, fun j hj hm => by
            obtain ⟨k1, k2⟩ := I.stp.unborn j hj hm
            exact ⟨by unfold Ren.up; rw [if_neg (by omega)]; exact k1, k2⟩⟩
          have J := I.step_light hf hlt hun hp hcl hr hrf (v' := v') (g1 _ (Ext.one z1 _) (Ren.up_same ..)) (Ext.one z1 _) hrel hst (fun r2 hr2 hm2 hne hmn => by
            unfold Ren.up
            rw [if_neg (fun e => hne (I.poolD r2 hr2 r hr hm2 ⟨hc1, hgo⟩ e))]
            exact hmn) hrc.2.1
          exact ih _ _ _ _ _ _ _ _ _ _ _ J (by omega)
        · exact absurd (hfc.trans hc) hcl

end

/-- a region whose run was seen, and of which enough is known -/
theorem region_sound {ρ : Option Nat} {E : FuncId → List Value → Option Value} (hN : NamesOk P) (hX : ExtOk P E) {call : Call} (hC : CallOk P G call) {ops : Array Oper} {nt : Nat} {tm tmF : TM} {h hE : Hp} {hsF : List Hp} {rsF : List Rc}
    (hall : infsOk (infs P ops.toList) (infs P ops.toList) = true) (hch : chainW (heavy (infs P ops.toList)) = true)
    (hrun : runWs P G E call ops.toList nt (infs P ops.toList) (heavy (infs P ops.toList)) (heavy (infs P ops.toList)) 0 tm h = some (tmF, hsF, rsF)) (hok : ∀ r ∈ rsF, RcP P G (heavy (infs P ops.toList)) tmF hsF r) (hlast : lastH hsF = some hE)
    {m : Ren} {F : Nat → Prop} {K : World} {a : Act} {w : World} (r : Rel P G m F K h w) (rt : TRel m nt tm a.tmps) {Q : Exit → Act → World → Prop}
    (hq : ∀ m' a' w', Step m m' h hE → Rel P G m' F K hE w' → TRel m' nt tmF a'.tmps → a'.defers = a.defers → Q .normal a' w') : wpAnyIn (FR ρ) 0 P .any ops Q ops.size (Array.replicate ops.size false) a { w with drawn := w.drawn + 1 } := by
  obtain ⟨tr, keep⟩ := runWs_spec (fun f hf => (infs_mem hf).2.2.1) (fun f hf => (mem_heavy.1 hf).1) hrun
  obtain ⟨H, hs', rl, rfl, r1, g, r2, r3, r4⟩ := tr.enter
  refine Inv.run hN hX hC hall hch hok hq _ 0 (heavy (infs P ops.toList)) h H hs' rsF rl m _ a _ ?_ ?_
  · refine ⟨tr, fun r hr => hr, ⟨rfl, fun k => by rw [show 0 + 1 + k = k + 1 by omega]; rfl⟩, hlast, ⟨[], rfl, rfl, fun f hf => (by cases hf), fun f hf => ?_⟩, ?_, r4, ?_, r3, r.drew.more g, Step.more g, by simp, ?_, rt.size, ?_, rfl⟩
    · simp [Array.getElem?_replicate]; split <;> rfl
    · intro f hf hc hcnt
      have : f ∈ light (heavy (infs P ops.toList)) 0 (infs P ops.toList) := mem_light.2 ⟨hf, hc, by omega⟩
      rw [← r1] at this
      obtain ⟨r, hr, he⟩ := List.mem_map.1 this
      exact ⟨r, hr, he⟩
    · intro x hx
      have q := r2 x hx
      refine ⟨q.lt, q.look, q.guard, q.off, fun hgo => ?_⟩
      obtain ⟨hp1, hp2, x1, x2, x3⟩ := q.on hgo
      refine ⟨hp1, hp2, x1, x2, fun hc => ?_⟩
      obtain ⟨y1, y2, y3⟩ := x3 hc
      exact ⟨y1, y2, fun _ => ⟨r.len _ y1, y3⟩⟩
    · intro i o ho hl
      simp [Array.getElem?_replicate] at hl
      split at hl <;> cases hl
    · intro t v ht hw
      have hno : ∀ f ∈ infs P ops.toList, f.o.dst ≠ some t := fun f hf hd => by
        have := hw f hf hd
        simp [Array.getElem?_replicate] at this
        split at this <;> cases this
      rw [keep t hno] at ht
      exact rt.get t v ht
  · unfold unl
    refine Nat.le_trans List.countP_le_length ?_
    simp

/-- a drawn region, whatever order -/
def AnyOk (P : Program) (G : Nat → Option (List Value)) (ops : Array Oper) (D : Call → Nat → TM → Hp → Option (TM × Hp)) : Prop :=
  ∀ call, CallOk P G call → ∀ nt tm h tm' h', D call nt tm h = some (tm', h') → ∀ ρ m F K a w, Rel P G m F K h w → TRel m nt tm a.tmps → ∀ Q : Exit → Act → World → Prop,
    (∀ m' a' w', Step m m' h h' → Rel P G m' F K h' w' → TRel m' nt tm' a'.tmps → a'.defers = a.defers → Q .normal a' w') → wpAnyIn (FR ρ) 0 P .any ops Q ops.size (Array.replicate ops.size false) a { w with drawn := w.drawn + 1 }

theorem drawn_sound {E : FuncId → List Value → Option Value} (hN : NamesOk P) (hX : ExtOk P E) (ops : Array Oper) : AnyOk P G ops (fun call nt tm h => drawn P G E call ops nt tm h) := by
  intro call hC nt tm h tm' h' e ρ m F K a w r rt Q hq
  unfold drawn at e
  dsimp only at e
  split at e
  · rename_i hall hch
    split at e
    · cases e
    · rename_i tmF hsF rsF hrun
      split at e
      · rename_i hE hok hlast
        cases e
        exact region_sound hN hX hC hall hch hrun (fun r hr => rcP_of_ok (rcsOk_mem hok r hr)) hlast r rt hq
      · cases e
  · cases e
end Go.Sim


namespace Go.Sim
noncomputable section
variable {P : Program} {G : Nat → Option (List Value)}

/-! ### an operation sees no more of the frame than its operands -/
def Agree (l : List Nat) (a b : TM) : Prop := ∀ t ∈ l, a.get t = b.get t
theorem Agree.mono {l l' : List Nat} {a b : TM} (h : Agree l a b) (hs : ∀ t ∈ l', t ∈ l) : Agree l' a b := fun t ht => h t (hs t ht)

theorem opnd_agree {a b : TM} : ∀ {x : Operand}, Agree (tmpsOf [x]) a b → opnd a x = opnd b x
  | .tmp t, h => h t (by simp [tmpsOf])
  | .const _, _ => rfl
  | .global _, _ => rfl
  | .func _, _ => rfl
theorem tmpsOf_cons (x : Operand) (l : List Operand) : tmpsOf (x :: l) = tmpsOf [x] ++ tmpsOf l := by cases x <;> rfl
theorem opnds_agree {a b : TM} : ∀ {l : List Operand}, Agree (tmpsOf l) a b → opnds a l = opnds b l
  | [], _ => rfl
  | x :: l, h => by
    rw [tmpsOf_cons] at h
    rw [opnds_cons, opnds_cons, opnd_agree (h.mono (fun t ht => List.mem_append_left _ ht)), opnds_agree (h.mono (fun t ht => List.mem_append_right _ ht))]
theorem optOpnd_agree {a b : TM} {x : Option Operand} (h : ∀ y, x = some y → Agree (tmpsOf [y]) a b) : optOpnd a x = optOpnd b x := by
  cases x with
  | none => rfl
  | some y => unfold optOpnd; dsimp only; rw [opnd_agree (h y rfl)]
theorem structParts_agree {a b : TM} {fs : List Field} : ∀ {l : List (Nat × Operand)}, Agree (tmpsOf (l.map (·.2))) a b → structParts P a fs l = structParts P b fs l
  | [], _ => rfl
  | (i, x) :: l, h => by
    rw [List.map_cons, tmpsOf_cons] at h
    simp only [structParts]
    rw [opnd_agree (h.mono (fun t ht => List.mem_append_left _ ht)), structParts_agree (h.mono (fun t ht => List.mem_append_right _ ht))]
theorem arrayParts_agree {a b : TM} {n : Nat} : ∀ {l : List (Nat × Operand)}, Agree (tmpsOf (l.map (·.2))) a b → arrayParts a n l = arrayParts b n l
  | [], _ => rfl
  | (i, x) :: l, h => by
    rw [List.map_cons, tmpsOf_cons] at h
    simp only [arrayParts]
    rw [opnd_agree (h.mono (fun t ht => List.mem_append_left _ ht)), arrayParts_agree (h.mono (fun t ht => List.mem_append_right _ ht))]

theorem tmpsOf_sub {l l' : List Operand} (h : ∀ x ∈ l', x ∈ l) : ∀ t ∈ tmpsOf l', t ∈ tmpsOf l := by
  have mem : ∀ (l : List Operand) (t : Nat), t ∈ tmpsOf l ↔ Operand.tmp t ∈ l := by
    intro l
    induction l with
    | nil => intro t; simp [tmpsOf]
    | cons x l ih =>
      intro t
      cases x <;> simp [tmpsOf, ih]
  intro t ht
  exact (mem l t).2 (h _ ((mem l' t).1 ht))

section
variable {a b : TM} {h : Hp}
theorem aop_agree {o : Op} (ha : Agree (tmpsOf o.operands.toList) a b) : aop P G o a h = aop P G o b h := by
  have one : ∀ x, x ∈ o.operands.toList → opnd a x = opnd b x := fun x hx => opnd_agree (ha.mono (tmpsOf_sub (fun y hy => by rw [List.mem_singleton.1 hy]; exact hx)))
  have many : ∀ l : List Operand, (∀ x ∈ l, x ∈ o.operands.toList) → opnds a l = opnds b l := fun l hl => opnds_agree (ha.mono (tmpsOf_sub hl))
  have opt : ∀ x : Option Operand, (∀ y, x = some y → y ∈ o.operands.toList) → optOpnd a x = optOpnd b x := fun x hx => optOpnd_agree (fun y hy => ha.mono (tmpsOf_sub (fun z hz => by rw [List.mem_singleton.1 hz]; exact hx y hy)))
  cases o with
  | move x => simp only [aop]; rw [one x (by simp [Op.operands])]
  | assign x => simp only [aop]; rw [one x (by simp [Op.operands])]
  | pick c x y => simp only [aop]; rw [one c (by simp [Op.operands]), one x (by simp [Op.operands]), one y (by simp [Op.operands])]
  | alloc t => rfl
  | box t x => simp only [aop]; rw [one x (by simp [Op.operands])]
  | build t ps =>
    have h1 : Agree (tmpsOf (ps.toList.map (·.2))) a b := by simpa [Op.operands] using ha
    simp only [aop]
    have e1 : ∀ fs : List Field, structParts P a fs ps.toList = structParts P b fs ps.toList := fun fs => structParts_agree h1
    have e2 : ∀ n, arrayParts a n ps.toList = arrayParts b n ps.toList := fun n => arrayParts_agree h1
    simp only [e1, e2]
  | buildSlice t n ps =>
    have h1 : Agree (tmpsOf (ps.toList.map (·.2))) a b := by simpa [Op.operands] using ha
    simp only [aop]
    have e2 : ∀ n, arrayParts a n ps.toList = arrayParts b n ps.toList := fun n => arrayParts_agree h1
    simp only [e2]
  | insert t m k v => simp only [aop]; rw [one m (by simp [Op.operands]), one k (by simp [Op.operands]), one v (by simp [Op.operands])]
  | load t x => simp only [aop]; rw [one x (by simp [Op.operands])]
  | store t x y => simp only [aop]; rw [one x (by simp [Op.operands]), one y (by simp [Op.operands])]
  | nilCheck x => simp only [aop]; rw [one x (by simp [Op.operands])]
  | binOp op t x y u => simp only [aop]; rw [one x (by simp [Op.operands]), one y (by simp [Op.operands])]
  | unOp op t x => simp only [aop]; rw [one x (by simp [Op.operands])]
  | convert s d x => simp only [aop]; rw [one x (by simp [Op.operands])]
  | makeInterface t x => simp only [aop]; rw [one x (by simp [Op.operands])]
  | makeFunc fn f c => simp only [aop]; rw [many f.toList (by simp [Op.operands]; intro x hx; exact .inl hx), many c.toList (by simp [Op.operands]; intro x hx; exact .inr hx)]
  | makeMap t r =>
    cases r with
    | none => rfl
    | some x => simp only [aop]; rw [one x (by simp [Op.operands])]
  | makeSlice t l c => simp only [aop]; rw [one l (by simp [Op.operands]), one c (by simp [Op.operands])]
  | slice t x lo hi mx =>
    simp only [aop]
    rw [one x (by simp [Op.operands]), opt lo (by rintro y rfl; simp [Op.operands]), opt hi (by rintro y rfl; simp [Op.operands]), opt mx (by rintro y rfl; simp [Op.operands])]
  | fieldAddr s x f => simp only [aop]; rw [one x (by simp [Op.operands])]
  | field s x f => simp only [aop]; rw [one x (by simp [Op.operands])]
  | indexAddr t x i => simp only [aop]; rw [one x (by simp [Op.operands]), one i (by simp [Op.operands])]
  | index t x i => simp only [aop]; rw [one x (by simp [Op.operands]), one i (by simp [Op.operands])]
  | lookup t x i c => simp only [aop]; rw [one x (by simp [Op.operands]), one i (by simp [Op.operands])]
  | mapUpdate t m k v => simp only [aop]; rw [one m (by simp [Op.operands]), one k (by simp [Op.operands]), one v (by simp [Op.operands])]
  | extract x i => simp only [aop]; rw [one x (by simp [Op.operands])]
  | call c =>
    obtain ⟨callee, args, ts⟩ := c
    cases callee with
    | builtin b => simp only [aop]; rw [many args.toList (by simp [Op.operands, Call.operands])]
    | value f => rfl
    | invoke x n => rfl
  | _ => rfl

theorem endOp_agree {o : Op} {a b' : TM} (ha : Agree (tmpsOf o.operands.toList) a b') : endOp P o a h = endOp P o b' h := by
  have one : ∀ x, x ∈ o.operands.toList → opnd a x = opnd b' x := fun x hx => opnd_agree (ha.mono (tmpsOf_sub (fun y hy => by rw [List.mem_singleton.1 hy]; exact hx)))
  have opt : ∀ x : Option Operand, (∀ y, x = some y → y ∈ o.operands.toList) → optOpnd a x = optOpnd b' x := fun x hx => optOpnd_agree (fun y hy => ha.mono (tmpsOf_sub (fun z hz => by rw [List.mem_singleton.1 hz]; exact hx y hy)))
  cases o with
  | slice t x lo hi mx =>
    cases mx with
    | none =>
      simp only [endOp]
      rw [one x (by simp [Op.operands]), opt lo (by rintro y rfl; simp [Op.operands]), opt hi (by rintro y rfl; simp [Op.operands])]
    | some m => rfl
  | call c =>
    obtain ⟨callee, args, ts⟩ := c
    cases callee with
    | builtin b =>
      have e : opnds a args.toList = opnds b' args.toList := opnds_agree (ha.mono (tmpsOf_sub (by simp [Op.operands, Call.operands])))
      cases b with
      | clear => simp only [endOp]; rw [e]
      | _ => rfl
    | _ => rfl
  | _ => rfl
theorem stepOp_agree {E : FuncId → List Value → Option Value} {call : Call} {o : Oper} (ha : Agree (tmpsOf o.op.operands.toList) a b) : stepOp P G E call o a h = stepOp P G E call o b h := by
  obtain ⟨dst, op, type, pos, after, guard⟩ := o
  have one : ∀ x, x ∈ op.operands.toList → opnd a x = opnd b x := fun x hx => opnd_agree (ha.mono (tmpsOf_sub (fun y hy => by rw [List.mem_singleton.1 hy]; exact hx)))
  have many : ∀ l : List Operand, (∀ x ∈ l, x ∈ op.operands.toList) → opnds a l = opnds b l := fun l hl => opnds_agree (ha.mono (tmpsOf_sub hl))
  have gen : (match aop P G op a h with | some r => some r | none => endOp P op a h) = (match aop P G op b h with | some r => some r | none => endOp P op b h) := by
    rw [aop_agree (o := op) ha, endOp_agree (o := op) ha]
  unfold stepOp
  cases op with
  | call c =>
    obtain ⟨callee, args, ts⟩ := c
    cases callee with
    | value f =>
      dsimp only
      rw [one f (by simp [Op.operands, Call.operands]), many args.toList (by simp [Op.operands, Call.operands]; intro x hx; exact .inr hx)]
    | builtin b => exact gen
    | invoke x n => exact gen
  | _ => exact gen
end

/-! ### operations that do not read memory -/
def memFree (o : Op) : Bool := match o with
  | .move _ => true
  | .assign _ => true
  | .pick _ _ _ => true
  | .build _ _ => true
  | .nilCheck _ => true
  | .binOp _ _ _ _ _ => true
  | .unOp _ _ _ => true
  | .makeInterface _ _ => true
  | .makeFunc _ _ _ => true
  | .slice _ _ _ _ _ => true
  | .fieldAddr _ _ _ => true
  | .field _ _ _ => true
  | .indexAddr _ _ _ => true
  | .index _ _ _ => true
  | .extract _ _ => true
  | _ => false
theorem memFree_aop {o : Op} (hm : memFree o = true) {tm : TM} {h1 h1' : Hp} {v : Value} (e : aop P G o tm h1 = some (v, h1')) (h2 : Hp) : ∃ h', aop P G o tm h2 = some (v, h') := by
  refine ⟨h2, ?_⟩
  cases o with
  | move x => simp only [aop] at e ⊢; split at e <;> simp_all
  | assign x => simp only [aop] at e ⊢; split at e <;> simp_all
  | pick c x y => simp only [aop] at e ⊢; split at e <;> (try split at e) <;> simp_all
  | build t ps => simp only [aop] at e ⊢; (repeat' split at e) <;> simp_all
  | nilCheck x => simp only [aop] at e ⊢; split at e <;> simp_all
  | binOp op t x y u => simp only [aop] at e ⊢; (repeat' split at e) <;> simp_all
  | unOp op t x => simp only [aop] at e ⊢; (repeat' split at e) <;> simp_all
  | makeInterface t x => simp only [aop] at e ⊢; (repeat' split at e) <;> simp_all
  | makeFunc fn f c => simp only [aop] at e ⊢; (repeat' split at e) <;> simp_all
  | slice t x lo hi mx => simp only [aop] at e ⊢; (repeat' split at e) <;> simp_all
  | fieldAddr s x f => simp only [aop] at e ⊢; (repeat' split at e) <;> simp_all
  | field s x f => simp only [aop] at e ⊢; (repeat' split at e) <;> simp_all
  | indexAddr t x i => simp only [aop] at e ⊢; (repeat' split at e) <;> simp_all
  | index t x i => simp only [aop] at e ⊢; (repeat' split at e) <;> simp_all
  | extract x i => simp only [aop] at e ⊢; (repeat' split at e) <;> simp_all
  | _ => cases hm
end
end Go.Sim


namespace Go.Sim
noncomputable section

/-! ### what the operations look at is what the frame holds -/
theorem subT_inv {tm : TM} : ∀ {l : List Nat} {acc : TM}, (∀ t v, acc.get t = some v → tm.get t = some v) → ∀ t v, (subT tm l acc).get t = some v → tm.get t = some v
  | [], acc, h, t, v, e => h t v e
  | q :: l, acc, h, t, v, e => by
    simp only [subT] at e
    split at e
    · rename_i u hu
      refine subT_inv (l := l) (fun t2 v2 h2 => ?_) t v e
      rw [Tr.get_set] at h2
      by_cases eq : q = t2
      · rw [if_pos eq] at h2; cases h2; rw [← eq]; exact hu
      · rw [if_neg eq] at h2; exact h t2 v2 h2
    · exact subT_inv h t v e
theorem subT_has {tm : TM} : ∀ {l : List Nat} {acc : TM} {t : Nat} {v : Value}, (∀ t v, acc.get t = some v → tm.get t = some v) → tm.get t = some v → (t ∈ l ∨ acc.get t = some v) → (subT tm l acc).get t = some v
  | [], acc, t, v, _, _, h => by
    rcases h with h | h
    · cases h
    · exact h
  | q :: l, acc, t, v, hi, ht, h => by
    simp only [subT]
    by_cases eq : q = t
    · subst eq
      rw [ht]
      refine subT_has (fun t2 v2 h2 => ?_) ht (.inr (by rw [Tr.get_set, if_pos rfl]))
      rw [Tr.get_set] at h2
      by_cases eq2 : q = t2
      · rw [if_pos eq2] at h2; cases h2; rw [← eq2]; exact ht
      · rw [if_neg eq2] at h2; exact hi t2 v2 h2
    · have h2 : t ∈ l ∨ acc.get t = some v := by
        rcases h with h | h
        · rcases List.mem_cons.1 h with h | h
          · exact absurd h.symm eq
          · exact .inl h
        · exact .inr h
      cases hq : tm.get q with
      | none => exact subT_has hi ht h2
      | some u =>
        refine subT_has (fun t2 v2 h3 => ?_) ht ?_
        · rw [Tr.get_set] at h3
          by_cases eq2 : q = t2
          · rw [if_pos eq2] at h3; cases h3; rw [← eq2]; exact hq
          · rw [if_neg eq2] at h3; exact hi t2 v2 h3
        · rcases h2 with h2 | h2
          · exact .inl h2
          · exact .inr (by rw [Tr.get_set, if_neg eq]; exact h2)
theorem subT_agree (tm : TM) (l : List Nat) : Agree l (subT tm l .e) tm := by
  intro t ht
  have h0 : ∀ t v, (Tr.e : TM).get t = some v → tm.get t = some v := fun t v h => by rw [Tr.get_e] at h; cases h
  cases e : tm.get t with
  | some v => exact subT_has h0 e (.inl ht)
  | none =>
    cases e2 : (subT tm l .e).get t with
    | none => rfl
    | some v => rw [subT_inv h0 t v e2] at e; cases e
theorem guardOk_agree {ops : List Oper} {a b : TM} {g : Option (Nat × Bool)} (h : Agree (guardTmp ops g) a b) : guardOk ops a g = guardOk ops b g := by
  cases g with
  | none => rfl
  | some p =>
    obtain ⟨j, want⟩ := p
    unfold guardOk guardTmp at *
    dsimp only at h ⊢
    cases hj : ops[j]? with
    | none => rfl
    | some o =>
      rw [hj] at h
      dsimp only at h ⊢
      cases hd : o.dst with
      | none => rfl
      | some d =>
        rw [hd] at h
        dsimp only at h ⊢
        rw [h d (List.mem_singleton.2 rfl)]

section
variable (P : Program) (G : Nat → Option (List Value)) (E : FuncId → List Value → Option Value)

/-! ### the run in one order -/
def isPlain (o : Op) : Bool := match o with
  | .slice _ _ _ _ _ => false
  | .call c => match c.callee with
    | .builtin b => match b with
      | .clear => false
      | _ => true
    | _ => false
  | _ => true
theorem isPlain_step {o : Op} (h : isPlain o = true) (call : Call) (tm : TM) (hp : Hp) : stepF P G E call o tm hp = aopF P G o tm hp := by
  cases o with
  | slice _ _ _ _ _ => cases h
  | call c =>
    obtain ⟨callee, args, ts⟩ := c
    cases callee with
    | builtin b =>
      have e : endOp P (.call ⟨.builtin b, args, ts⟩) tm hp = none := by cases b <;> first | rfl | cases h
      show v_builtinE P G b args ts tm hp = v_builtin P G b args ts tm hp
      unfold v_builtinE
      rw [e]
      cases v_builtin P G b args ts tm hp <;> rfl
    | _ => cases h
  | _ => rfl
def compA (o : Op) : CO := Bool.rec (motive := fun _ => CO) ⟨fun _ tm h k => bindK (aopF P G o tm h) k⟩ (compOp P G E o) (isPlain o)
theorem compA_eq (o : Op) (call : Call) (tm : TM) (h : Hp) (k : Kt) : (compA P G E o).f call tm h k = bindK (aop P G o tm h) k := by
  unfold compA
  cases e : isPlain o with
  | false => show bindK (aopF P G o tm h) k = _; rw [aopF_eq]
  | true => show (compOp P G E o).f call tm h k = _; rw [compOp_eq, isPlain_step P G E e, aopF_eq]

def pickH (made : Bool) (h' h : Hp) : Hp := Bool.rec (motive := fun _ => Hp) h h' made
def seqL (d : Option Nat) (nt : Nat) (made : Bool) (c : CO) (rest : CL) : CL := match d with
  | none => ⟨fun call tm h => c.f call tm h (fun _ h' => rest.f call tm (pickH made h' h))⟩
  | some d => Bool.rec (motive := fun _ => CL) ⟨fun _ _ _ => none⟩ ⟨fun call tm h => c.f call tm h (fun v h' => rest.f call ((setC (Nat.succ d) d).f tm v) (pickH made h' h))⟩ (Nat.ble (Nat.succ d) nt)
def lightO (all : List Oper) (nt : Nat) (f : Inf) (rest : CL) : CL := match f.o.guard with
  | none => seqL f.o.dst nt (Nat.beq f.cls (nat_lit 1)) (compA P G E f.o.op) rest
  | some g => ⟨fun call tm h => guardC (guardOk all tm (some g)) ((seqL f.o.dst nt (Nat.beq f.cls (nat_lit 1)) (compA P G E f.o.op) rest).f call tm h) ((skipO f.o.dst nt rest).f call tm h)⟩
def lightC (all : List Oper) (nt : Nat) (fs : List Inf) : CL := List.rec (motive := fun _ => CL) ⟨fun _ tm h => some (tm, h)⟩ (fun f _ ih => lightO P G E all nt f ih) fs

def drop3 {α β γ : Type} (r : Option (α × β × γ)) : Option (α × β) := match r with
  | some (a, b, _) => some (a, b)
  | none => none

theorem seqL_eq (d : Option Nat) (nt : Nat) (made : Bool) (op : Op) (rest : CL) (call : Call) (tm : TM) (h : Hp) :
    (seqL d nt made (compA P G E op) rest).f call tm h = match aop P G op tm h with
      | some (v, h') => match putT tm d nt v with
        | some tm => rest.f call tm (match made with | true => h' | false => h)
        | none => none
      | none => none := by
  cases d with
  | none =>
    show (compA P G E op).f call tm h (fun _ h' => rest.f call tm (pickH made h' h)) = _
    rw [compA_eq]
    cases aop P G op tm h with
    | none => rfl
    | some p => obtain ⟨v, h'⟩ := p; cases made <;> rfl
  | some d =>
    show (Bool.rec (motive := fun _ => CL) ⟨fun _ _ _ => none⟩ ⟨fun call tm h => (compA P G E op).f call tm h (fun v h' => rest.f call ((setC (Nat.succ d) d).f tm v) (pickH made h' h))⟩ (Nat.ble (Nat.succ d) nt) : CL).f call tm h = (match aop P G op tm h with
      | some (v, h') => match (match Nat.ble (Nat.succ d) nt with | true => some (tm.set d v) | false => none) with
        | some tm => rest.f call tm (match made with | true => h' | false => h)
        | none => none
      | none => none)
    cases Nat.ble (Nat.succ d) nt with
    | false => cases aop P G op tm h <;> rfl
    | true =>
      show (compA P G E op).f call tm h (fun v h' => rest.f call ((setC (Nat.succ d) d).f tm v) (pickH made h' h)) = _
      rw [compA_eq]
      simp only [setC_set]
      cases aop P G op tm h with
      | none => rfl
      | some p => obtain ⟨v, h'⟩ := p; cases made <;> rfl

variable {P G E} in
theorem lightC_eq {ops : List Oper} {nt : Nat} (call : Call) : ∀ {fs : List Inf} {tm : TM} {h : Hp}, (∀ f ∈ fs, f.looks = tmpsOf f.o.op.operands.toList ++ guardTmp ops f.o.guard) → (lightC P G E ops nt fs).f call tm h = drop3 (runLight P G ops nt fs tm h)
  | [], tm, h, _ => rfl
  | f :: fs, tm, h, hl => by
    have ih : ∀ (tm : TM) (h : Hp), (lightC P G E ops nt fs).f call tm h = drop3 (runLight P G ops nt fs tm h) := fun tm h => lightC_eq call (fun g hg => hl g (List.mem_cons_of_mem _ hg))
    have hlk := hl f (List.mem_cons_self ..)
    have ag := subT_agree tm f.looks
    have ag1 : Agree (tmpsOf f.o.op.operands.toList) (subT tm f.looks .e) tm := ag.mono (fun t ht => by rw [hlk]; exact List.mem_append_left _ ht)
    have ag2 : Agree (guardTmp ops f.o.guard) (subT tm f.looks .e) tm := ag.mono (fun t ht => by rw [hlk]; exact List.mem_append_right _ ht)
    simp only [runLight, aopF_eq]
    rw [guardOk_agree ag2, aop_agree ag1]
    have main : (seqL f.o.dst nt (Nat.beq f.cls (nat_lit 1)) (compA P G E f.o.op) (lightC P G E ops nt fs)).f call tm h = drop3 (match aop P G f.o.op tm h with
        | some (v, h') => match putT tm f.o.dst nt v with
          | some tm' => match runLight P G ops nt fs tm' (match Nat.beq f.cls 1 with
              | true => h'
              | false => h) with
            | some (tm2, h2, rs) => some (tm2, h2, ⟨f, subT tm f.looks .e, true, v, h.next⟩ :: rs)
            | none => none
          | none => none
        | none => none) := by
      rw [seqL_eq]
      simp only [ih]
      cases aop P G f.o.op tm h with
      | none => rfl
      | some p =>
        obtain ⟨v, h'⟩ := p
        dsimp only
        cases putT tm f.o.dst nt v with
        | none => rfl
        | some tm' =>
          dsimp only
          generalize (match Nat.beq f.cls 1 with | true => h' | false => h) = hx
          cases runLight P G ops nt fs tm' hx with
          | none => rfl
          | some q => obtain ⟨a, b, c⟩ := q; rfl
    show (lightO P G E ops nt f (lightC P G E ops nt fs)).f call tm h = _
    unfold lightO
    cases hg : f.o.guard with
    | none => exact main
    | some g =>
      show guardC (guardOk ops tm (some g)) _ _ = _
      cases guardOk ops tm (some g) with
      | none => rfl
      | some q =>
        cases q with
        | true => exact main
        | false =>
          show (skipO f.o.dst nt (lightC P G E ops nt fs)).f call tm h = _
          rw [skipO_eq]
          simp only [ih]
          cases putT tm f.o.dst nt undef with
          | none => rfl
          | some tm' =>
            dsimp only
            cases runLight P G ops nt fs tm' h with
            | none => rfl
            | some q => obtain ⟨a, b, c⟩ := q; rfl

structure CD where
  f : Call → TM → Hp → Option (TM × List Hp)
def thenD (r : Option (TM × Hp)) (k : TM → Hp → Option (TM × List Hp)) : Option (TM × List Hp) := Option.rec (motive := fun _ => Option (TM × List Hp)) none (fun p => k p.1 p.2) r
def consD (h : Hp) (r : Option (TM × List Hp)) : Option (TM × List Hp) := Option.rec (motive := fun _ => Option (TM × List Hp)) none (fun p => some (p.1, h :: p.2)) r
def idC : CL := ⟨fun _ tm h => some (tm, h)⟩
def phases (ops : List Oper) (nt : Nat) (all ws0 : List Inf) (ws : List Inf) (s : Nat) : CD := List.rec (motive := fun _ => Nat → CD)
  (fun s => ⟨fun call tm h => thenD ((lightC P G E ops nt (light ws0 s all)).f call tm h) (fun tm h => some (tm, [h]))⟩)
  (fun f _ ih s => ⟨fun call tm h => thenD ((lightC P G E ops nt (light ws0 s all)).f call tm h) (fun tm h1 => thenD ((compOper P G E ops nt f.o idC).f call tm h1) (fun tm h2 => consD h1 ((ih (Nat.succ s)).f call tm h2)))⟩) ws s

variable {P G E} in
theorem compOper_id {ops : List Oper} {nt : Nat} {o : Oper} {call : Call} {tm : TM} {h : Hp} : (compOper P G E ops nt o idC).f call tm h = match guardOk ops tm o.guard with
    | some true => match stepF P G E call o.op tm h with
      | some (v, h) => match putT tm o.dst nt v with
        | some tm => some (tm, h)
        | none => none
      | none => none
    | some false => match putT tm o.dst nt undef with
      | some tm => some (tm, h)
      | none => none
    | none => none := by
  have := compOps_eq P G E ops nt call [o] tm h
  rw [runOps_cons] at this
  exact this

variable {P G E} in
theorem phases_eq {ops : List Oper} {nt : Nat} {all ws0 : List Inf} (hl : ∀ f ∈ all, f.looks = tmpsOf f.o.op.operands.toList ++ guardTmp ops f.o.guard) (call : Call) : ∀ {ws : List Inf} {s : Nat} {tm : TM} {h : Hp}, (∀ f ∈ ws, f ∈ all) →
    (phases P G E ops nt all ws0 ws s).f call tm h = drop3 (runWs P G E call ops nt all ws0 ws s tm h)
  | [], s, tm, h, _ => by
    simp only [runWs]
    show thenD ((lightC P G E ops nt (light ws0 s all)).f call tm h) (fun tm h => some (tm, [h])) = _
    rw [lightC_eq call (fun f hf => hl f (mem_light.1 hf).1)]
    cases runLight P G ops nt (light ws0 s all) tm h with
    | none => rfl
    | some q => obtain ⟨a, b, c⟩ := q; rfl
  | f :: ws, s, tm, h, hw => by
    simp only [runWs]
    show thenD ((lightC P G E ops nt (light ws0 s all)).f call tm h) (fun tm h1 => thenD ((compOper P G E ops nt f.o idC).f call tm h1) (fun tm h2 => consD h1 ((phases P G E ops nt all ws0 ws (s + 1)).f call tm h2))) = _
    rw [lightC_eq call (fun f hf => hl f (mem_light.1 hf).1)]
    cases runLight P G ops nt (light ws0 s all) tm h with
    | none => rfl
    | some q =>
      obtain ⟨tm1, h1, rs1⟩ := q
      show thenD ((compOper P G E ops nt f.o idC).f call tm1 h1) (fun tm h2 => consD h1 ((phases P G E ops nt all ws0 ws (s + 1)).f call tm h2)) = _
      have ih : ∀ (tm : TM) (h : Hp), (phases P G E ops nt all ws0 ws (s + 1)).f call tm h = drop3 (runWs P G E call ops nt all ws0 ws (s + 1) tm h) := fun tm h => phases_eq hl call (fun g hg => hw g (List.mem_cons_of_mem _ hg))
      simp only [ih]
      have hlk := hl f (hw f (List.mem_cons_self ..))
      have ag := subT_agree tm1 f.looks
      have ag1 : Agree (tmpsOf f.o.op.operands.toList) (subT tm1 f.looks .e) tm1 := ag.mono (fun t ht => by rw [hlk]; exact List.mem_append_left _ ht)
      have ag2 : Agree (guardTmp ops f.o.guard) (subT tm1 f.looks .e) tm1 := ag.mono (fun t ht => by rw [hlk]; exact List.mem_append_right _ ht)
      rw [compOper_id]
      simp only [stepF_eq]
      rw [guardOk_agree ag2, stepOp_agree ag1]
      cases guardOk ops tm1 f.o.guard with
      | none => rfl
      | some q =>
        cases q with
        | true =>
          dsimp only
          cases stepOp P G E call f.o tm1 h1 with
          | none => rfl
          | some p =>
            obtain ⟨v, h2⟩ := p
            dsimp only
            cases putT tm1 f.o.dst nt v with
            | none => rfl
            | some tm' =>
              show consD h1 (drop3 (runWs P G E call ops nt all ws0 ws (s + 1) tm' h2)) = _
              dsimp only
              cases runWs P G E call ops nt all ws0 ws (s + 1) tm' h2 with
              | none => rfl
              | some q => obtain ⟨a, b, c⟩ := q; rfl
        | false =>
          dsimp only
          cases putT tm1 f.o.dst nt undef with
          | none => rfl
          | some tm' =>
            show consD h1 (drop3 (runWs P G E call ops nt all ws0 ws (s + 1) tm' h1)) = _
            dsimp only
            cases runWs P G E call ops nt all ws0 ws (s + 1) tm' h1 with
            | none => rfl
            | some q => obtain ⟨a, b, c⟩ := q; rfl

end
end
end Go.Sim


namespace Go.Sim
noncomputable section

/-! ### the order that is run: nobody writes later what was looked at or written -/
def clash (f : Inf) (d : Nat) : Bool := match f.looks.contains d with
  | true => true
  | false => match f.o.dst with
    | some e => Nat.beq e d
    | none => false
def laterOk (f : Inf) : List Inf → Bool
  | [] => true
  | g :: l => match g.o.dst with
    | none => laterOk f l
    | some d => match clash f d with
      | true => false
      | false => laterOk f l
def selfOk (f : Inf) : Bool := match f.o.dst with
  | none => true
  | some d => match f.looks.contains d with
    | true => false
    | false => true
def ordOk : List Inf → Bool
  | [] => true
  | f :: l => match selfOk f, laterOk f l with
    | true, true => ordOk l
    | _, _ => false
def ordOf (all ws0 : List Inf) : List Inf → Nat → List Inf
  | [], s => light ws0 s all
  | f :: ws, s => light ws0 s all ++ f :: ordOf all ws0 ws (s + 1)

theorem laterOk_mem {f : Inf} : ∀ {l : List Inf}, laterOk f l = true → ∀ g ∈ l, ∀ d, g.o.dst = some d → d ∉ f.looks ∧ f.o.dst ≠ some d
  | [], _, g, hg, _, _ => by cases hg
  | x :: l, h, g, hg, d, hd => by
    simp only [laterOk] at h
    rcases List.mem_cons.1 hg with rfl | hg
    · rw [hd] at h
      dsimp only at h
      unfold clash at h
      cases hc : f.looks.contains d with
      | true => rw [hc] at h; cases h
      | false =>
        rw [hc] at h
        refine ⟨fun hm => (by rw [List.contains_iff_mem.2 hm] at hc; cases hc), fun he => ?_⟩
        rw [he] at h
        simp at h
    · cases hx : x.o.dst with
      | none => rw [hx] at h; exact laterOk_mem h g hg d hd
      | some e =>
        rw [hx] at h
        dsimp only at h
        cases hc : clash f e with
        | true => rw [hc] at h; cases h
        | false => rw [hc] at h; exact laterOk_mem h g hg d hd
theorem selfOk_dst {f : Inf} (h : selfOk f = true) {d : Nat} (hd : f.o.dst = some d) : d ∉ f.looks := by
  intro hm
  unfold selfOk at h
  rw [hd] at h
  dsimp only at h
  rw [List.contains_iff_mem.2 hm] at h
  cases h
theorem ordOk_cons {f : Inf} {l : List Inf} (h : ordOk (f :: l) = true) : selfOk f = true ∧ laterOk f l = true ∧ ordOk l = true := by
  simp only [ordOk] at h
  cases h1 : selfOk f with
  | false => rw [h1] at h; cases h
  | true =>
    cases h2 : laterOk f l with
    | false => rw [h1, h2] at h; cases h
    | true => rw [h1, h2] at h; exact ⟨rfl, rfl, h⟩

/-- what was seen of an operation holds at the end -/
def Kept (tmF : TM) (r : Rc) : Prop := Agree r.inf.looks r.sub tmF ∧ ∀ d, r.inf.o.dst = some d → tmF.get d = some r.v
theorem putT_at {tm tm' : TM} {dst : Option Nat} {nt : Nat} {v : Value} (h : putT tm dst nt v = some tm') : ∀ d, dst = some d → tm'.get d = some v := by
  intro d hd
  subst hd
  unfold putT at h
  dsimp only at h
  split at h
  · cases h; rw [Tr.get_set, if_pos rfl]
  · cases h
theorem kept_first {f : Inf} {l : List Inf} {tm tm1 tmF : TM} {nt : Nat} {v : Value} {go : Bool} {id : Nat} (h1 : selfOk f = true) (h2 : laterOk f l = true) (hp : putT tm f.o.dst nt v = some tm1)
    (hk : ∀ t, (∀ g ∈ l, g.o.dst ≠ some t) → tmF.get t = tm1.get t) : Kept tmF ⟨f, subT tm f.looks .e, go, v, id⟩ ∧ ∀ t, (∀ g ∈ f :: l, g.o.dst ≠ some t) → tmF.get t = tm.get t := by
  refine ⟨⟨fun t ht => ?_, fun d hd => ?_⟩, fun t ht => ?_⟩
  · have hne : f.o.dst ≠ some t := fun e => selfOk_dst h1 e ht
    have hl : ∀ g ∈ l, g.o.dst ≠ some t := fun g hg e => (laterOk_mem h2 g hg t e).1 ht
    rw [show (subT tm f.looks .e).get t = tm.get t from subT_agree tm f.looks t ht, hk t hl, putT_get hp hne]
  · have hl : ∀ g ∈ l, g.o.dst ≠ some d := fun g hg e => (laterOk_mem h2 g hg d e).2 hd
    rw [hk d hl]
    exact putT_at hp d hd
  · rw [hk t (fun g hg => ht g (List.mem_cons_of_mem _ hg)), putT_get hp (ht f (List.mem_cons_self ..))]

section
variable {P : Program} {G : Nat → Option (List Value)}
theorem light_kept {ops : List Oper} {nt : Nat} {R : List Inf} {tmF : TM} : ∀ {fs : List Inf} {tm tm' : TM} {h h' : Hp} {rs : List Rc}, runLight P G ops nt fs tm h = some (tm', h', rs) → ordOk (fs ++ R) = true →
    (∀ t, (∀ g ∈ R, g.o.dst ≠ some t) → tmF.get t = tm'.get t) → (∀ t, (∀ g ∈ fs ++ R, g.o.dst ≠ some t) → tmF.get t = tm.get t) ∧ ∀ r ∈ rs, Kept tmF r
  | [], tm, tm', h, h', rs, e, ho, hk => by
    simp only [runLight, Option.some.injEq, Prod.mk.injEq] at e
    obtain ⟨rfl, rfl, rfl⟩ := e
    exact ⟨hk, fun r hr => by cases hr⟩
  | f :: fs, tm, tm', h, h', rs, e, ho, hk => by
    obtain ⟨o1, o2, o3⟩ := ordOk_cons (l := fs ++ R) ho
    simp only [runLight] at e
    split at e
    · split at e
      · split at e
        · rename_i tm1 hp
          split at e
          · rename_i hr
            cases e
            obtain ⟨k1, k2⟩ := light_kept hr o3 hk
            obtain ⟨k3, k4⟩ := kept_first o1 o2 hp k1
            refine ⟨k4, fun r hr => ?_⟩
            rcases List.mem_cons.1 hr with rfl | hr
            · exact k3
            · exact k2 r hr
          · cases e
        · cases e
      · cases e
    · split at e
      · rename_i tm1 hp
        split at e
        · rename_i hr
          cases e
          obtain ⟨k1, k2⟩ := light_kept hr o3 hk
          obtain ⟨k3, k4⟩ := kept_first o1 o2 hp k1
          refine ⟨k4, fun r hr => ?_⟩
          rcases List.mem_cons.1 hr with rfl | hr
          · exact k3
          · exact k2 r hr
        · cases e
      · cases e
    · cases e

theorem ws_kept {E : FuncId → List Value → Option Value} {call : Call} {ops : List Oper} {nt : Nat} {all ws0 : List Inf} : ∀ {ws : List Inf} {s : Nat} {tm tmF : TM} {h : Hp} {hs : List Hp} {rs : List Rc},
    runWs P G E call ops nt all ws0 ws s tm h = some (tmF, hs, rs) → ordOk (ordOf all ws0 ws s) = true → (∀ t, (∀ g ∈ ordOf all ws0 ws s, g.o.dst ≠ some t) → tmF.get t = tm.get t) ∧ ∀ r ∈ rs, Kept tmF r
  | [], s, tm, tmF, h, hs, rs, e, ho => by
    simp only [runWs] at e
    split at e
    · rename_i tm1 h1 rs1 hr
      cases e
      have := light_kept (R := []) (tmF := tmF) hr (by rw [List.append_nil]; exact ho) (fun t _ => rfl)
      rw [List.append_nil] at this
      exact this
    · cases e
  | f :: ws, s, tm, tmF, h, hs, rs, e, ho => by
    simp only [runWs] at e
    split at e
    · cases e
    · rename_i tm1 h1 rs1 hr
      have hsplit : ∀ {tm2 : TM} {v : Value} {go : Bool} {rs2 : List Rc}, putT tm1 f.o.dst nt v = some tm2 → (∀ hs2 h2, runWs P G E call ops nt all ws0 ws (s + 1) tm2 h2 = some (tmF, hs2, rs2) →
          (∀ t, (∀ g ∈ ordOf all ws0 (f :: ws) s, g.o.dst ≠ some t) → tmF.get t = tm.get t) ∧ ∀ r ∈ rs1 ++ ⟨f, subT tm1 f.looks .e, go, v, 0⟩ :: rs2, Kept tmF r) := by
        intro tm2 v go rs2 hp hs2 h2 hr2
        have hoR : ordOk (f :: ordOf all ws0 ws (s + 1)) = true := by
          have : ∀ l : List Inf, ordOk (l ++ f :: ordOf all ws0 ws (s + 1)) = true → ordOk (f :: ordOf all ws0 ws (s + 1)) = true := by
            intro l
            induction l with
            | nil => exact id
            | cons x l ih => intro hh; exact ih (ordOk_cons hh).2.2
          exact this _ ho
        obtain ⟨o1, o2, o3⟩ := ordOk_cons hoR
        obtain ⟨k1, k2⟩ := ws_kept hr2 o3
        obtain ⟨k3, k4⟩ := kept_first (go := go) (id := 0) o1 o2 hp k1
        obtain ⟨k5, k6⟩ := light_kept hr ho k4
        refine ⟨k5, fun r hr => ?_⟩
        rcases List.mem_append.1 hr with hr | hr
        · exact k6 r hr
        · rcases List.mem_cons.1 hr with rfl | hr
          · exact k3
          · exact k2 r hr
      split at e
      · split at e
        · split at e
          · rename_i tm2 hp
            split at e
            · rename_i hr2
              cases e
              exact hsplit hp _ _ hr2
            · cases e
          · cases e
        · cases e
      · split at e
        · rename_i tm2 hp
          split at e
          · rename_i hr2
            cases e
            exact hsplit hp _ _ hr2
          · cases e
        · cases e
      · cases e
end

/-! ### equality of values, with few steps -/
def bandF (a b : Bool) : Bool := Bool.rec (motive := fun _ => Bool) false b a
theorem bandF_true {a b : Bool} (h : bandF a b = true) : a = true ∧ b = true := by cases a <;> cases b <;> first | exact ⟨rfl, rfl⟩ | cases h
def optNatEq (a b : Option Nat) : Bool := Option.rec (motive := fun _ => Bool) (Option.rec (motive := fun _ => Bool) true (fun _ => false) b) (fun x => Option.rec (motive := fun _ => Bool) false (fun y => Nat.beq x y) b) a
theorem optNatEq_eq {a b : Option Nat} (h : optNatEq a b = true) : a = b := by
  cases a <;> cases b
  · rfl
  · cases h
  · cases h
  · exact congrArg some (Nat.eq_of_beq_eq_true h)
def addrEq (a b : Addr) : Bool := Addr.rec (motive := fun _ => Bool) (fun b1 o1 s1 => Addr.rec (motive := fun _ => Bool) (fun b2 o2 s2 => bandF (Nat.beq b1 b2) (bandF (Nat.beq o1 o2) (optNatEq s1 s2))) b) a
theorem addrEq_eq {a b : Addr} (h : addrEq a b = true) : a = b := by
  obtain ⟨b1, o1, s1⟩ := a
  obtain ⟨b2, o2, s2⟩ := b
  obtain ⟨h1, h2⟩ := bandF_true (a := Nat.beq b1 b2) h
  obtain ⟨h3, h4⟩ := bandF_true h2
  rw [Nat.eq_of_beq_eq_true h1, Nat.eq_of_beq_eq_true h3, optNatEq_eq h4]
def optAddrEq (a b : Option Addr) : Bool := Option.rec (motive := fun _ => Bool) (Option.rec (motive := fun _ => Bool) true (fun _ => false) b) (fun x => Option.rec (motive := fun _ => Bool) false (fun y => addrEq x y) b) a
theorem optAddrEq_eq {a b : Option Addr} (h : optAddrEq a b = true) : a = b := by
  cases a <;> cases b
  · rfl
  · cases h
  · cases h
  · exact congrArg some (addrEq_eq h)
def slEq (a : Option Addr) (n c : Nat) (b : Value) : Bool := VS.rec (motive := fun _ => Bool) false (fun a' n' c' => bandF (Nat.beq n n') (bandF (Nat.beq c c') (optAddrEq a a'))) (asSlice b)
def bEq (x y : Bool) : Bool := Bool.rec (motive := fun _ => Bool) (notF y) y x
inductive VV where
  | int (k : IntKind) (n : Int)
  | bool (b : Bool)
  | ptr (a : Addr)
  | slice (a : Option Addr) (n c : Nat)
  | agg (l : List Value)
  | other
def asV (v : Value) : VV := Value.rec (motive_1 := fun _ => VV) (motive_2 := fun _ => VV) (motive_3 := fun _ => VV) (fun b => .bool b) (fun k n => .int k n) (fun _ _ => .other) (fun _ _ _ => .other) (fun _ => .other) (fun a => Option.rec (motive := fun _ => VV) .other (fun a => .ptr a) a) (fun a n c => .slice a n c) (fun _ => .other) (fun _ => .other) (fun _ _ _ _ _ => .other) .other (fun _ _ _ => .other) .other (fun l _ => .agg l.toList) (fun _ _ => .other) (fun _ _ => .other) .other (fun _ _ _ _ => .other) v
/-- of two values that are no aggregates; else by the long way -/
def vEq1 (a b : Value) : Bool := VV.rec (motive := fun _ => Bool)
  (fun k n => intK b false (fun l m => bandF (ikEq k l) (eqF n m)))
  (fun x => VB.rec (motive := fun _ => Bool) false (fun y => bEq x y) (asBool b))
  (fun x => VP.rec (motive := fun _ => Bool) false (fun y => addrEq x y) (asPtr b))
  (fun x n c => slEq x n c b) (fun _ => vEq a b) (vEq a b) (asV a)
theorem asInt_at {v : Value} {k : IntKind} {n : Int} (h : asInt v = .at k n) : v = .int k n := by
  cases v <;> first | (cases h; rfl) | cases h
theorem asBool_at {v : Value} {b : Bool} (h : asBool v = .at b) : v = .bool b := by
  cases v <;> first | (cases h; rfl) | cases h
theorem asPtr_at {v : Value} {a : Addr} (h : asPtr v = .at a) : v = .pointer (some a) := by
  cases v with
  | pointer x => cases x with
    | none => cases h
    | some x => cases h; rfl
  | _ => cases h
theorem asSlice_at {v : Value} {a : Option Addr} {n c : Nat} (h : asSlice v = .at a n c) : v = .slice a n c := by
  cases v <;> first | (cases h; rfl) | cases h
theorem vEq1_eq {a b : Value} (h : vEq1 a b = true) : a = b := by
  have slow : vEq a b = true → a = b := fun h => vEq_eq a b h
  cases a with
  | int k n =>
    replace h : intK b false (fun l m => bandF (ikEq k l) (eqF n m)) = true := h
    unfold intK at h
    cases e : asInt b with
    | no => rw [e] at h; cases h
    | «at» l m =>
      rw [e] at h
      obtain ⟨h1, h2⟩ := bandF_true (a := ikEq k l) h
      rw [eqF_eq] at h2
      rw [asInt_at e, ikEq_eq h1, eq_of_beq h2]
  | bool x =>
    replace h : VB.rec (motive := fun _ => Bool) false (fun y => bEq x y) (asBool b) = true := h
    cases e : asBool b with
    | no => rw [e] at h; cases h
    | «at» y =>
      rw [e] at h
      rw [asBool_at e]
      cases x <;> cases y <;> first | rfl | cases h
  | pointer p =>
    cases p with
    | none => exact slow h
    | some x =>
      replace h : VP.rec (motive := fun _ => Bool) false (fun y => addrEq x y) (asPtr b) = true := h
      cases e : asPtr b with
      | no => rw [e] at h; cases h
      | «at» y => rw [e] at h; rw [asPtr_at e, addrEq_eq h]
  | slice x n c =>
    replace h : slEq x n c b = true := h
    unfold slEq at h
    cases e : asSlice b with
    | no => rw [e] at h; cases h
    | «at» y n' c' =>
      rw [e] at h
      obtain ⟨h1, h2⟩ := bandF_true (a := Nat.beq n n') h
      obtain ⟨h3, h4⟩ := bandF_true (a := Nat.beq c c') h2
      rw [asSlice_at e, Nat.eq_of_beq_eq_true h1, Nat.eq_of_beq_eq_true h3, optAddrEq_eq h4]
  | agg l => cases l; exact slow h
  | _ => exact slow h
def listEq (a b : List Value) : Bool := List.rec (motive := fun _ => List Value → Bool) (fun b => List.rec (motive := fun _ => Bool) true (fun _ _ _ => false) b) (fun x _ ih b => List.rec (motive := fun _ => Bool) false (fun y l _ => bandF (vEq1 x y) (ih l)) b) a b
theorem listEq_eq : ∀ {a b : List Value}, listEq a b = true → a = b
  | [], [], _ => rfl
  | [], _ :: _, h => by cases h
  | _ :: _, [], h => by cases h
  | x :: a, y :: b, h => by
    obtain ⟨h1, h2⟩ := bandF_true (a := vEq1 x y) (b := listEq a b) h
    rw [vEq1_eq h1, listEq_eq h2]
def vEqF (a b : Value) : Bool := VA.rec (motive := fun _ => Bool) (vEq1 a b) (fun l => VA.rec (motive := fun _ => Bool) false (fun l' => listEq l l') (asAgg b)) (asAgg a)
theorem asAgg_at {v : Value} {l : List Value} (h : asAgg v = .at l) : v = .agg ⟨l⟩ := by
  cases v <;> first | (cases h; rfl) | cases h
theorem vEqF_eq {a b : Value} (h : vEqF a b = true) : a = b := by
  unfold vEqF at h
  cases e : asAgg a with
  | no => rw [e] at h; exact vEq1_eq h
  | «at» l =>
    rw [e] at h
    replace h : VA.rec (motive := fun _ => Bool) false (fun l' => listEq l l') (asAgg b) = true := h
    cases e2 : asAgg b with
    | no => rw [e2] at h; cases h
    | «at» l' => rw [e2] at h; rw [asAgg_at e, asAgg_at e2, listEq_eq h]

/-! ### what is asked behind the run -/
structure CK where
  f : TM → List Hp → Bool
section
variable (P : Program) (G : Nat → Option (List Value)) (E : FuncId → List Value → Option Value)
def noCall : Call := fun _ _ _ => none
def isS {α : Type} (r : Option α) : Bool := Option.rec (motive := fun _ => Bool) false (fun _ => true) r
/-- the operation yields this value in this memory -/
def chkAt (o : Op) (tm : TM) (u : Value) (H : Hp) : Bool := isS ((compA P G E o).f noCall tm H (fun v _ => Bool.rec (motive := fun _ => Ans) none (some (tm, H)) (vEqF v u)))
theorem chkAt_aop {o : Op} {tm : TM} {u : Value} {H : Hp} (h : chkAt P G E o tm u H = true) : ∃ h', aop P G o tm H = some (u, h') := by
  unfold chkAt at h
  rw [compA_eq] at h
  cases e : aop P G o tm H with
  | none => rw [e] at h; cases h
  | some p =>
    obtain ⟨v, h'⟩ := p
    rw [e] at h
    replace h : isS (Bool.rec (motive := fun _ => Ans) none (some (tm, H)) (vEqF v u) : Ans) = true := h
    cases e2 : vEqF v u with
    | false => rw [e2] at h; cases h
    | true => exact ⟨h', by rw [vEqF_eq e2]⟩
def chkHs (o : Op) (tm : TM) (u : Value) (lo hi : Nat) (hs : List Hp) (s : Nat) : Bool := List.rec (motive := fun _ => Nat → Bool) (fun _ => true) (fun H _ ih s =>
  Bool.rec (motive := fun _ => Bool) (ih (Nat.succ s)) (bandF (chkAt P G E o tm u H) (ih (Nat.succ s))) (bandF (Nat.ble lo s) (Nat.ble s hi))) hs s
theorem chkHs_get {o : Op} {tm : TM} {u : Value} {lo hi : Nat} : ∀ {hs : List Hp} {s q : Nat} {H : Hp}, chkHs P G E o tm u lo hi hs s = true → hs[q]? = some H → lo ≤ s + q → s + q ≤ hi → ∃ h', aop P G o tm H = some (u, h')
  | [], s, q, H, _, hq, _, _ => by simp at hq
  | x :: hs, s, q, H, hk, hq, h1, h2 => by
    replace hk : Bool.rec (motive := fun _ => Bool) (chkHs P G E o tm u lo hi hs (s + 1)) (bandF (chkAt P G E o tm u x) (chkHs P G E o tm u lo hi hs (s + 1))) (bandF (Nat.ble lo s) (Nat.ble s hi)) = true := hk
    cases q with
    | zero =>
      cases hq
      rw [Nat.ble_eq_true_of_le (by omega : lo ≤ s), Nat.ble_eq_true_of_le (by omega : s ≤ hi)] at hk
      exact chkAt_aop P G E (bandF_true (a := chkAt P G E o tm u x) hk).1
    | succ q =>
      have tail : chkHs P G E o tm u lo hi hs (s + 1) = true := by
        revert hk
        cases bandF (Nat.ble lo s) (Nat.ble s hi) with
        | false => exact id
        | true => exact fun hk => (bandF_true (a := chkAt P G E o tm u x) hk).2
      exact chkHs_get tail (by simpa using hq) (by omega) (by omega)
def chk1 (ops : List Oper) (ws : List Inf) (f : Inf) (d : Nat) (tm : TM) (hs : List Hp) : Bool := match guardOk ops tm f.o.guard with
  | some true => match tm.get d with
    | some u => chkHs P G E f.o.op tm u (cntW f.mask ws) (cntFree f.i ws) hs (nat_lit 0)
    | none => false
  | some false => true
  | none => false
def plainInf (f : Inf) : Bool := match Nat.beq f.cls (nat_lit 0) with
  | true => memFree f.o.op
  | false => true
def chkC (ops : List Oper) (ws : List Inf) (fs : List Inf) : CK := List.rec (motive := fun _ => CK) ⟨fun _ _ => true⟩ (fun f _ ih => match plainInf f with
  | true => ih
  | false => match f.o.dst with
    | some d => ⟨fun tm hs => bandF (chk1 P G E ops ws f d tm hs) (ih.f tm hs)⟩
    | none => ⟨fun _ _ => false⟩) fs
theorem chkC_mem {ops : List Oper} {ws : List Inf} {tm : TM} {hs : List Hp} : ∀ {fs : List Inf}, (chkC P G E ops ws fs).f tm hs = true → ∀ f ∈ fs, plainInf f = false → ∃ d, f.o.dst = some d ∧ chk1 P G E ops ws f d tm hs = true
  | [], _, f, hf, _ => by cases hf
  | g :: fs, h, f, hf, hp => by
    replace h : (match plainInf g with
      | true => chkC P G E ops ws fs
      | false => match g.o.dst with
        | some d => ⟨fun tm hs => bandF (chk1 P G E ops ws g d tm hs) ((chkC P G E ops ws fs).f tm hs)⟩
        | none => ⟨fun _ _ => false⟩ : CK).f tm hs = true := h
    cases e : plainInf g with
    | true =>
      rw [e] at h
      rcases List.mem_cons.1 hf with rfl | hf
      · rw [e] at hp; cases hp
      · exact chkC_mem h f hf hp
    | false =>
      rw [e] at h
      dsimp only at h
      cases ed : g.o.dst with
      | none => rw [ed] at h; cases h
      | some d =>
        rw [ed] at h
        obtain ⟨h1, h2⟩ := bandF_true (a := chk1 P G E ops ws g d tm hs) h
        rcases List.mem_cons.1 hf with rfl | hf
        · exact ⟨d, ed, h1⟩
        · exact chkC_mem h2 f hf hp

/-! ### a region that draws its order -/
def finD (c : CK) (r : Option (TM × List Hp)) : Option (TM × Hp) := match r with
  | some (tm, hs) => match c.f tm hs with
    | true => match lastH hs with
      | some h => some (tm, h)
      | none => none
    | false => none
  | none => none
def drawnC' (ops : Array Oper) (nt : Nat) (all ws : List Inf) : CL := match infsOk all all with
  | true => match chainW ws with
    | true => match ordOk (ordOf all ws ws 0) with
      | true => ⟨fun call tm h => finD (chkC P G E ops.toList ws all) ((phases P G E ops.toList nt all ws ws (nat_lit 0)).f call tm h)⟩
      | false => ⟨fun call tm h => drawn P G E call ops nt tm h⟩
    | false => ⟨fun call tm h => drawn P G E call ops nt tm h⟩
  | false => ⟨fun call tm h => drawn P G E call ops nt tm h⟩
def drawnC (ops : Array Oper) (nt : Nat) : CL := drawnC' P G E ops nt (infs P ops.toList) (heavy (infs P ops.toList))
end

theorem drawnC_sound {P : Program} {G : Nat → Option (List Value)} {E : FuncId → List Value → Option Value} (hN : NamesOk P) (hX : ExtOk P E) (ops : Array Oper) : AnyOk P G ops (fun call nt tm h => (drawnC P G E ops nt).f call tm h) := by
  intro call hC nt tm h tm' h' e ρ m F K a w r rt Q hq
  have slow : drawn P G E call ops nt tm h = some (tm', h') → wpAnyIn (FR ρ) 0 P .any ops Q ops.size (Array.replicate ops.size false) a { w with drawn := w.drawn + 1 } := fun e => drawn_sound hN hX ops call hC nt tm h tm' h' e ρ m F K a w r rt Q hq
  dsimp only at e
  unfold drawnC drawnC' at e
  cases e1 : infsOk (infs P ops.toList) (infs P ops.toList) with
  | false => rw [e1] at e; exact slow e
  | true =>
    rw [e1] at e
    dsimp only at e
    cases e2 : chainW (heavy (infs P ops.toList)) with
    | false => rw [e2] at e; exact slow e
    | true =>
      rw [e2] at e
      dsimp only at e
      cases e3 : ordOk (ordOf (infs P ops.toList) (heavy (infs P ops.toList)) (heavy (infs P ops.toList)) 0) with
      | false => rw [e3] at e; exact slow e
      | true =>
        rw [e3] at e
        dsimp only at e
        have hlk : ∀ f ∈ infs P ops.toList, f.looks = tmpsOf f.o.op.operands.toList ++ guardTmp ops.toList f.o.guard := fun f hf => (infs_mem hf).2.2.2.2
        rw [phases_eq hlk call (fun f hf => (mem_heavy.1 hf).1)] at e
        cases hrun : runWs P G E call ops.toList nt (infs P ops.toList) (heavy (infs P ops.toList)) (heavy (infs P ops.toList)) 0 tm h with
        | none => rw [hrun] at e; cases e
        | some q =>
          obtain ⟨tmF, hsF, rsF⟩ := q
          rw [hrun] at e
          replace e : (match (chkC P G E ops.toList (heavy (infs P ops.toList)) (infs P ops.toList)).f tmF hsF with
            | true => match lastH hsF with
              | some h => some (tmF, h)
              | none => none
            | false => none) = some (tm', h') := e
          cases hc : (chkC P G E ops.toList (heavy (infs P ops.toList)) (infs P ops.toList)).f tmF hsF with
          | false => rw [hc] at e; cases e
          | true =>
            rw [hc] at e
            dsimp only at e
            cases hlast : lastH hsF with
            | none => rw [hlast] at e; cases e
            | some hE =>
              rw [hlast] at e
              cases e
              obtain ⟨_, hkept⟩ := ws_kept hrun e3
              refine region_sound hN hX hC e1 e2 hrun (fun rc hrc => ?_) hlast r rt hq
              obtain ⟨k1, k2⟩ := hkept rc hrc
              refine ⟨fun t ht v hv => by rw [← k1 t ht]; exact hv, k2, fun hcl hgo q H hq h1 h2 => ?_⟩
              obtain ⟨tr, _⟩ := runWs_spec (fun f hf => (infs_mem hf).2.2.1) (fun f hf => (mem_heavy.1 hf).1) hrun
              obtain ⟨hin, hgd, hap⟩ := tr.light_rc (fun f hf => (mem_heavy.1 hf).2) rc hrc hcl
              have hlooks := hlk rc.inf hin
              have ag1 : Agree (tmpsOf rc.inf.o.op.operands.toList) rc.sub tm' := k1.mono (fun t ht => by rw [hlooks]; exact List.mem_append_left _ ht)
              have ag2 : Agree (guardTmp ops.toList rc.inf.o.guard) rc.sub tm' := k1.mono (fun t ht => by rw [hlooks]; exact List.mem_append_right _ ht)
              cases hpl : plainInf rc.inf with
              | true =>
                unfold plainInf at hpl
                rw [hcl] at hpl
                obtain ⟨hp, hp', ha⟩ := hap hgo
                exact memFree_aop (show memFree rc.inf.o.op = true from hpl) ha H
              | false =>
                obtain ⟨d, hd, hk⟩ := chkC_mem P G E hc rc.inf hin hpl
                unfold chk1 at hk
                rw [← guardOk_agree ag2, hgd, hgo] at hk
                dsimp only at hk
                rw [k2 d hd] at hk
                rw [aop_agree ag1]
                exact chkHs_get P G E hk hq (by omega) (by omega)
end
end Go.Sim


namespace Go.Sim
noncomputable section

/-! ## A drawn region whose last operation waits for all others: that one is run behind the others -/
def waitsAll : Nat → List Nat → Bool
  | 0, _ => true
  | n + 1, l => match l.contains n with
    | true => waitsAll n l
    | false => false
def belowL : Nat → List Oper → Bool
  | _, [] => true
  | i, o :: l => match predsOk i (predsL o.after.toList) with
    | true => belowL (i + 1) l
    | false => false
def guardsLt (n : Nat) : List Oper → Bool
  | [] => true
  | o :: l => match o.guard with
    | none => guardsLt n l
    | some (j, _) => match Nat.blt j n with
      | true => guardsLt n l
      | false => false
def peel (ops : Array Oper) : Option (List Oper × Oper) := match ops.toList.getLast? with
  | some z => match waitsAll ops.toList.dropLast.length (predsL z.after.toList), belowL 0 ops.toList, guardsLt ops.toList.dropLast.length ops.toList.dropLast with
    | true, true, true => some (ops.toList.dropLast, z)
    | _, _, _ => none
  | none => none

section
variable (P : Program) (G : Nat → Option (List Value)) (E : FuncId → List Value → Option Value)
def tailC (A R : CL) : CL := ⟨fun call tm h => Option.rec (motive := fun _ => Option (TM × Hp)) none (fun p => R.f call p.1 p.2) (A.f call tm h)⟩
def drawnZ (k : Nat) : Array Oper → Nat → CL := Nat.rec (motive := fun _ => Array Oper → Nat → CL) (fun ops nt => drawnC P G E ops nt) (fun _ ih ops nt => match infsOk (infs P ops.toList) (infs P ops.toList) with
  | true => drawnC P G E ops nt
  | false => match peel ops with
    | some (A, z) => tailC (ih ⟨A⟩ nt) (compOps P G E ops.toList nt [z])
    | none => drawnC P G E ops nt) k
def drawnD (ops : Array Oper) (nt : Nat) : CL := drawnZ P G E (nat_lit 6) ops nt
end

variable {P : Program} {G : Nat → Option (List Value)} {E : FuncId → List Value → Option Value}
theorem waitsAll_mem {l : List Nat} : ∀ {n : Nat}, waitsAll n l = true → ∀ p, p < n → p ∈ l
  | 0, _, p, hp => by omega
  | n + 1, h, p, hp => by
    simp only [waitsAll] at h
    split at h
    · rename_i hc
      rcases Nat.lt_succ_iff_lt_or_eq.1 hp with hp | rfl
      · exact waitsAll_mem h p hp
      · simpa using hc
    · cases h
theorem belowL_get : ∀ {l : List Oper} {i : Nat}, belowL i l = true → ∀ j o, l[j]? = some o → ∀ p ∈ predsL o.after.toList, p < i + j
  | [], i, h, j, o, ho => by simp at ho
  | x :: l, i, h, j, o, ho => by
    simp only [belowL] at h
    split at h
    · rename_i hp
      cases j with
      | zero => cases ho; exact fun p hpp => predsOk_mem hp p hpp
      | succ j =>
        intro p hpp
        have := belowL_get h j o (by simpa using ho) p hpp
        omega
    · cases h
theorem guardsLt_get {n : Nat} : ∀ {l : List Oper}, guardsLt n l = true → ∀ o ∈ l, ∀ j b, o.guard = some (j, b) → j < n
  | [], h, o, ho => by cases ho
  | x :: l, h, o, ho => by
    intro j b hg
    simp only [guardsLt] at h
    rcases List.mem_cons.1 ho with rfl | ho
    · rw [hg] at h
      dsimp only at h
      split at h
      · rename_i hl; exact bltT hl
      · cases h
    · cases hx : x.guard with
      | none => rw [hx] at h; exact guardsLt_get h o ho j b hg
      | some q =>
        rw [hx] at h
        dsimp only at h
        split at h
        · exact guardsLt_get h o ho j b hg
        · cases h

section
variable {A : List Oper} {z : Oper} {ρ : Option Nat} {Q : Exit → Act → World → Prop} {K : Act → World → Prop}

theorem uponIn_then {o : Oper} {a : Act} {next : Act → World → Prop} {F : Fence} {n : Nat} (r : Result Next) : o.uponIn F n P a next (Exit.then K Q) r = o.uponIn F n P a next Q r := by
  cases r with
  | ok x w => cases x <;> rfl
  | halt x w => cases x <;> rfl
theorem wpIn_then {o : Oper} {a : Act} {w : World} {next : Act → World → Prop} {F : Fence} {n : Nat} (h : o.wpIn F n P a w next (Exit.then K Q)) : o.wpIn F n P a w next Q := by
  refine ⟨h.1, ?_⟩
  rw [← uponIn_then (K := K)]
  exact h.2

theorem push_get {i : Nat} (hi : i < A.length) : (⟨A ++ [z]⟩ : Array Oper)[i]? = (⟨A⟩ : Array Oper)[i]? := by
  simp [List.getElem?_append_left hi]
theorem push_last : (⟨A ++ [z]⟩ : Array Oper)[A.length]? = some z := by simp

theorem wpOpIn_push {i : Nat} (hi : i < A.length) (hg : ∀ o ∈ A, ∀ j b, o.guard = some (j, b) → j < A.length) {K1 K2 : Act → World → Prop} {a : Act} {w : World} (hk : ∀ a w, K1 a w → K2 a w)
    (h : wpOpIn (FR ρ) 0 P ⟨A⟩ (Exit.then K Q) i K1 a w) : wpOpIn (FR ρ) 0 P ⟨A ++ [z]⟩ Q i K2 a w := by
  have h := wpOpIn_mono hk h
  unfold wpOpIn at h ⊢
  rw [push_get hi]
  cases ho : (⟨A⟩ : Array Oper)[i]? with
  | none => simp only [ho] at h; exact h
  | some o =>
    simp only [ho] at h ⊢
    have hmem : o ∈ A := by
      have : A[i]? = some o := by simpa using ho
      exact List.mem_of_getElem? this
    have hw : Region.wanted o (yielded ⟨A ++ [z]⟩ a.tmps) = Region.wanted o (yielded ⟨A⟩ a.tmps) := by
      unfold Region.wanted
      cases hgd : o.guard with
      | none => rfl
      | some q =>
        obtain ⟨j, b⟩ := q
        have := hg o hmem j b hgd
        simp only [yielded, push_get this]
    rw [hw]
    split
    · rename_i hx; rw [if_pos hx] at h; exact wpIn_then h
    · rename_i hx; rw [if_neg hx] at h; exact h

theorem getD_push_lt {L : Array Bool} {i : Nat} {d : Bool} (hi : i < L.size) : (L.push false).getD i d = L.getD i d := by
  simp [Array.getElem?_push, Nat.ne_of_lt hi]
theorem getD_push_eq {L : Array Bool} {d : Bool} : (L.push false).getD L.size d = false := by simp
theorem getD_in {L : Array Bool} {i : Nat} (d e : Bool) (hi : i < L.size) : L.getD i d = L.getD i e := by simp [hi]

theorem any_push (hz : ∀ p, p < A.length → p ∈ predsL z.after.toList) (hb : ∀ i o, A[i]? = some o → ∀ p ∈ predsL o.after.toList, p < i) (hg : ∀ o ∈ A, ∀ j b, o.guard = some (j, b) → j < A.length)
    (hzb : ∀ p ∈ predsL z.after.toList, p < A.length)
    (hK : ∀ a w, K a w → wpOpIn (FR ρ) 0 P ⟨A ++ [z]⟩ Q A.length (Q .normal) a w) : ∀ (fuel : Nat) (L : Array Bool) (a : Act) (w : World), L.size = A.length →
    wpAnyIn (FR ρ) 0 P .any ⟨A⟩ (Exit.then K Q) fuel L a w → wpAnyIn (FR ρ) 0 P .any ⟨A ++ [z]⟩ Q (fuel + 1) (L.push false) a w := by
  -- who is ready
  have rdy : ∀ (L : Array Bool) i, L.size = A.length → i < A.length → (i ∈ Region.ready .any ⟨A ++ [z]⟩ (L.push false) ↔ i ∈ Region.ready .any ⟨A⟩ L) := by
    intro L i hL hi
    rw [mem_ready, mem_ready, push_get hi, getD_push_lt (by omega)]
    constructor
    · rintro ⟨h1, o, ho, h2⟩
      refine ⟨h1, o, ho, fun e he hbd => ?_⟩
      have hA : A[i]? = some o := by simpa using ho
      have := hb i o hA e.on (mem_predsL.2 ⟨e, by simpa using he, hbd, rfl⟩)
      rw [← getD_push_lt (L := L) (by omega)]
      exact h2 e he hbd
    · rintro ⟨h1, o, ho, h2⟩
      refine ⟨h1, o, ho, fun e he hbd => ?_⟩
      have hA : A[i]? = some o := by simpa using ho
      have := hb i o hA e.on (mem_predsL.2 ⟨e, by simpa using he, hbd, rfl⟩)
      rw [getD_push_lt (L := L) (by omega)]
      exact h2 e he hbd
  have all : ∀ (L : Array Bool), L.size = A.length → Region.ready .any ⟨A⟩ L = [] → ∀ n i, i < n → i < A.length → L.getD i false = true := by
    intro L hL hr n
    induction n with
    | zero => intro i h; omega
    | succ n ih =>
      intro i hn hi
      cases hl : L.getD i false with
      | true => rfl
      | false =>
        exfalso
        have : i ∈ Region.ready .any ⟨A⟩ L := by
          refine mem_ready.2 ⟨by rw [getD_in true false (by omega)]; exact hl, A[i], by simp [hi], fun e he hbd => ?_⟩
          have := hb i A[i] (by simp [hi]) e.on (mem_predsL.2 ⟨e, by simpa using he, hbd, rfl⟩)
          exact ih e.on (by omega) (by omega)
        rw [hr] at this
        cases this
  have last : ∀ (L : Array Bool), L.size = A.length → (∀ i, i < A.length → L.getD i false = true) → A.length ∈ Region.ready .any ⟨A ++ [z]⟩ (L.push false) := by
    intro L hL hl
    refine mem_ready.2 ⟨by rw [← hL]; exact getD_push_eq, z, push_last, fun e he hbd => ?_⟩
    have := hzb e.on (mem_predsL.2 ⟨e, by simpa using he, hbd, rfl⟩)
    rw [getD_push_lt (by omega)]
    exact hl _ this
  have fin : ∀ (L : Array Bool) fuel a w, L.size = A.length → (∀ i, i < A.length → L.getD i false = true) → Q .normal a w → wpAnyIn (FR ρ) 0 P .any ⟨A ++ [z]⟩ Q fuel ((L.push false).setIfInBounds A.length true) a w := by
    intro L fuel a w hL hl hq
    have hr : Region.ready .any ⟨A ++ [z]⟩ ((L.push false).setIfInBounds A.length true) = [] := by
      cases hr : Region.ready .any ⟨A ++ [z]⟩ ((L.push false).setIfInBounds A.length true) with
      | nil => rfl
      | cons j t =>
        exfalso
        obtain ⟨h1, o, ho, _⟩ := mem_ready.1 (show j ∈ Region.ready .any ⟨A ++ [z]⟩ ((L.push false).setIfInBounds A.length true) by rw [hr]; exact List.mem_cons_self ..)
        have hlt := getElem?_lt' ho
        simp at hlt
        by_cases hj : j = A.length
        · subst hj
          simp [← hL] at h1
        · have hj2 : j < A.length := by omega
          have := hl j hj2
          rw [← getD_push_lt (L := L) (d := false) (by omega), getD_in false true (by simp; omega)] at this
          simp only [Array.getD_eq_getD_getElem?] at this h1
          rw [Array.getElem?_setIfInBounds, if_neg (by omega)] at h1
          rw [this] at h1
          cases h1
    cases fuel with
    | zero => exact ⟨hr, hq⟩
    | succ fuel => exact ⟨fun _ => hq, fun i hi => by rw [hr] at hi; cases hi⟩
  have atEnd : ∀ (L : Array Bool) fuel a w, L.size = A.length → Region.ready .any ⟨A⟩ L = [] → K a w → wpAnyIn (FR ρ) 0 P .any ⟨A ++ [z]⟩ Q (fuel + 1) (L.push false) a w := by
    intro L fuel a w hL hr hk
    have hl := fun i => all L hL hr (i + 1) i (Nat.lt_succ_self _)
    refine ⟨fun hr2 => ?_, fun i hi => ?_⟩
    · have := last L hL hl
      rw [hr2] at this
      cases this
    · obtain ⟨h1, o, ho, _⟩ := mem_ready.1 hi
      have hlt := getElem?_lt' ho
      simp at hlt
      by_cases hi2 : i < A.length
      · rw [getD_push_lt (by omega), getD_in true false (by omega), hl i hi2] at h1
        cases h1
      · obtain rfl : i = A.length := by omega
        exact wpOpIn_mono (fun a w hq => fin L fuel a w hL hl hq) (hK a w hk)
  intro fuel
  induction fuel with
  | zero =>
    intro L a w hL h
    exact atEnd L 0 a w hL h.1 h.2
  | succ fuel ih =>
    intro L a w hL h
    by_cases hr : Region.ready .any ⟨A⟩ L = []
    · exact atEnd L _ a w hL hr (h.1 hr)
    · refine ⟨fun hr2 => ?_, fun i hi => ?_⟩
      · exfalso
        cases hx : Region.ready .any ⟨A⟩ L with
        | nil => exact hr hx
        | cons j t =>
          have hj : j ∈ Region.ready .any ⟨A⟩ L := by rw [hx]; exact List.mem_cons_self ..
          obtain ⟨_, o, ho, _⟩ := mem_ready.1 hj
          have hlt := getElem?_lt' ho
          have hlt : j < A.length := by simpa using hlt
          have := (rdy L j hL hlt).2 hj
          rw [hr2] at this
          cases this
      · obtain ⟨h1, o, ho, h2⟩ := mem_ready.1 hi
        have hlt := getElem?_lt' ho
        simp at hlt
        by_cases hi2 : i < A.length
        · have hiA := (rdy L i hL hi2).1 hi
          refine wpOpIn_push hi2 hg (fun a w hh => ?_) (h.2 i hiA)
          have hs : (L.push false).setIfInBounds i true = (L.setIfInBounds i true).push false := by
            apply Array.ext'
            simp [List.set_append, hL, hi2]
          rw [hs]
          exact ih _ a w (by simp [hL]) hh
        · exfalso
          obtain rfl : i = A.length := by omega
          obtain rfl : z = o := by rw [push_last] at ho; exact Option.some.inj ho
          refine hr ?_
          cases hx : Region.ready .any ⟨A⟩ L with
          | nil => rfl
          | cons j t =>
            exfalso
            obtain ⟨h3, o2, ho2, _⟩ := mem_ready.1 (show j ∈ Region.ready .any ⟨A⟩ L by rw [hx]; exact List.mem_cons_self ..)
            have hlt2 := getElem?_lt' ho2
            have hlt2 : j < A.length := by simpa using hlt2
            obtain ⟨e, he, hbd, hon⟩ := mem_predsL.1 (hz j hlt2)
            have := h2 e (by simpa using he) hbd
            rw [hon, getD_push_lt (by omega), getD_in false true (by omega), h3] at this
            cases this
end

theorem drawnZ_sound (hN : NamesOk P) (hX : ExtOk P E) : ∀ (k : Nat) (ops : Array Oper), AnyOk P G ops (fun call nt tm h => (drawnZ P G E k ops nt).f call tm h)
  | 0, ops => drawnC_sound hN hX ops
  | k + 1, ops => by
    intro call hC nt tm h tm' h' e ρ m F K a w r rt Q hq
    replace e : (match infsOk (infs P ops.toList) (infs P ops.toList) with
      | true => drawnC P G E ops nt
      | false => match peel ops with
        | some (A, z) => tailC (drawnZ P G E k ⟨A⟩ nt) (compOps P G E ops.toList nt [z])
        | none => drawnC P G E ops nt).f call tm h = some (tm', h') := e
    split at e
    · exact drawnC_sound hN hX ops call hC nt tm h tm' h' e ρ m F K a w r rt Q hq
    · split at e
      · rename_i A z hp
        unfold peel at hp
        split at hp
        · rename_i z2 hlast
          split at hp
          · rename_i c1 c2 c3
            cases hp
            have hops : ops = ⟨ops.toList.dropLast ++ [z]⟩ := by
              apply Array.ext'
              obtain ⟨ys, hys⟩ := List.getLast?_eq_some_iff.1 hlast
              rw [hys, List.dropLast_concat]
            generalize ops.toList.dropLast = A at *
            subst hops
            have hz := waitsAll_mem c1
            have hbl := belowL_get c2
            have hb : ∀ i o, A[i]? = some o → ∀ p ∈ predsL o.after.toList, p < i := fun i o ho p hp => by
              have := hbl i o (by rw [List.getElem?_append_left (lgetElem?_lt ho)]; exact ho) p hp
              omega
            have hzb : ∀ p ∈ predsL z.after.toList, p < A.length := fun p hp => by
              have := hbl A.length z (by simp) p hp
              omega
            have hg := guardsLt_get c3
            unfold tailC at e
            dsimp only at e
            cases h1 : (drawnZ P G E k ⟨A⟩ nt).f call tm h with
            | none => rw [h1] at e; cases e
            | some q =>
              obtain ⟨tm1, hp1⟩ := q
              rw [h1] at e
              replace e : (compOps P G E (A ++ [z]) nt [z]).f call tm1 hp1 = some (tm', h') := e
              rw [compOps_eq] at e
              have hsz : (⟨A ++ [z]⟩ : Array Oper).size = A.length + 1 := by simp
              have hrep : Array.replicate (A.length + 1) false = (Array.replicate A.length false).push false := by
                apply Array.ext'
                simp [List.replicate_succ']
              rw [hsz, hrep]
              refine any_push (K := wpOpIn (FR ρ) 0 P ⟨A ++ [z]⟩ Q A.length (Q .normal)) hz hb hg hzb (fun a w hk => hk) _ _ _ _ (by simp) ?_
              refine drawnZ_sound hN hX k ⟨A⟩ call hC nt tm h tm1 hp1 h1 ρ m F K a w r rt _ ?_
              intro m1 a1 w1 s1 r1 t1 d1
              have := runOps_sound (ρ := ρ) (Q := Q) (ops := ⟨A ++ [z]⟩) hN hX hC [z] A.length tm1 tm' hp1 h' m1 a1 w1 (fun j => by
                cases j with
                | zero => simp
                | succ j => simp) e r1 t1 (fun m' a' w' k1 k2 k3 k4 => hq m' a' w' (s1.trans k1) k2 k3 (k4.trans d1))
              simp only [List.length_cons, List.length_nil, Nat.zero_add, List.range'_one, wpOpsIn_cons] at this
              exact this
          · cases hp
        · cases hp
      · exact drawnC_sound hN hX ops call hC nt tm h tm' h' e ρ m F K a w r rt Q hq
theorem drawnD_sound (hN : NamesOk P) (hX : ExtOk P E) (hM : P.follows .mixedOrders = true) : DrawnOk P G (fun call ops nt tm h => (drawnD P G E ops nt).f call tm h) :=
  fun call hC ops nt tm h tm' h' e ρ m F K a w id r rt Q hq => wpIn_region_any hM (drawnZ_sound hN hX 6 ops call hC nt tm h tm' h' e ρ m F K a w r rt Q hq)
end
end Go.Sim


namespace Go.Sim
noncomputable section
variable {P : Program} {G : Nat → Option (List Value)}

def noExt : FuncId → List Value → Option Value := fun _ _ => none
theorem noExt_ok : ExtOk P noExt := fun _ _ _ h => by cases h

def namesB (P : Program) : Bool := P.funcs.all fun fn => !(fn.name == "runtime.NumGoroutine")
theorem names_ok (h : namesB P = true) : NamesOk P := fun f fn hf => by
  unfold namesB at h
  rw [Array.all_eq_true_iff_forall_mem] at h
  have := h fn (Array.mem_of_getElem? hf)
  simpa using this

def G0 : Nat → Option (List Value) := fun _ => none

/-- what the program's variables hold -/
def GlobIn (G : Nat → Option (List Value)) (w : World) : Prop :=
  ∀ g l, G g = some l → g < w.heap.size ∧ ∀ k v, l[k]? = some v → noA v = true ∧ w.cell? ⟨g, k, none⟩ = some v
theorem G0_in (w : World) : GlobIn G0 w := fun g l h => by cases h

/-- where nothing is known of memory but some of the program's variables -/
theorem rel_start {w : World} (hG : GlobIn G w) : Rel P G (fun _ => none) (fun b => b < w.heap.size) w ⟨0, .e⟩ w where
  len := fun _ _ => rfl
  os := rfl
  tape := rfl
  output := rfl
  size := Nat.le_refl _
  fr := fun b hb => ⟨hb, rfl⟩
  glob := hG
  obj := fun i o h => by rw [Tr.get_e] at h; cases h
  inj := fun i j o o' b b' h => by rw [Tr.get_e] at h; cases h

theorem Rel.globIn {m : Ren} {F : Nat → Prop} {K : World} {h : Hp} {w : World} (r : Rel P G m F K h w) : GlobIn G w := fun g l hg => by
  obtain ⟨h1, h2⟩ := r.glob g l hg
  obtain ⟨h3, h4⟩ := r.fr g h1
  refine ⟨Nat.lt_of_lt_of_le h3 r.size, fun k v hk => ?_⟩
  obtain ⟨h5, h6⟩ := h2 k v hk
  exact ⟨h5, by rw [World.cell?_fr h4]; exact h6⟩

theorem Rel.below {m : Ren} {F : Nat → Prop} {K : World} {h : Hp} {w w' : World} (r : Rel P G m F K h w) (b : Go.RowKit.Below w.heap.size w w') : Rel P G m F K h w' where
  len := r.len
  os := b.os.trans r.os
  tape := b.tape.trans r.tape
  output := b.output.trans r.output
  size := Nat.le_trans r.size b.size
  fr := fun k hk => by
    obtain ⟨h1, h2⟩ := r.fr k hk
    exact ⟨h1, by rw [b.block k (Nat.lt_of_lt_of_le h1 r.size)]; exact h2⟩
  glob := r.glob
  obj := fun i o hi => ObjR_heap (r.obj i o hi) fun hl bi hb => b.block _ (ObjR_bi (r.obj i o hi) hl hb).2
  inj := r.inj

/-! ### calls whose answers are known -/
abbrev Tab := FuncId → List Value → Option Value
def noTab : Tab := fun _ _ => none
def callK (T : Tab) (call : Call) : Call := fun t args h => match t with
  | .yld r => call (.yld r) args h
  | .fn f => match T f args with
    | some v => some (v, h)
    | none => call (.fn f) args h
def TabOk (P : Program) (G : Nat → Option (List Value)) (T : Tab) : Prop := ∀ f args v, T f args = some v → noA.noAs args = true ∧ noA v = true ∧ ∀ w, GlobIn G w → Calls P f ⟨args⟩ w (fun e w' => e = .returned v ∧ Go.RowKit.Below w.heap.size w w')
theorem noTab_ok : TabOk P G noTab := fun _ _ _ h => by cases h

theorem callK_sound {T : Tab} {call : Call} (hT : TabOk P G T) (hC : CallOk P G call) : CallOk P G (callK T call) where
  fn := by
    intro f args h v h' e m F K w args' r ha
    unfold callK at e
    dsimp only at e
    split at e
    · rename_i u hu
      cases e
      obtain ⟨h1, h2, h3⟩ := hT f args v hu
      rw [renOs_noA _ _ h1] at ha
      cases ha
      refine (h3 w r.globIn).mono ?_
      rintro e w' ⟨rfl, hb⟩
      exact ⟨m, v, .refl m h, renO_noA _ _ h2, r.below hb, rfl⟩
    · exact hC.fn f args h v h' e m F K w args' r ha
  yld := fun q args h v h' e => hC.yld q args h v h' e

def runT (P : Program) (G : Nat → Option (List Value)) (T : Tab) (n : Nat) : Rec :=
  Nat.rec (motive := fun _ => Rec) (fun _ _ _ _ => none) (fun _ ih c nt tm h => (compC P G noExt (drawnD P G noExt) c nt).f (callK T (compT P G ih)) ih tm h) n
theorem runT_succ (P : Program) (G : Nat → Option (List Value)) (T : Tab) (n : Nat) : runT P G T (n + 1) = runCode P G noExt (fun call ops nt tm h => (drawnD P G noExt ops nt).f call tm h) (callK T (callF P G (runT P G T n))) (runT P G T n) := by
  funext c nt tm h
  show (compC P G noExt (drawnD P G noExt) c nt).f (callK T (compT P G (runT P G T n))) (runT P G T n) tm h = _
  rw [compT_eq, compC_eq, runCodeF_eq]
theorem runT_sound {T : Tab} (hN : NamesOk P) (hM : P.follows .mixedOrders = true) (hT : TabOk P G T) : ∀ n, RecOk P G (runT P G T n)
  | 0 => fun c nt tm h e tm' h' hrun => by cases hrun
  | n + 1 => runT_succ P G T n ▸ runCode_sound hN noExt_ok (drawnD_sound hN noExt_ok hM) (callK_sound hT (callF_sound (runT_sound hN hM hT n))) (runT_sound hN hM hT n)

/-- a run of the code, told by the evaluator -/
theorem calls_of_eval {T : Tab} {n : Nat} {f : FuncId} {args : List Value} {v : Value} {h' : Hp} (hN : NamesOk P) (hM : P.follows .mixedOrders = true) (hT : TabOk P G T)
    (e : callF P G (runT P G T n) (.fn f) args ⟨0, .e⟩ = some (v, h')) (hargs : noA.noAs args = true) (hv : noA v = true) {w : World} (hG : GlobIn G w) :
    Calls P f ⟨args⟩ w (fun e w' => e = .returned v ∧ Go.RowKit.Below w.heap.size w w') := by
  refine ((callF_sound (runT_sound hN hM hT n)).fn f args ⟨0, .e⟩ v h' e (fun _ => none) (fun b => b < w.heap.size) w w args (rel_start hG) (renOs_noA _ _ hargs)).mono ?_
  rintro e2 w' ⟨m', v', h1, h2, h3, rfl⟩
  rw [renO_noA _ _ hv] at h2
  cases h2
  exact ⟨rfl, h3.os, h3.tape, h3.output, h3.size, fun k hk => (h3.fr k hk).2⟩

/-- 'yields this value': what the kernel is asked -/
def yieldsB (P : Program) (G : Nat → Option (List Value)) (T : Tab) (n : Nat) (f : FuncId) (args : List Value) (v : Value) : Bool := match callF P G (runT P G T n) (.fn f) args ⟨0, .e⟩ with
  | some (u, _) => vEq u v && (noA.noAs args && noA v)
  | none => false
theorem calls_of_yields {T : Tab} {n : Nat} {f : FuncId} {args : List Value} {v : Value} (hN : NamesOk P) (hM : P.follows .mixedOrders = true) (hT : TabOk P G T) (e : yieldsB P G T n f args v = true) {w : World} (hG : GlobIn G w) :
    Calls P f ⟨args⟩ w (fun e w' => e = .returned v ∧ Go.RowKit.Below w.heap.size w w') := by
  unfold yieldsB at e
  split at e
  · rename_i u h' he
    simp only [Bool.and_eq_true] at e
    obtain rfl := vEq_eq _ _ e.1
    exact calls_of_eval hN hM hT he e.2.1 e.2.2 hG
  · cases e
/-- one known answer more -/
def Tab.put (T : Tab) (f : FuncId) (v : Value) : Tab := fun g args => match Nat.beq g f, args with
  | true, [] => some v
  | _, _ => T g args
theorem tab_put {T : Tab} {n : Nat} {f : FuncId} {v : Value} (hN : NamesOk P) (hM : P.follows .mixedOrders = true) (hT : TabOk P G T) (e : yieldsB P G T n f [] v = true) : TabOk P G (T.put f v) := by
  intro g args u hu
  unfold Tab.put at hu
  cases hg : Nat.beq g f with
  | false => rw [hg] at hu; exact hT g args u hu
  | true =>
    rw [hg] at hu
    cases args with
    | cons x l => exact hT g (x :: l) u hu
    | nil =>
      cases hu
      obtain rfl := beqT hg
      refine ⟨rfl, ?_, fun w hG => calls_of_yields hN hM hT e hG⟩
      unfold yieldsB at e
      split at e
      · simp only [Bool.and_eq_true] at e; exact e.2.2
      · cases e
end
end Go.Sim


namespace Go.Sim
noncomputable section

/-! ## Calls whose answers are known, on memory: a long run is cut into theorems -/
/-- an object, written out: number, element's type, cells -/
abbrev LO := Nat × TypeId × List Value
def mkObj (p : TypeId × List Value) : AObj := .cells (lenR p.2) p.1 (cPutL .e (nat_lit 0) p.2)
def setAll (bs : Tr AObj) (l : List LO) : Tr AObj := List.rec (motive := fun _ => Tr AObj) bs (fun p _ ih => hSet ih p.1 (mkObj p.2)) l
theorem setAll_get (bs : Tr AObj) (i : Nat) : ∀ l : List LO, (∃ p ∈ l, p.1 = i ∧ (setAll bs l).get i = some (mkObj p.2)) ∨ ((∀ p ∈ l, p.1 ≠ i) ∧ (setAll bs l).get i = bs.get i)
  | [] => .inr ⟨fun p hp => (by cases hp), rfl⟩
  | p :: l => by
    have e : (setAll bs (p :: l)).get i = if p.1 = i then some (mkObj p.2) else (setAll bs l).get i := by
      show (hSet (setAll bs l) p.1 (mkObj p.2)).get i = _
      rw [hSet_eq, Tr.get_set]
    by_cases h : p.1 = i
    · exact .inl ⟨p, List.mem_cons_self .., h, by rw [e, if_pos h]⟩
    · rcases setAll_get bs i l with ⟨q, hq, h1, h2⟩ | ⟨h1, h2⟩
      · exact .inl ⟨q, List.mem_cons_of_mem _ hq, h1, by rw [e, if_neg h, h2]⟩
      · refine .inr ⟨fun q hq => ?_, by rw [e, if_neg h, h2]⟩
        rcases List.mem_cons.1 hq with rfl | hq
        · exact h
        · exact h1 q hq

/-- memory holds the object as it is written out -/
def Holds (bs : Tr AObj) (p : LO) : Prop := ∃ cs, bs.get p.1 = some (.cells p.2.2.length p.2.1 cs) ∧ ∀ k, k < p.2.2.length → cs.get k = p.2.2[k]?
theorem holds_mk {bs : Tr AObj} {p : LO} (h : bs.get p.1 = some (mkObj p.2)) : Holds bs p := by
  refine ⟨cPutL .e 0 p.2.2, ?_, fun k _ => by rw [cPutL_eq, putL_get]⟩
  rw [h]
  unfold mkObj
  rw [lenR_eq]
theorem grab_get {cs : Tr Value} : ∀ {n off : Nat} {l : List Value}, grab cs off n = some l → ∀ k, k < n → cs.get (off + k) = l[k]?
  | 0, _, _, _, k, hk => by omega
  | n + 1, off, l, h, k, hk => by
    replace h : consO (cGet cs off) (grab cs (off + 1) n) = some l := h
    rw [cGet_eq] at h
    cases e1 : cs.get off with
    | none => rw [e1] at h; cases h
    | some v =>
      cases e2 : grab cs (off + 1) n with
      | none => rw [e1, e2] at h; cases h
      | some l' =>
        rw [e1, e2] at h
        cases h
        cases k with
        | zero => exact e1
        | succ k =>
          have := grab_get e2 k (by omega)
          rw [show off + (k + 1) = off + 1 + k by omega, this]
          rfl
def hasO (bs : Tr AObj) (p : LO) : Bool := VO.rec (motive := fun _ => Bool) false (fun size ty cs => bandF (Nat.beq size (lenR p.2.2)) (bandF (Nat.beq ty p.2.1) (Option.rec (motive := fun _ => Bool) false (fun l => listEq l p.2.2) (grab cs (nat_lit 0) size)))) (asCells (hGet bs p.1))
theorem hasO_holds {bs : Tr AObj} {p : LO} (h : hasO bs p = true) : Holds bs p := by
  unfold hasO at h
  rw [hGet_eq] at h
  cases e : bs.get p.1 with
  | none => rw [e] at h; cases h
  | some o =>
    rw [e] at h
    cases o with
    | cells size ty cs =>
      replace h : bandF (Nat.beq size (lenR p.2.2)) (bandF (Nat.beq ty p.2.1) (Option.rec (motive := fun _ => Bool) false (fun l => listEq l p.2.2) (grab cs 0 size))) = true := h
      obtain ⟨h1, h2⟩ := bandF_true h
      obtain ⟨h3, h4⟩ := bandF_true h2
      rw [lenR_eq] at h1
      cases e2 : grab cs 0 size with
      | none => rw [e2] at h4; cases h4
      | some l =>
        rw [e2] at h4
        have hl : l = p.2.2 := listEq_eq h4
        have hs := beqT h1
        have ht := beqT h3
        subst hl
        refine ⟨cs, by rw [e, hs, ht], fun k hk => ?_⟩
        have := grab_get e2 k (by omega)
        rw [Nat.zero_add] at this
        exact this
    | map es => cases h
    | dead => cases h
    | loop => cases h
def hasAll (bs : Tr AObj) (l : List LO) : Bool := List.rec (motive := fun _ => Bool) true (fun p _ ih => bandF (hasO bs p) ih) l
theorem hasAll_mem {bs : Tr AObj} : ∀ {l : List LO}, hasAll bs l = true → ∀ p ∈ l, Holds bs p
  | [], _, p, hp => by cases hp
  | q :: l, h, p, hp => by
    obtain ⟨h1, h2⟩ := bandF_true (a := hasO bs q) (b := hasAll bs l) h
    rcases List.mem_cons.1 hp with rfl | hp
    · exact hasO_holds h1
    · exact hasAll_mem h2 p hp

/-! ### which objects a value names -/
def okA (Q : Nat → Bool) (a : Addr) : Bool := match bk a.block with
  | .new i => Q i
  | .old _ => true
def okFn (Q : Nat → Bool) : Fn → Bool
  | .yield r => match bk r with
    | .new i => Q i
    | .old _ => true
  | _ => true
mutual
def okV (Q : Nat → Bool) : Value → Bool
  | .pointer (some a) => okA Q a
  | .slice (some a) _ _ => okA Q a
  | .map (some r) => match bk r with
    | .new i => Q i
    | .old _ => true
  | .func fn ⟨f⟩ ⟨c⟩ => okFn Q fn && (okVs Q f && okVs Q c)
  | .iface _ v => okV Q v
  | .agg ⟨l⟩ => okVs Q l
  | .tuple ⟨l⟩ => okVs Q l
  | _ => true
def okVs (Q : Nat → Bool) : List Value → Bool
  | [] => true
  | v :: l => okV Q v && okVs Q l
end
theorem renA_ok {Q : Nat → Bool} {m m' : Ren} (hm : ∀ i, Q i = true → m' i = m i) {a : Addr} (h : okA Q a = true) : renA m' a = renA m a ∧ exA m' a = exA m a := by
  unfold okA at h
  unfold renA exA
  cases hb : bk a.block with
  | old g => exact ⟨rfl, rfl⟩
  | new i =>
    rw [hb] at h
    have e := hm i h
    refine ⟨by dsimp only; rw [e], ?_⟩
    cases a.spot with
    | none => rfl
    | some s => dsimp only; rw [e]
theorem renF_ok {Q : Nat → Bool} {m m' : Ren} (hm : ∀ i, Q i = true → m' i = m i) : ∀ fn : Fn, okFn Q fn = true → renF m' fn = renF m fn
  | .func _, _ | .method _, _ | .methodOf _ _, _ | .via _ _ _ _, _ => by simp only [renF]
  | .yield r, h => by
    simp only [okFn] at h
    simp only [renF]
    cases hb : bk r with
    | old g => rfl
    | new i => rw [hb] at h; dsimp only; rw [hm i h]
mutual
theorem renO_ok {Q : Nat → Bool} {m m' : Ren} (hm : ∀ i, Q i = true → m' i = m i) : ∀ v : Value, okV Q v = true → renO m' v = renO m v
  | .bool _, _ | .int _ _, _ | .float _ _, _ | .complex _ _ _, _ | .string _, _ | .pointer none, _ | .slice none _ _, _
  | .map none, _ | .chan none, _ | .chan (some _), _ | .nilFunc, _ | .nilIface, _ => by simp only [renO]
  | .pointer (some a), h => by simp only [okV] at h; simp only [renO, (renA_ok hm h).1]
  | .slice (some a) n c, h => by simp only [okV] at h; simp only [renO, (renA_ok hm h).1, (renA_ok hm h).2]
  | .map (some r), h => by
    simp only [okV] at h
    simp only [renO]
    cases hb : bk r with
    | old g => rfl
    | new i => rw [hb] at h; dsimp only; rw [hm i h]
  | .func fn ⟨f⟩ ⟨c⟩, h => by
    simp only [okV, Bool.and_eq_true] at h
    simp only [renO, renF_ok hm fn h.1, renOs_ok hm f h.2.1, renOs_ok hm c h.2.2]
  | .iface t v, h => by simp only [okV] at h; simp only [renO, renO_ok hm v h]
  | .agg ⟨l⟩, h => by simp only [okV] at h; simp only [renO, renOs_ok hm l h]
  | .tuple ⟨l⟩, h => by simp only [okV] at h; simp only [renO, renOs_ok hm l h]
theorem renOs_ok {Q : Nat → Bool} {m m' : Ren} (hm : ∀ i, Q i = true → m' i = m i) : ∀ l : List Value, okVs Q l = true → renOs m' l = renOs m l
  | [], _ => by simp only [renOs]
  | v :: l, h => by
    simp only [okVs, Bool.and_eq_true] at h
    simp only [renOs, renO_ok hm v h.1, renOs_ok hm l h.2]
end
/-- the same, quick for what names nothing -/
def okF (Q : Nat → Bool) (v : Value) : Bool := VV.rec (motive := fun _ => Bool) (fun _ _ => true) (fun _ => true) (fun a => okA Q a) (fun _ _ _ => okV Q v) (fun _ => okV Q v) (okV Q v) (asV v)
theorem okF_ok {Q : Nat → Bool} {v : Value} (h : okF Q v = true) : okV Q v = true := by
  cases v with
  | int k n => rfl
  | bool b => rfl
  | pointer a =>
    cases a with
    | none => rfl
    | some a => exact h
  | agg l => cases l; exact h
  | _ => exact h
def okL (Q : Nat → Bool) (l : List Value) : Bool := List.rec (motive := fun _ => Bool) true (fun v _ ih => bandF (okF Q v) ih) l
theorem okL_get {Q : Nat → Bool} : ∀ {l : List Value}, okL Q l = true → ∀ (k : Nat) (v : Value), l[k]? = some v → okV Q v = true
  | [], _, k, v, h => by simp at h
  | x :: l, h, k, v, hk => by
    obtain ⟨h1, h2⟩ := bandF_true (a := okF Q x) (b := okL Q l) h
    cases k with
    | zero => cases hk; exact okF_ok h1
    | succ k => exact okL_get h2 k v (by simpa using hk)
def okO (Q : Nat → Bool) (l : List LO) : Bool := List.rec (motive := fun _ => Bool) true (fun p _ ih => bandF (okL Q p.2.2) ih) l
theorem okO_mem {Q : Nat → Bool} : ∀ {l : List LO}, okO Q l = true → ∀ p ∈ l, okL Q p.2.2 = true
  | [], _, p, hp => by cases hp
  | q :: l, h, p, hp => by
    obtain ⟨h1, h2⟩ := bandF_true (a := okL Q q.2.2) (b := okO Q l) h
    rcases List.mem_cons.1 hp with rfl | hp
    · exact h1
    · exact okO_mem h2 p hp

/-! ### two values that differ -/
def neF (a b : Value) : Bool := VV.rec (motive := fun _ => Bool)
  (fun _ n => intK b false (fun _ m => notF (eqF n m)))
  (fun x => VB.rec (motive := fun _ => Bool) false (fun y => notF (bEq x y)) (asBool b))
  (fun x => VP.rec (motive := fun _ => Bool) false (fun y => notF (bandF (Nat.beq x.block y.block) (Nat.beq x.off y.off))) (asPtr b))
  (fun _ n _ => VS.rec (motive := fun _ => Bool) false (fun _ n' _ => notF (Nat.beq n n')) (asSlice b)) (fun _ => false) false (asV a)
theorem neF_ne {a : Value} (h : neF a a = true) : False := by
  cases a with
  | int k n =>
    replace h : notF (eqF n n) = true := h
    rw [notF_eq, eqF_eq] at h
    simp at h
  | bool x => cases x <;> cases h
  | pointer p =>
    cases p with
    | none => cases h
    | some x =>
      replace h : notF (bandF (Nat.beq x.block x.block) (Nat.beq x.off x.off)) = true := h
      rw [show Nat.beq x.block x.block = true by simp, show Nat.beq x.off x.off = true by simp] at h
      cases h
  | slice p n c =>
    replace h : notF (Nat.beq n n) = true := h
    rw [show Nat.beq n n = true by simp] at h
    cases h
  | agg l => cases l; cases h
  | _ => cases h
/-- at some place -/
def listNe (a b : List Value) : Bool := List.rec (motive := fun _ => List Value → Bool) (fun _ => false) (fun x _ ih b => List.rec (motive := fun _ => Bool) false (fun y l _ => Bool.rec (motive := fun _ => Bool) (ih l) true (neF x y)) b) a b
theorem listNe_ne : ∀ {a : List Value}, listNe a a = true → False
  | [], h => by cases h
  | x :: a, h => by
    replace h : Bool.rec (motive := fun _ => Bool) (listNe a a) true (neF x x) = true := h
    cases e : neF x x with
    | true => exact neF_ne e
    | false => rw [e] at h; exact listNe_ne h
end
end Go.Sim


namespace Go.Sim
noncomputable section

/-- a call and what it comes to: objects that it leaves as they are, objects before, the same behind it, new ones -/
structure Ent where
  f : FuncId
  args : List Value
  next : Nat
  same : List LO
  old : List LO
  v : Value
  next' : Nat
  chg : List LO
  new : List LO

def Ent.start (e : Ent) : Hp := ⟨e.next, setAll .e (appL e.same e.old)⟩
  where appL (a b : List LO) : List LO := List.rec (motive := fun _ => List LO) b (fun p _ ih => p :: ih) a
theorem appL_mem {p : LO} : ∀ {a b : List LO}, p ∈ Ent.start.appL a b ↔ p ∈ a ∨ p ∈ b
  | [], b => by show p ∈ b ↔ _; simp
  | q :: a, b => by
    show p ∈ q :: Ent.start.appL a b ↔ _
    rw [List.mem_cons, appL_mem, List.mem_cons, or_assoc]

/-- the numbers of the new ones, as a trie -/
def keysT (l : List LO) : Tr AObj := List.rec (motive := fun _ => Tr AObj) .e (fun p _ ih => hSet ih p.1 .dead) l
theorem keysT_get (i : Nat) : ∀ l : List LO, isS ((keysT l).get i) = true ↔ ∃ p ∈ l, p.1 = i
  | [] => by
    show isS ((Tr.e : Tr AObj).get i) = true ↔ _
    rw [Tr.get_e]
    simp [isS]
  | p :: l => by
    show isS ((hSet (keysT l) p.1 .dead).get i) = true ↔ _
    rw [hSet_eq, Tr.get_set]
    by_cases h : p.1 = i
    · rw [if_pos h]
      simp [isS, h]
    · rw [if_neg h, keysT_get i l]
      simp [h]
def Ent.known (e : Ent) (i : Nat) : Bool := Bool.rec (motive := fun _ => Bool) (isS (hGet (keysT e.new) i)) true (Nat.ble (Nat.succ i) e.next)
theorem Ent.known_iff (e : Ent) (i : Nat) : e.known i = true ↔ i < e.next ∨ ∃ p ∈ e.new, p.1 = i := by
  unfold Ent.known
  rw [hGet_eq]
  cases h : Nat.ble (Nat.succ i) e.next with
  | true => exact ⟨fun _ => .inl (Nat.le_of_ble_eq_true h), fun _ => rfl⟩
  | false =>
    have hn : ¬ i < e.next := fun hh => by rw [Nat.ble_eq_true_of_le hh] at h; cases h
    show isS ((keysT e.new).get i) = true ↔ _
    rw [keysT_get]
    exact ⟨.inr, fun h => h.resolve_left hn⟩

/-- every changed one is told, and differs -/
def chgOk : List LO → List LO → Bool
  | [], [] => true
  | p :: l, q :: r => match Nat.beq p.1 q.1, Nat.beq p.2.2.length q.2.2.length, listNe p.2.2 q.2.2 with
    | true, true, true => chgOk l r
    | _, _, _ => false
  | _, _ => false
theorem chgOk_mem : ∀ {l r : List LO}, chgOk l r = true → (∀ q ∈ r, ∃ p ∈ l, p.1 = q.1 ∧ p.2.2.length = q.2.2.length ∧ p.2.2 ≠ q.2.2) ∧ ∀ p ∈ l, ∃ q ∈ r, p.1 = q.1
  | [], [], _ => ⟨fun q hq => (by cases hq), fun q hq => (by cases hq)⟩
  | [], _ :: _, h => by cases h
  | _ :: _, [], h => by cases h
  | p :: l, q :: r, h => by
    simp only [chgOk] at h
    cases h1 : Nat.beq p.1 q.1 with
    | false => rw [h1] at h; cases h
    | true =>
      cases h2 : Nat.beq p.2.2.length q.2.2.length with
      | false => rw [h1, h2] at h; cases h
      | true =>
        cases h3 : listNe p.2.2 q.2.2 with
        | false => rw [h1, h2, h3] at h; cases h
        | true =>
          rw [h1, h2, h3] at h
          obtain ⟨k1, k2⟩ := chgOk_mem (l := l) (r := r) h
          refine ⟨fun x hx => ?_, fun x hx => ?_⟩
          · rcases List.mem_cons.1 hx with rfl | hx
            · exact ⟨p, List.mem_cons_self .., beqT h1, beqT h2, fun e => by rw [e] at h3; exact listNe_ne h3⟩
            · obtain ⟨y, h4, h5⟩ := k1 x hx
              exact ⟨y, List.mem_cons_of_mem _ h4, h5⟩
          · rcases List.mem_cons.1 hx with rfl | hx
            · exact ⟨q, List.mem_cons_self .., beqT h1⟩
            · obtain ⟨y, h4, h5⟩ := k2 x hx
              exact ⟨y, List.mem_cons_of_mem _ h4, h5⟩
def idsIn (lo hi : Nat) : List LO → Bool
  | [] => true
  | p :: l => match Nat.ble lo p.1, Nat.blt p.1 hi with
    | true, true => idsIn lo hi l
    | _, _ => false
theorem idsIn_mem {lo hi : Nat} : ∀ {l : List LO}, idsIn lo hi l = true → ∀ p ∈ l, lo ≤ p.1 ∧ p.1 < hi
  | [], _, p, hp => by cases hp
  | q :: l, h, p, hp => by
    simp only [idsIn] at h
    cases h1 : Nat.ble lo q.1 with
    | false => rw [h1] at h; cases h
    | true =>
      cases h2 : Nat.blt q.1 hi with
      | false => rw [h1, h2] at h; cases h
      | true =>
        rw [h1, h2] at h
        rcases List.mem_cons.1 hp with rfl | hp
        · exact ⟨bleT h1, bltT h2⟩
        · exact idsIn_mem h p hp

/-- what is asked of the table's row alone -/
def Ent.wf (e : Ent) : Bool := chgOk e.old e.chg && (idsIn e.next e.next' e.new && (idsIn 0 e.next e.same && (idsIn 0 e.next e.old && (Nat.ble e.next e.next' && (okF e.known e.v && (okO e.known e.same && (okO e.known e.chg && okO e.known e.new)))))))
/-- what is asked of the run -/
def Ent.ran (e : Ent) (r : Option (Value × Hp)) : Bool := Option.rec (motive := fun _ => Bool) false (fun p => Prod.rec (motive := fun _ => Bool) (fun v h => bandF (vEqF v e.v) (bandF (Nat.beq h.next e.next') (bandF (hasAll h.bs e.same) (bandF (hasAll h.bs e.chg) (hasAll h.bs e.new))))) p) r
def argsEq (a b : List Value) : Bool := List.rec (motive := fun _ => List Value → Bool) (fun b => List.rec (motive := fun _ => Bool) true (fun _ _ _ => false) b) (fun x _ ih b => List.rec (motive := fun _ => Bool) false (fun y l _ => Bool.rec (motive := fun _ => Bool) false (ih l) (vEqF x y)) b) a b
theorem argsEq_eq : ∀ {a b : List Value}, argsEq a b = true → a = b
  | [], [], _ => rfl
  | [], _ :: _, h => by cases h
  | _ :: _, [], h => by cases h
  | x :: a, y :: b, h => by
    replace h : Bool.rec (motive := fun _ => Bool) false (argsEq a b) (vEqF x y) = true := h
    cases e : vEqF x y with
    | false => rw [e] at h; cases h
    | true => rw [e] at h; rw [vEqF_eq e, argsEq_eq h]
/-- the row stands for this call -/
def Ent.hit (e : Ent) (args : List Value) (h : Hp) : Bool := bandF (Nat.beq h.next e.next) (bandF (argsEq args e.args) (bandF (hasAll h.bs e.same) (hasAll h.bs e.old)))
def Ent.ans (e : Ent) (h : Hp) : Value × Hp := (e.v, ⟨e.next', setAll (setAll h.bs e.new) e.chg⟩)

variable {P : Program} {G : Nat → Option (List Value)}
theorem ent_sound {e : Ent} (hwf : e.wf = true) {call : Call} (hC : CallOk P G call) (hr : e.ran (call (.fn e.f) e.args e.start) = true) {args : List Value} {h : Hp} (hhit : e.hit args h = true) {m : Ren} {F : Nat → Prop} {K : World} {w : World} {args' : List Value}
    (r : Rel P G m F K h w) (ha : renOs m args = some args') : Calls P e.f ⟨args'⟩ w (CallPost P G m F K h (e.ans h).2 (e.ans h).1) := by
  unfold Ent.wf at hwf
  simp only [Bool.and_eq_true] at hwf
  obtain ⟨w1, w2, w3, w4, w5, w6, w7, w8, w9⟩ := hwf
  obtain ⟨c1, c2⟩ := chgOk_mem w1
  have inew := idsIn_mem w2
  have isame := idsIn_mem w3
  have iold := idsIn_mem w4
  have hnn : e.next ≤ e.next' := bleT w5
  obtain ⟨t1, t2⟩ := bandF_true hhit
  obtain ⟨t3, t4⟩ := bandF_true t2
  obtain ⟨t5, t6⟩ := bandF_true t4
  have hnext : h.next = e.next := beqT t1
  have hargs := argsEq_eq t3
  subst hargs
  have hsame := hasAll_mem t5
  have hold := hasAll_mem t6
  -- the run
  cases hc : call (.fn e.f) e.args e.start with
  | none => rw [hc] at hr; cases hr
  | some p =>
    obtain ⟨v1, h1⟩ := p
    rw [hc] at hr
    replace hr : bandF (vEqF v1 e.v) (bandF (Nat.beq h1.next e.next') (bandF (hasAll h1.bs e.same) (bandF (hasAll h1.bs e.chg) (hasAll h1.bs e.new)))) = true := hr
    obtain ⟨q1, q2⟩ := bandF_true hr
    obtain ⟨q3, q4⟩ := bandF_true q2
    obtain ⟨q5, q6⟩ := bandF_true q4
    obtain ⟨q7, q8⟩ := bandF_true q6
    obtain rfl := vEqF_eq q1
    have hn1 : h1.next = e.next' := beqT q3
    have rsame := hasAll_mem q5
    have rchg := hasAll_mem q7
    have rnew := hasAll_mem q8
    have hin : ∀ p, p ∈ Ent.start.appL e.same e.old → Holds h.bs p := fun p hp => by
      rcases appL_mem.1 hp with hp | hp
      · exact hsame p hp
      · exact hold p hp
    -- what the cut memory holds
    have start_get : ∀ i, (∃ p ∈ Ent.start.appL e.same e.old, p.1 = i ∧ e.start.bs.get i = some (mkObj p.2)) ∨ ((∀ p ∈ Ent.start.appL e.same e.old, p.1 ≠ i) ∧ e.start.bs.get i = none) := fun i => by
      rcases setAll_get .e i (Ent.start.appL e.same e.old) with hh | ⟨hh, hg⟩
      · exact .inl hh
      · exact .inr ⟨hh, hg.trans (Tr.get_e i)⟩
    -- the frame: what the call does not see
    let F' : Nat → Prop := fun b => F b ∨ ∃ j o bj, h.bs.get j = some o ∧ o.live ∧ m j = some bj ∧ bj.blk = b ∧ e.start.bs.get j = none
    have r0 : Rel P G m F' w e.start w := by
      refine ⟨fun i hi => r.len i (by rw [hnext]; exact hi), rfl, rfl, rfl, Nat.le_refl _, fun b hb => ⟨?_, rfl⟩, fun g l hg => ?_, fun i o hi => ?_, fun i j o o' b b' hi hj hl hl' hm hm' he => ?_⟩
      · rcases hb with hb | ⟨j, o, bj, k1, k2, k3, k4, _⟩
        · have := (r.fr b hb).1; have := r.size; omega
        · rw [← k4]; exact (ObjR_bi (r.obj j o k1) k2 k3).2
      · obtain ⟨k1, k2⟩ := r.glob g l hg
        refine ⟨.inl k1, fun k v hk => ?_⟩
        obtain ⟨k3, k4⟩ := k2 k v hk
        exact ⟨k3, by rw [World.cell?_fr (r.fr g k1).2]; exact k4⟩
      · rcases start_get i with ⟨p, hp, rfl, hg⟩ | ⟨_, hg⟩
        · rw [hg] at hi
          cases hi
          obtain ⟨cs, k1, k2⟩ := hin p hp
          have ho := r.obj _ _ k1
          unfold mkObj
          rw [lenR_eq, cPutL_eq]
          intro b hb
          obtain ⟨cc, fr, x1, x2, x3, x4⟩ := ho b hb
          refine ⟨cc, fr, ?_, x2, fun k v hk => ?_, x4⟩
          · rintro (hF | ⟨j, o, bj, y1, y2, y3, y4, y5⟩)
            · exact x1 hF
            · have := r.inj _ _ _ _ _ _ y1 k1 y2 trivial y3 hb y4
              subst this
              rw [hg] at y5
              cases y5
          · rw [putL_get] at hk
            have hlt := lgetElem?_lt hk
            exact x3 k v (by rw [k2 k hlt]; exact hk)
        · rw [hg] at hi; cases hi
      · rcases start_get i with ⟨p, hp, rfl, hg⟩ | ⟨_, hg⟩
        · rcases start_get j with ⟨q, hq, rfl, hg'⟩ | ⟨_, hg'⟩
          · obtain ⟨cs, k1, _⟩ := hin p hp
            obtain ⟨cs', k1', _⟩ := hin q hq
            exact r.inj _ _ _ _ _ _ k1 k1' trivial trivial hm hm' he
          · rw [hg'] at hj; cases hj
        · rw [hg] at hi; cases hi
    refine (hC.fn e.f e.args e.start _ h1 hc m F' w w args' r0 ha).mono ?_
    rintro en w' ⟨m1, v', s1, hv, r1, rfl⟩
    let m' : Ren := fun i => if e.known i = true then m1 i else none
    have hm' : ∀ i, e.known i = true → m' i = m1 i := fun i hi => if_pos hi
    have hsub : ∀ i b, m' i = some b → m1 i = some b ∧ e.known i = true := fun i b hb => by
      by_cases hk : e.known i = true
      · exact ⟨by rw [← hm' i hk]; exact hb, hk⟩
      · have hb2 : (if e.known i = true then m1 i else none) = some b := hb
        rw [if_neg hk] at hb2; cases hb2
    have hlt : ∀ i b, m i = some b → i < e.next := fun i b hb => by
      rcases Nat.lt_or_ge i e.next with hh | hh
      · exact hh
      · rw [r.len i (by rw [hnext]; exact hh)] at hb; cases hb
    have hext : Ext m m' := fun i b hb => by
      rw [hm' i (e.known_iff i |>.2 (.inl (hlt i b hb)))]
      exact s1.ext i b hb
    have old_get : ∀ i b, i < e.next → m' i = some b → m i = some b := fun i b hi hb => by
      obtain ⟨h3, _⟩ := hsub i b hb
      cases hmi : m i with
      | some b0 => rw [s1.ext i b0 hmi] at h3; exact h3
      | none =>
        have := (s1.unborn i (by show i < e.next; exact hi) hmi).1
        rw [this] at h3; cases h3
    -- what memory holds behind the call
    have after : ∀ i, (∃ p ∈ e.chg, p.1 = i ∧ (e.ans h).2.bs.get i = some (mkObj p.2)) ∨ ((∀ p ∈ e.chg, p.1 ≠ i) ∧ ((∃ p ∈ e.new, p.1 = i ∧ (e.ans h).2.bs.get i = some (mkObj p.2)) ∨ ((∀ p ∈ e.new, p.1 ≠ i) ∧ (e.ans h).2.bs.get i = h.bs.get i))) := fun i => by
      rcases setAll_get (setAll h.bs e.new) i e.chg with hh | ⟨hh, hg⟩
      · exact .inl hh
      · refine .inr ⟨hh, ?_⟩
        rcases setAll_get h.bs i e.new with ⟨p, k1, k2, k3⟩ | ⟨k1, k2⟩
        · exact .inl ⟨p, k1, k2, hg.trans k3⟩
        · exact .inr ⟨k1, hg.trans k2⟩
    -- an object of the run, seen from behind
    have seen : ∀ (p : LO), Holds h1.bs p → okL e.known p.2.2 = true → ∀ b, m' p.1 = some b → ∃ cc fr, ¬ F' b.blk ∧ w'.heap[b.blk]? = some (.cells cc p.2.1 fr) ∧
        (∀ k v, p.2.2[k]? = some v → k < p.2.2.length ∧ ∃ v', renO m' v = some v' ∧ cc[b.sh + k]? = some v') ∧ b.sh + p.2.2.length + exC P p.2.1 b ≤ cc.size ∧ (∀ k, b.sh ≤ k → k < b.sh + p.2.2.length + exC P p.2.1 b → (fr.1 ≤ k && k < fr.2) = false) := by
      intro p hp hok b hb
      obtain ⟨cs, k1, k2⟩ := hp
      obtain ⟨cc, fr, x1, x2, x3, x4⟩ := r1.obj _ _ k1 b (hsub _ b hb).1
      refine ⟨cc, fr, x1, x2, fun k v hk => ?_, x4⟩
      have hl := lgetElem?_lt hk
      obtain ⟨_, u, y1, y2⟩ := x3 k v (by rw [k2 k hl]; exact hk)
      exact ⟨hl, u, by rw [renO_ok hm' v (okL_get hok k v hk)]; exact y1, y2⟩
    have seenO : ∀ (p : LO), Holds h1.bs p → okL e.known p.2.2 = true → ObjR P m' F p.1 w' (mkObj p.2) := by
      intro p hp hok
      unfold mkObj
      rw [lenR_eq, cPutL_eq]
      intro b hb
      obtain ⟨cc, fr, x1, x2, x3, x4⟩ := seen p hp hok b hb
      exact ⟨cc, fr, fun hF => x1 (.inl hF), x2, fun k v hk => x3 k v (by rw [putL_get] at hk; exact hk), x4⟩
    -- each object behind the call is one of the run, or one that the call does not see
    have split : ∀ i o b, (e.ans h).2.bs.get i = some o → o.live → m' i = some b → (∃ p : LO, p.1 = i ∧ Holds h1.bs p) ∨ (h.bs.get i = some o ∧ m i = some b ∧ e.start.bs.get i = none) := by
      intro i o b hi hl hb
      rcases after i with ⟨p, k1, k2, _⟩ | ⟨_, ⟨p, k1, k2, _⟩ | ⟨k1, k2⟩⟩
      · exact .inl ⟨p, k2, rchg p k1⟩
      · exact .inl ⟨p, k2, rnew p k1⟩
      · rw [k2] at hi
        have hlt2 : i < e.next := by
          rcases (e.known_iff i).1 (hsub i b hb).2 with hh | ⟨p, hp, he⟩
          · exact hh
          · exact absurd he (k1 p hp)
        rcases start_get i with ⟨p, hp, k3, _⟩ | ⟨_, k4⟩
        · rcases appL_mem.1 hp with hp | hp
          · exact .inl ⟨p, k3, rsame p hp⟩
          · obtain ⟨q, hq, he⟩ := c2 p hp
            exact .inl ⟨q, he ▸ k3, rchg q hq⟩
        · exact .inr ⟨hi, old_get i b hlt2 hb, k4⟩
    refine ⟨m', v', ⟨hext, by rw [hnext]; exact hnn, fun i hi hmi => ?_⟩, ?_, ?_, rfl⟩
    · -- nobody's object is left alone
      have hi2 : i < e.next := by rw [← hnext]; exact hi
      obtain ⟨u1, u2⟩ := s1.unborn i hi2 hmi
      refine ⟨by rw [hm' i ((e.known_iff i).2 (.inl hi2))]; exact u1, ?_⟩
      rcases after i with ⟨p, k1, rfl, _⟩ | ⟨_, ⟨p, k1, rfl, _⟩ | ⟨_, k2⟩⟩
      · exfalso
        obtain ⟨q, hq, e1, e2, e3⟩ := c1 p k1
        obtain ⟨cs, z1, z2⟩ := rchg p k1
        rw [u2] at z1
        rcases start_get p.1 with ⟨q2, hq2, e4, z3⟩ | ⟨z3, _⟩
        · have hq3 : Holds h.bs q := hold q hq
          have hq4 : Holds h.bs q2 := hin q2 hq2
          obtain ⟨cs3, a1, a2⟩ := hq3
          obtain ⟨cs4, b1, b2⟩ := hq4
          rw [e1] at a1
          rw [e4, a1] at b1
          simp only [Option.some.injEq, AObj.cells.injEq] at b1
          obtain ⟨l1, l2, l3⟩ := b1
          rw [z3] at z1
          unfold mkObj at z1
          rw [lenR_eq, cPutL_eq] at z1
          simp only [Option.some.injEq, AObj.cells.injEq] at z1
          obtain ⟨g1, g2, g3⟩ := z1
          refine e3 (List.ext_getElem? fun k => ?_)
          by_cases hk : k < q.2.2.length
          · rw [← a2 k hk, l3, b2 k (by omega), ← z2 k (by omega), ← g3, putL_get]
          · rw [List.getElem?_eq_none (by omega), List.getElem?_eq_none (by omega)]
        · exact z3 q (appL_mem.2 (.inr hq)) e1
      · exact absurd hi2 (by have := (inew p k1).1; omega)
      · exact k2
    · exact (renO_ok hm' _ (okF_ok w6)).trans hv
    · refine ⟨fun i hi => ?_, r1.os.trans r.os, r1.tape.trans r.tape, r1.output.trans r.output, Nat.le_trans r.size r1.size, fun b hb => ?_, r.glob, fun i o hi => ?_, fun i j o o' b b' hi hj hl hl' hm1 hm2 he => ?_⟩
      · have hi2 : e.next' ≤ i := hi
        cases hx : m' i with
        | none => rfl
        | some b =>
          exfalso
          rcases (e.known_iff i).1 (hsub i b hx).2 with hh | ⟨p, hp, rfl⟩
          · omega
          · have := (inew p hp).2; omega
      · have hb2 := r.fr b hb
        exact ⟨hb2.1, (r1.fr b (.inl hb)).2.trans hb2.2⟩
      · rcases after i with ⟨p, k1, rfl, k3⟩ | ⟨_, ⟨p, k1, rfl, k3⟩ | ⟨k1, k2⟩⟩
        · rw [k3] at hi; cases hi
          exact seenO p (rchg p k1) (okO_mem w8 p k1)
        · rw [k3] at hi; cases hi
          exact seenO p (rnew p k1) (okO_mem w9 p k1)
        · rw [k2] at hi
          rcases AObj.live_or o with hl | rfl
          · rcases start_get i with ⟨p, hp, rfl, k4⟩ | ⟨_, k4⟩
            · have hps : p ∈ e.same ∨ ∃ q ∈ e.chg, p.1 = q.1 := by
                rcases appL_mem.1 hp with hp | hp
                · exact .inl hp
                · exact .inr (c2 p hp)
              rcases hps with hps | ⟨q, hq, hpq⟩
              · obtain ⟨cs, y1, y2⟩ := hsame p hps
                rw [y1] at hi
                cases hi
                have ho := r.obj _ _ y1
                intro b hb
                obtain ⟨cc, fr, x1, x2, x3, x4⟩ := seen p (rsame p hps) (okO_mem w7 p hps) b hb
                refine ⟨cc, fr, fun hF => x1 (.inl hF), x2, fun k v hk => ?_, x4⟩
                have hb0 := old_get _ b (isame p hps).2 hb
                obtain ⟨_, _, _, _, x3', _⟩ := ho b hb0
                obtain ⟨hlk, _⟩ := x3' k v hk
                exact x3 k v (by rw [← y2 k hlk]; exact hk)
              · rcases after p.1 with ⟨p2, hp2m, hp2e, k5⟩ | ⟨k5, _⟩
                · rw [k2] at k5
                  rw [k5] at hi
                  cases hi
                  have := seenO p2 (rchg p2 hp2m) (okO_mem w8 p2 hp2m)
                  rw [hp2e] at this
                  exact this
                · exact absurd hpq.symm (k5 q hq)
            · -- not seen by the call
              have ho := r.obj i o hi
              refine ObjR_mono hext (fun b hb => ?_) (ObjR_heap ho fun _ b hb => ?_)
              · rcases (e.known_iff i).1 (hsub i b hb).2 with hh | ⟨p, hp, he⟩
                · exact old_get i b hh hb
                · exact absurd he (k1 p hp)
              · exact (r1.fr b.blk (.inr ⟨i, o, b, hi, hl, hb, rfl, k4⟩)).2
          · trivial
      · rcases split i o b hi hl hm1 with ⟨p, rfl, hp⟩ | ⟨z1, z2, z3⟩
        · obtain ⟨cs, x1, _⟩ := hp
          rcases split j o' b' hj hl' hm2 with ⟨q, rfl, hq⟩ | ⟨y1, y2, y3⟩
          · obtain ⟨cs', x1', _⟩ := hq
            exact r1.inj _ _ _ _ _ _ x1 x1' trivial trivial (hsub _ _ hm1).1 (hsub _ _ hm2).1 he
          · exfalso
            have := (ObjR_bi (r1.obj _ _ x1) trivial (hsub _ _ hm1).1).1
            exact this (.inr ⟨j, o', b', y1, hl', y2, he.symm, y3⟩)
        · rcases split j o' b' hj hl' hm2 with ⟨q, rfl, hq⟩ | ⟨y1, y2, y3⟩
          · exfalso
            obtain ⟨cs', x1', _⟩ := hq
            have := (ObjR_bi (r1.obj _ _ x1') trivial (hsub _ _ hm2).1).1
            exact this (.inr ⟨i, o, b, z1, hl, z2, he, z3⟩)
          · exact r.inj _ _ _ _ _ _ z1 y1 hl hl' z2 y2 he
end
end Go.Sim


namespace Go.Sim
noncomputable section
variable {P : Program}

/-! ### what the program's variables hold, out of a row's data -/
mutual
def flat (P : Program) : TypeId → DataW Unit → Option (List Value)
  | t, .lit (.bool b) => match P.underlying t with
    | some .bool => some [.bool b]
    | _ => none
  | t, .lit (.int k n) => match P.underlying t with
    | some (.int _) => some [.int k n]
    | _ => none
  | t, .agg ds => match P.underlying t with
    | some (.array n e) => match flats P e ds with
      | some l => match Nat.beq (P.cellsOf t) (n * P.cellsOf e), Nat.beq ds.length n with
        | true, true => some l
        | _, _ => none
      | none => none
    | some (.struct fs) => match flatF P fs.toList 0 ds with
      | some l => match Nat.beq l.length (P.cellsOf t), Nat.beq ds.length fs.size with
        | true, true => some l
        | _, _ => none
      | none => none
    | _ => none
  | _, _ => none
def flatF (P : Program) : List Field → Nat → List (DataW Unit) → Option (List Value)
  | _, _, [] => some []
  | fs, off, d :: r => match fs with
    | [] => none
    | f :: fs => match Nat.beq f.offset off, flat P f.type d with
      | true, some a => match Nat.beq a.length (P.cellsOf f.type), flatF P fs (off + a.length) r with
        | true, some b => some (a ++ b)
        | _, _ => none
      | _, _ => none
def flats (P : Program) : TypeId → List (DataW Unit) → Option (List Value)
  | _, [] => some []
  | e, d :: r => match flat P e d, flats P e r with
    | some a, some b => match Nat.beq a.length (P.cellsOf e) with
      | true => some (a ++ b)
      | false => none
    | _, _ => none
end

theorem cut_rows {c : Nat} : ∀ (ps : List (List Value)) (cs : List Value), cs.length = ps.length * c → (∀ i p, ps[i]? = some p → (cs.drop (i * c)).take c = p) → cs = ps.flatten
  | [], cs, h, _ => by simpa using h
  | p :: ps, cs, h, hp => by
    have h0 := hp 0 p rfl
    simp only [Nat.zero_mul, List.drop_zero] at h0
    have ih := cut_rows (c := c) ps (cs.drop c) (by simp at h ⊢; rw [h, Nat.add_mul]; omega) (fun i q hq => by
      have := hp (i + 1) q hq
      rw [List.drop_drop]
      rw [Nat.add_mul, Nat.one_mul] at this
      rw [Nat.add_comm c]; exact this)
    rw [List.flatten_cons, ← h0, ← ih, List.take_append_drop]

section
variable {H : Type} {enc : TypeId × Value → H} {w : World} {base : Nat} {sp : Nat → Bool} {held : Bool}
mutual
theorem flat_eq : ∀ (d : DataW Unit) (t : TypeId) (l : List Value) (fuel : Nat) (cs : List Value) (p : List MemPlace), flat P t d = some l → DataW.trod (fun _ => ()) P w base sp held fuel t cs = some (d, p) → cs = l
  | .lit (.bool b), t, l, fuel, cs, p, hf, h => by
    simp only [flat] at hf
    split at hf
    · rename_i hu
      obtain ⟨b2, rfl, hx⟩ := DataW.trod_bool hu h
      cases hf
      simp only [Prod.mk.injEq, DataW.lit.injEq, Lit.bool.injEq] at hx
      rw [hx.1]
    · cases hf
  | .lit (.int k n), t, l, fuel, cs, p, hf, h => by
    simp only [flat] at hf
    split at hf
    · rename_i k2 hu
      obtain ⟨b2, rfl, hx, _⟩ := DataW.trod_int hu h
      cases hf
      simp only [Prod.mk.injEq, DataW.lit.injEq, Lit.int.injEq] at hx
      rw [hx.1.1, hx.1.2]
    · cases hf
  | .agg ds, t, l, fuel, cs, p, hf, h => by
    simp only [flat] at hf
    split at hf
    · rename_i n e hu
      split at hf
      · rename_i l2 hl
        split at hf
        · rename_i h1 h2
          cases hf
          obtain ⟨xs, m, rfl, hx, hlen, hxs, hel⟩ := DataW.trod_array hu h
          simp only [Prod.mk.injEq, DataW.agg.injEq] at hx
          have e1 := beqT h1
          have e2 := beqT h2
          obtain ⟨ps, g1, g2, g3⟩ := flats_eq ds e l hl xs hx.1 m (fun (i : Nat) (x : DataW Unit × List MemPlace) (hi : xs[i]? = some x) => by
            have hlt := lgetElem?_lt hi
            rw [hxs] at hlt
            exact ⟨_, (hel i hlt).trans hi⟩)
          rw [g1]
          refine cut_rows (c := P.cellsOf e) ps cs (by rw [hlen, e1, g2, hxs]) (fun i q hq => ?_)
          have hlt := lgetElem?_lt hq
          rw [g2, hxs] at hlt
          obtain ⟨x, hx2⟩ : ∃ x, xs[i]? = some x := ⟨xs[i], List.getElem?_eq_getElem (by rw [hxs]; exact hlt)⟩
          exact g3 i x q hx2 hq _ ((hel i hlt).trans hx2)
        · cases hf
      · cases hf
    · rename_i fs hu
      split at hf
      · rename_i l2 hl
        split at hf
        · rename_i h1 h2
          cases hf
          obtain ⟨xs, m, rfl, hx, hlen, hxs, hel⟩ := DataW.trod_struct hu h
          simp only [Prod.mk.injEq, DataW.agg.injEq] at hx
          have := flatF_eq ds fs.toList 0 l hl xs hx.1 m cs (fun (i : Nat) (f : Field) (x : DataW Unit × List MemPlace) (hi : fs.toList[i]? = some f) (hi2 : xs[i]? = some x) => by
            rw [← hi2]; exact hel i f (by simpa using hi))
          rw [List.drop_zero, beqT h1, ← hlen, List.take_length] at this
          exact this
        · cases hf
      · cases hf
    · cases hf
  | .lit (.float _ _), _, _, _, _, _, hf, _ => by simp [flat] at hf
  | .lit (.string _), _, _, _, _, _, hf, _ => by simp [flat] at hf
  | .nil, _, _, _, _, _, hf, _ => by simp [flat] at hf
  | .ptr _, _, _, _, _, _, hf, _ => by simp [flat] at hf
  | .slice _ _, _, _, _, _, _, hf, _ => by simp [flat] at hf
  | .iface _ _, _, _, _, _, _, hf, _ => by simp [flat] at hf
  | .map _, _, _, _, _, _, hf, _ => by simp [flat] at hf
  | .held _, _, _, _, _, _, hf, _ => by simp [flat] at hf
theorem flatF_eq : ∀ (ds : List (DataW Unit)) (fs : List Field) (off : Nat) (l : List Value), flatF P fs off ds = some l → ∀ (xs : List (DataW Unit × List MemPlace)), ds = xs.map (·.1) → ∀ (m : Nat) (cs : List Value),
    (∀ (i : Nat) (f : Field) (x : DataW Unit × List MemPlace), fs[i]? = some f → xs[i]? = some x → DataW.trod (fun _ => ()) P w base sp held m f.type ((cs.drop f.offset).take (P.cellsOf f.type)) = some x) → (cs.drop off).take l.length = l
  | [], fs, off, l, hf, xs, hx, m, cs, hr => by
    simp only [flatF, Option.some.injEq] at hf
    subst hf
    simp
  | d :: ds, fs, off, l, hf, xs, hx, m, cs, hr => by
    simp only [flatF] at hf
    split at hf
    · cases hf
    · rename_i f fs2
      split at hf
      · rename_i a ho ha
        split at hf
        · rename_i b hlen hb
          cases hf
          cases xs with
          | nil => cases hx
          | cons x xs =>
            simp only [List.map_cons, List.cons.injEq] at hx
            obtain ⟨x1, x2⟩ := x
            have h0 := hr 0 f (x1, x2) rfl rfl
            simp only at hx
            rw [← hx.1, beqT ho] at h0
            have e1 := flat_eq d f.type a m _ x2 ha h0
            have e2 := flatF_eq ds fs2 (off + a.length) b hb xs hx.2 m cs (fun (i : Nat) (f : Field) (y : DataW Unit × List MemPlace) hi hi2 => hr (i + 1) f y (by simpa using hi) (by simpa using hi2))
            rw [List.length_append, List.take_add, List.drop_drop, e2, beqT hlen, e1]
        · cases hf
      · cases hf
theorem flats_eq : ∀ (ds : List (DataW Unit)) (e : TypeId) (l : List Value), flats P e ds = some l → ∀ (xs : List (DataW Unit × List MemPlace)), ds = xs.map (·.1) → ∀ (m : Nat), (∀ (i : Nat) (x : DataW Unit × List MemPlace), xs[i]? = some x → ∃ cs, DataW.trod (fun _ => ()) P w base sp held m e cs = some x) →
    ∃ ps : List (List Value), l = ps.flatten ∧ ps.length = xs.length ∧ ∀ (i : Nat) (x : DataW Unit × List MemPlace) (q : List Value), xs[i]? = some x → ps[i]? = some q → ∀ cs, DataW.trod (fun _ => ()) P w base sp held m e cs = some x → cs = q
  | [], e, l, hf, xs, hx, m, hr => by
    simp only [flats, Option.some.injEq] at hf
    subst hf
    cases xs with
    | nil => exact ⟨[], rfl, rfl, fun i x q hi => (by simp at hi)⟩
    | cons x xs => cases hx
  | d :: ds, e, l, hf, xs, hx, m, hr => by
    simp only [flats] at hf
    split at hf
    · rename_i a b ha hb
      split at hf
      · cases hf
        cases xs with
        | nil => cases hx
        | cons x xs =>
          simp only [List.map_cons, List.cons.injEq] at hx
          obtain ⟨ps, g1, g2, g3⟩ := flats_eq ds e b hb xs hx.2 m (fun (i : Nat) (y : DataW Unit × List MemPlace) (hi : xs[i]? = some y) => hr (i + 1) y (by simpa using hi))
          refine ⟨a :: ps, by rw [List.flatten_cons, g1], by simp [g2], fun i y q hi hq cs hcs => ?_⟩
          cases i with
          | zero =>
            simp only [List.getElem?_cons_zero, Option.some.injEq] at hi hq
            subst hi; subst hq
            obtain ⟨x1, x2⟩ := x
            simp only at hx
            rw [← hx.1] at hcs
            exact flat_eq d e a m cs x2 ha hcs
          | succ i => exact g3 i y q (by simpa using hi) (by simpa using hq) cs hcs
      · cases hf
    · cases hf
end
end

theorem laidVars_mem {w : World} {n : String} {d : DataW Unit} : ∀ {laid : List (String × DataW Unit)} {ps : List MemPlace}, DataW.LaidVars P w laid ps → (n, d) ∈ laid →
    ∃ g t cs fuel p, P.globalNamed n = some g ∧ (P.globals[g]?).map (·.type) = some t ∧ w.var? P n = some cs ∧ DataW.trod (fun _ => ()) P w 0 (fun _ => true) false fuel t cs.toList = some (d, p)
  | [], _, _, h => by cases h
  | (n2, d2) :: r, ps, hl, h => by
    obtain ⟨g, t, cs, fuel, p, q, h1, h2, h3, h4, h5, _⟩ := hl
    rcases List.mem_cons.1 h with e | h
    · cases e; exact ⟨g, t, cs, fuel, p, h1, h2, h3, h4⟩
    · exact laidVars_mem h5 h

/-- a variable's cells -/
theorem glob_of_laid {w : World} {laid : List (String × DataW Unit)} {n : String} {d : DataW Unit} {g : Nat} {t : TypeId} {l : List Value} (h : laidMet P laid w) (hm : (n, d) ∈ laid) (hg : P.globalNamed n = some g) (ht : (P.globals[g]?).map (·.type) = some t) (hf : flat P t d = some l)
    (hne : l.isEmpty = false) (hno : noA.noAs l = true) : g < w.heap.size ∧ ∀ k v, l[k]? = some v → noA v = true ∧ w.cell? ⟨g, k, none⟩ = some v := by
  obtain ⟨ps, hl, _⟩ := h
  obtain ⟨g2, t2, cs, fuel, p, h1, h2, h3, h4⟩ := laidVars_mem hl hm
  obtain rfl := Option.some.inj (hg.symm.trans h1)
  obtain rfl := Option.some.inj (ht.symm.trans h2)
  have e := flat_eq d t l fuel cs.toList p hf h4
  have hcell : ∀ (k : Nat) (v : Value), l[k]? = some v → w.cell? ⟨g, k, none⟩ = some v := fun k v hk => by
    rw [World.var?_cell hg h3 k, ← hk, ← e, Array.getElem?_toList]
  have hno2 : ∀ (l : List Value), noA.noAs l = true → ∀ (k : Nat) (v : Value), l[k]? = some v → noA v = true := by
    intro l
    induction l with
    | nil => intro _ k v hk; simp at hk
    | cons u r ih =>
      intro hn k v hk
      simp only [noA.noAs] at hn
      cases hu : noA u with
      | false => rw [hu] at hn; cases hn
      | true =>
        rw [hu] at hn
        cases k with
        | zero => simp at hk; subst hk; exact hu
        | succ k => exact ih hn k v (by simpa using hk)
  refine ⟨?_, fun k v hk => ⟨hno2 l hno k v hk, hcell k v hk⟩⟩
  cases l with
  | nil => cases hne
  | cons v r =>
    have := hcell 0 v rfl
    unfold World.cell? at this
    rcases Nat.lt_or_ge g w.heap.size with hh | hh
    · exact hh
    · simp [Array.getElem?_eq_none hh] at this

def lookG : List (Nat × List Value) → Nat → Option (List Value)
  | [], _ => none
  | (g, l) :: r, x => match Nat.beq g x with
    | true => some l
    | false => lookG r x
theorem globIn_look {w : World} : ∀ {GL : List (Nat × List Value)}, (∀ x ∈ GL, x.1 < w.heap.size ∧ ∀ k v, x.2[k]? = some v → noA v = true ∧ w.cell? ⟨x.1, k, none⟩ = some v) → GlobIn (lookG GL) w
  | [], _, g, l, h => by cases h
  | (g, l) :: r, hall, x, l2, h => by
    simp only [lookG] at h
    cases hb : Nat.beq g x with
    | true =>
      rw [hb] at h
      cases h
      obtain rfl := beqT hb
      exact hall _ (List.mem_cons_self ..)
    | false => rw [hb] at h; exact globIn_look (fun y hy => hall y (List.mem_cons_of_mem _ hy)) x l2 h
end
end Go.Sim


namespace Go.Sim
noncomputable section
variable {P : Program} {G : Nat → Option (List Value)}

/-! ### the evaluator with a table of calls on memory -/
def callM (T call : Call) : Call := fun f args h => Option.rec (motive := fun _ => Option (Value × Hp)) (call f args h) (fun r => some r) (T f args h)
theorem callM_or {T call : Call} {t : Tg} {args : List Value} {h h' : Hp} {v : Value} (e : callM T call t args h = some (v, h')) : call t args h = some (v, h') ∨ T t args h = some (v, h') := by
  unfold callM at e
  cases ht : T t args h with
  | none => rw [ht] at e; exact .inl e
  | some r => rw [ht] at e; cases e; exact .inr rfl
theorem callM_ok {T call : Call} (hT : CallOk P G T) (hC : CallOk P G call) : CallOk P G (callM T call) where
  fn := fun f args h v h' e => (callM_or e).elim (hC.fn f args h v h') (hT.fn f args h v h')
  yld := fun f args h v h' e => (callM_or e).elim (hC.yld f args h v h') (hT.yld f args h v h')
def noM : Call := fun _ _ _ => none
theorem noM_ok : CallOk P G noM where
  fn := fun f args h v h' e => by cases e
  yld := fun f args h v h' e => by cases e

def runM (P : Program) (G : Nat → Option (List Value)) (T : Call) (n : Nat) : Rec :=
  Nat.rec (motive := fun _ => Rec) (fun _ _ _ _ => none) (fun _ ih c nt tm h => (compC P G noExt (drawnD P G noExt) c nt).f (callM T (compT P G ih)) ih tm h) n
def callR (P : Program) (G : Nat → Option (List Value)) (T : Call) (n : Nat) : Call := compT P G (runM P G T n)
theorem callR_eq (T : Call) (n : Nat) : callR P G T n = callF P G (runM P G T n) := compT_eq P G _
theorem runM_succ (T : Call) (n : Nat) : runM P G T (n + 1) = runCode P G noExt (fun call ops nt tm h => (drawnD P G noExt ops nt).f call tm h) (callM T (callF P G (runM P G T n))) (runM P G T n) := by
  funext c nt tm h
  show (compC P G noExt (drawnD P G noExt) c nt).f (callM T (callR P G T n)) (runM P G T n) tm h = _
  rw [callR_eq, compC_eq, runCodeF_eq]
theorem runM_sound {T : Call} (hN : NamesOk P) (hM : P.follows .mixedOrders = true) (hT : CallOk P G T) : ∀ n, RecOk P G (runM P G T n)
  | 0 => fun c nt tm h e tm' h' hrun => by cases hrun
  | n + 1 => runM_succ (P := P) (G := G) T n ▸ runCode_sound hN noExt_ok (drawnD_sound hN noExt_ok hM) (callM_ok hT (callF_sound (runM_sound hN hM hT n))) (runM_sound hN hM hT n)
theorem callR_ok {T : Call} (hN : NamesOk P) (hM : P.follows .mixedOrders = true) (hT : CallOk P G T) (n : Nat) : CallOk P G (callR P G T n) := by
  rw [callR_eq]
  exact callF_sound (runM_sound hN hM hT n)

/-- one row more -/
def putE (T : Call) (e : Ent) : Call := fun t args h => Tg.rec (motive := fun _ => Option (Value × Hp)) (fun f => Bool.rec (motive := fun _ => Option (Value × Hp)) (T t args h) (Bool.rec (motive := fun _ => Option (Value × Hp)) (T t args h) (some (e.ans h)) (e.hit args h)) (Nat.beq f e.f)) (fun _ => T t args h) t
/-- what the kernel is asked of a row -/
def entB (P : Program) (G : Nat → Option (List Value)) (T : Call) (n : Nat) (e : Ent) : Bool := bandF e.wf (e.ran (callR P G T n (.fn e.f) e.args e.start))
theorem putE_ok {T T' : Call} {n : Nat} {e : Ent} (hN : NamesOk P) (hM : P.follows .mixedOrders = true) (hT : CallOk P G T) (hT' : CallOk P G T') (he : entB P G T n e = true) : CallOk P G (putE T' e) := by
  obtain ⟨h1, h2⟩ := bandF_true he
  refine ⟨?_, fun q args h v h' hx => hT'.yld q args h v h' hx⟩
  intro f args h v h' hx m F K w args' r ha
  replace hx : Bool.rec (motive := fun _ => Option (Value × Hp)) (T' (.fn f) args h) (Bool.rec (motive := fun _ => Option (Value × Hp)) (T' (.fn f) args h) (some (e.ans h)) (e.hit args h)) (Nat.beq f e.f) = some (v, h') := hx
  cases hf : Nat.beq f e.f with
  | false => rw [hf] at hx; exact hT'.fn f args h v h' hx m F K w args' r ha
  | true =>
    rw [hf] at hx
    replace hx : Bool.rec (motive := fun _ => Option (Value × Hp)) (T' (.fn f) args h) (some (e.ans h)) (e.hit args h) = some (v, h') := hx
    cases hh : e.hit args h with
    | false => rw [hh] at hx; exact hT'.fn f args h v h' hx m F K w args' r ha
    | true =>
      rw [hh] at hx
      replace hx : some (e.ans h) = some (v, h') := hx
      have := ent_sound h1 (callR_ok hN hM hT n) h2 hh r ha
      rw [beqT hf]
      have hp : e.ans h = (v, h') := Option.some.inj hx
      rw [hp] at this
      exact this

/-- 'yields this value' -/
def yieldsM (P : Program) (G : Nat → Option (List Value)) (T : Call) (n : Nat) (f : FuncId) (args : List Value) (v : Value) : Bool := Option.rec (motive := fun _ => Bool) false (fun p => bandF (vEqF p.1 v) (bandF (noA.noAs args) (noA v))) (callR P G T n (.fn f) args ⟨nat_lit 0, .e⟩)
theorem calls_of_yieldsM {T : Call} {n : Nat} {f : FuncId} {args : List Value} {v : Value} (hN : NamesOk P) (hM : P.follows .mixedOrders = true) (hT : CallOk P G T) (e : yieldsM P G T n f args v = true) {w : World} (hG : GlobIn G w) :
    Calls P f ⟨args⟩ w (fun e w' => e = .returned v ∧ Go.RowKit.Below w.heap.size w w') := by
  unfold yieldsM at e
  cases hc : callR P G T n (.fn f) args ⟨0, .e⟩ with
  | none => rw [hc] at e; cases e
  | some p =>
    obtain ⟨u, h'⟩ := p
    rw [hc] at e
    obtain ⟨e1, e2⟩ := bandF_true (a := vEqF u v) e
    obtain ⟨e3, e4⟩ := bandF_true (a := noA.noAs args) e2
    obtain rfl := vEqF_eq e1
    refine ((callR_ok hN hM hT n).fn f args ⟨0, .e⟩ _ h' hc (fun _ => none) (fun b => b < w.heap.size) w w args (rel_start hG) (renOs_noA _ _ e3)).mono ?_
    rintro e2 w' ⟨m', v', h1, h2, h3, rfl⟩
    rw [renO_noA _ _ e4] at h2
    cases h2
    exact ⟨rfl, h3.os, h3.tape, h3.output, h3.size, fun k hk => (h3.fr k hk).2⟩
/-- a call on plain values, whatever memory -/
def putV (T : Call) (f : FuncId) (args : List Value) (v : Value) : Call := fun t as h => Tg.rec (motive := fun _ => Option (Value × Hp)) (fun g => Bool.rec (motive := fun _ => Option (Value × Hp)) (T t as h) (Bool.rec (motive := fun _ => Option (Value × Hp)) (T t as h) (some (v, h)) (argsEq as args)) (Nat.beq g f)) (fun _ => T t as h) t
theorem putV_ok {T T' : Call} {n : Nat} {f : FuncId} {args : List Value} {v : Value} (hN : NamesOk P) (hM : P.follows .mixedOrders = true) (hT : CallOk P G T) (hT' : CallOk P G T') (he : yieldsM P G T n f args v = true) : CallOk P G (putV T' f args v) := by
  refine ⟨?_, fun q args h v h' hx => hT'.yld q args h v h' hx⟩
  intro g as h u h' hx m F K w args' r ha
  replace hx : Bool.rec (motive := fun _ => Option (Value × Hp)) (T' (.fn g) as h) (Bool.rec (motive := fun _ => Option (Value × Hp)) (T' (.fn g) as h) (some (v, h)) (argsEq as args)) (Nat.beq g f) = some (u, h') := hx
  cases hf : Nat.beq g f with
  | false => rw [hf] at hx; exact hT'.fn g as h u h' hx m F K w args' r ha
  | true =>
    rw [hf] at hx
    replace hx : Bool.rec (motive := fun _ => Option (Value × Hp)) (T' (.fn g) as h) (some (v, h)) (argsEq as args) = some (u, h') := hx
    cases hh : argsEq as args with
    | false => rw [hh] at hx; exact hT'.fn g as h u h' hx m F K w args' r ha
    | true =>
      rw [hh] at hx
      have hp : (v, h) = (u, h') := Option.some.inj hx
      cases hp
      have e2 := argsEq_eq hh
      subst e2
      have hnoA : noA.noAs as = true ∧ noA v = true := by
        have he2 := he
        unfold yieldsM at he2
        cases hc : callR P G T n (.fn f) as ⟨0, .e⟩ with
        | none => rw [hc] at he2; cases he2
        | some p =>
          rw [hc] at he2
          obtain ⟨_, x2⟩ := bandF_true (a := vEqF p.1 v) he2
          exact bandF_true (a := noA.noAs as) x2
      rw [renOs_noA _ _ hnoA.1] at ha
      cases ha
      rw [beqT hf]
      refine (calls_of_yieldsM hN hM hT he r.globIn).mono ?_
      rintro en w' ⟨rfl, hb⟩
      exact ⟨m, v, .refl m h, renO_noA _ _ hnoA.2, r.below hb, rfl⟩
end
end Go.Sim


