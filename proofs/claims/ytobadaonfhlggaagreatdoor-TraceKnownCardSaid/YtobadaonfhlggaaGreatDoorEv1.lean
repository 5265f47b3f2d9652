/- A part of the proof that a law returns true: EvOp3 EvOp4 EvOp5 EvOp6 EvStep EvSim EvOpRun EvMain EvShift EvLeave EvResults EvUnwind EvCall EvRange EvRound EvFunc EvFrame EvOrder EvDraw. -/
import Derived.Test.YtobadaonfhlggaaGreatDoorEv0
import Derived.Laws.BytesString
import Derived.Orders
set_option linter.all false
set_option linter.unusedVariables false
set_option linter.unusedSimpArgs false
set_option linter.unnecessarySimpa false
/- Single operations: assertions, maps, copy, len, min and max, calls. -/
namespace Go.Ev
open Go

section
variable {C : Ctx} {st : St} {o : Oper} {R : Type} {k : OR → Option R} {r : R}

theorem op_typeAssert {x : Operand} {xt t : TypeId} {ok : Bool} (ho : o.op = .typeAssert x xt t ok) (h : opA C st o k = some r) : ∃ res, OpSim C st o res ∧ k res = some r := by
  rw [opA_eq] at h; unfold opA0 at h
  simp only [ho] at h
  split at h
  · simp [fail] at h
  · rename_i d u v hn hd hv
    have hm : ∀ (w : World) (f g : Sem Value), (match (some d, (Value.iface u default)) with | (some (.interface _), _) => f | _ => g) = g := fun w f g => by
      cases d <;> first | exact absurd rfl (hn _) | rfl
    cases hb : (u == t) with
    | true =>
      rw [hb] at h
      simp only [beq_iff_eq] at hb
      subst hb
      simp only [cond_true] at h
      have key : ∀ w I μ ρ, EvR C w I μ st ρ → ∃ cv, ρ x = .iface u cv ∧ VR C w I μ v cv := fun w I μ ρ he => by
        have h1 := he x _ hv
        generalize ρ x = ux at h1
        cases h1
        exact ⟨_, rfl, ‹_›⟩
      refine ⟨_, sim_pure fun w I μ ρ hr he => ?_, h⟩
      obtain ⟨cv, h1, h2⟩ := key w I μ ρ he
      cases ok with
      | true =>
        refine ⟨.tuple #[cv, .bool true], ?_, ?_⟩
        · simp only [execOp, ho, h1, Instr.typeAssert, Sem.run_bind, run_underlying' hd, Result.andThen_ok]
          cases d <;> first | exact absurd rfl (hn _) | simp
        · exact VR.tuple (C := C) (w := w) (I := I) μ [v, .bool true] [cv, .bool true] (.cons _ _ _ _ _ h2 (.cons _ _ _ _ _ (.bool _ _) (.nil _)))
      | false =>
        refine ⟨cv, ?_, h2⟩
        simp only [execOp, ho, h1, Instr.typeAssert, Sem.run_bind, run_underlying' hd, Result.andThen_ok]
        cases d <;> first | exact absurd rfl (hn _) | simp
    | false =>
      rw [hb] at h
      have hne : u ≠ t := by simpa using hb
      simp only [cond_false] at h
      cases ok with
      | false => simp [fail] at h
      | true =>
        simp only [cond_true] at h
        split at h
        · rename_i z hz
          refine ⟨_, sim_pure fun w I μ ρ hr he => ?_, h⟩
          obtain ⟨zv, h1, h2⟩ := zero_rel hz
          have h3 := he x _ hv
          generalize hρ : ρ x = ux at h3
          cases h3
          refine ⟨.tuple #[zv, .bool false], ?_, ?_⟩
          · simp only [execOp, ho, hρ, Instr.typeAssert, Sem.run_bind, run_underlying' hd, Result.andThen_ok]
            cases d <;> first | exact absurd rfl (hn _) | simp [hne, h1]
          · exact VR.tuple (C := C) (w := w) (I := I) μ [z, .bool false] [zv, .bool false] (.cons _ _ _ _ _ (h2 w I μ) (.cons _ _ _ _ _ (.bool _ _) (.nil _)))
        · simp at h
  · rename_i d hn hd hv
    cases ok with
    | false => simp [fail] at h
    | true =>
      simp only [cond_true] at h
      split at h
      · rename_i z hz
        refine ⟨_, sim_pure fun w I μ ρ hr he => ?_, h⟩
        obtain ⟨zv, h1, h2⟩ := zero_rel hz
        have h3 := he x _ hv
        generalize hρ : ρ x = ux at h3
        cases h3
        refine ⟨.tuple #[zv, .bool false], ?_, ?_⟩
        · simp only [execOp, ho, hρ, Instr.typeAssert, Sem.run_bind, run_underlying' hd, Result.andThen_ok]
          cases d <;> first | exact absurd rfl (hn _) | simp [h1]
        · exact VR.tuple (C := C) (w := w) (I := I) μ [z, .bool false] [zv, .bool false] (.cons _ _ _ _ _ (h2 w I μ) (.cons _ _ _ _ _ (.bool _ _) (.nil _)))
      · simp at h
  · simp [fail] at h

/- maps -/

theorem sameBits_bool (n : Nat) (a b : Bool) : Instr.sameBits n (.bool a) (.bool b) = (a == b) := by cases n <;> rfl
theorem sameBits_int (n : Nat) (j k : IntKind) (a b : Int) : Instr.sameBits n (.int j a) (.int k b) = (j == k && a == b) := by cases n <;> rfl
theorem sameBits_str (n : Nat) (a b : ByteArray) : Instr.sameBits n (.string a) (.string b) = (a == b) := by cases n <;> rfl

theorem sameAV_rel {kd : TypeDesc} {a b : AV} {s : Bool} (h : sameAV kd a b = some s) {w : World} {I : Nat → Prop} {μ μ' : Mu} {x y : Value} (hx : VR C w I μ a x) (hy : VR C w I μ' b y) :
    Instr.sameNow kd x y = some s ∧ (s = true → Instr.sameBits 10000 y x = true) := by
  unfold sameAV at h
  split at h
  · cases hx; cases hy
    cases h
    exact ⟨rfl, fun h => by rw [sameBits_bool]; simp only [beq_iff_eq] at h; simp [h]⟩
  · rename_i j a k b
    cases hx; cases hy
    cases hb : (j == k) with
    | false => rw [hb] at h; simp at h
    | true =>
      rw [hb] at h
      simp only [beq_iff_eq] at hb
      cases h
      subst hb
      refine ⟨by simp [Instr.sameNow], fun h => ?_⟩
      simp only [beq_iff_eq] at h
      rw [sameBits_int]; simp [h]
  · rename_i a b
    cases h
    generalize hA : AV.str a = aa at hx
    generalize hB : AV.str b = bb at hy
    cases hx <;> first | (simp at hA; done) | skip
    cases hy <;> first | (simp at hB; done) | skip
    rename_i s1 s2
    have hA' := AV.str.inj hA
    have hB' := AV.str.inj hB
    subst hA' hB'
    refine ⟨by simp only [Instr.sameNow]; rw [ba_eq], fun h => ?_⟩
    rw [sameBits_str, ba_eq]
    simp only [beq_iff_eq] at h ⊢
    exact h.symm
  · simp at h

theorem findA_rel {kd : TypeDesc} {key : AV} {es : List (AV × AV)} {i : Nat} {kk : Option (Nat × AV) → Option R} (h : findA kd key es i kk = some r) :
    ∃ res, kk res = some r ∧ ∀ (w : World) (I : Nat → Prop) (μ μ' : Mu) (ck : Value) (en : List MapEntry), VR C w I μ key ck → VRs C w I μ' (es.map (·.1)) (en.map (·.key)) → VRs C w I μ' (es.map (·.2)) (en.map (·.val)) →
      match res with
      | none => Instr.findNow kd ck en i = some none
      | some (j, v) => ∃ cv e, Instr.findNow kd ck en i = some (some (j, cv)) ∧ VR C w I μ' v cv ∧ i ≤ j ∧ en[j - i]? = some e ∧ Instr.sameBits 10000 e.key ck = true := by
  induction es generalizing i with
  | nil =>
    refine ⟨none, h, fun w I μ μ' ck en hk h1 h2 => ?_⟩
    cases en with
    | nil => rfl
    | cons e en => cases h1
  | cons e es ih =>
    obtain ⟨a, v⟩ := e
    simp only [findA] at h
    split at h
    · rename_i b hb
      cases b with
      | true =>
        refine ⟨some (i, v), h, fun w I μ μ' ck en hk h1 h2 => ?_⟩
        cases en with
        | nil => cases h1
        | cons e en =>
          simp only [List.map_cons] at h1 h2
          cases h1 with
          | cons _ _ _ _ _ p1 p2 =>
          cases h2 with
          | cons _ _ _ _ _ q1 q2 =>
          obtain ⟨s1, s2⟩ := sameAV_rel hb hk p1
          exact ⟨e.val, e, by simp [Instr.findNow, s1], q1, Nat.le_refl _, by simp, s2 rfl⟩
      | false =>
        obtain ⟨res, r1, r2⟩ := ih h
        refine ⟨res, r1, fun w I μ μ' ck en hk h1 h2 => ?_⟩
        cases en with
        | nil => cases h1
        | cons e en =>
          simp only [List.map_cons] at h1 h2
          cases h1 with
          | cons _ _ _ _ _ p1 p2 =>
          cases h2 with
          | cons _ _ _ _ _ q1 q2 =>
          obtain ⟨s1, s2⟩ := sameAV_rel hb hk p1
          have := r2 w I μ μ' ck en hk p2 q2
          cases res with
          | none => simp only [Instr.findNow, s1]; exact this
          | some jv =>
            obtain ⟨j, v⟩ := jv
            obtain ⟨cv, e', t1, t2, t3, t4, t5⟩ := this
            refine ⟨cv, e', by simp only [Instr.findNow, s1]; exact t1, t2, by omega, ?_, t5⟩
            rw [show j - i = (j - (i + 1)) + 1 by omega]
            simpa using t4
    · simp at h

theorem findA_some {kd : TypeDesc} {key : AV} {es : List (AV × AV)} {i : Nat} {kk : Option (Nat × AV) → Option R} (h : findA kd key es i kk = some r) :
    ∃ res, findA kd key es i some = some res ∧ kk res = some r := by
  induction es generalizing i with
  | nil => exact ⟨none, rfl, h⟩
  | cons e es ih =>
    obtain ⟨a, v⟩ := e
    simp only [findA] at h ⊢
    cases hs : sameAV kd key a with
    | none => rw [hs] at h; cases h
    | some b =>
      rw [hs] at h
      cases b with
      | true => exact ⟨some (i, v), rfl, h⟩
      | false => exact ih h

def inEs (a : Int) (es : List (AV × AV)) : Option (Nat × AV) → Prop
  | some (_, v) => (.int .i64 a, v) ∈ es
  | none => ∀ v, (.int .i64 a, v) ∉ es

theorem findA_int {kd : TypeDesc} {key : AV} {es : List (AV × AV)} {i : Nat} {res : Option (Nat × AV)} (hk : ∀ x ∈ es, ∃ n, x.1 = .int .i64 n) (h : findA kd key es i some = some res) :
    es = [] ∧ res = none ∨ ∃ k a, kd = .int k ∧ key = .int .i64 a ∧ inEs a es res := by
  induction es generalizing i with
  | nil => simp only [findA] at h; cases h; exact .inl ⟨rfl, rfl⟩
  | cons e es ih =>
    obtain ⟨a, v⟩ := e
    right
    obtain ⟨n, hn⟩ := hk (a, v) (by simp)
    dsimp only at hn
    subst hn
    have hsh : ∃ k a, kd = .int k ∧ key = .int .i64 a := by
      have hne : sameAV kd key (.int .i64 n) ≠ none := fun h0 => by
        simp only [findA, h0] at h
        cases h
      cases kd with
      | int k => cases key with
        | int j a => cases hj : j == IntKind.i64 with
          | true =>
            have : j = .i64 := by simpa using hj
            subst this
            exact ⟨k, a, rfl, rfl⟩
          | false => exact absurd (by simp only [sameAV, hj, cond_false]) hne
        | _ => exact absurd rfl hne
      | _ => cases key <;> exact absurd rfl hne
    obtain ⟨k, a, rfl, rfl⟩ := hsh
    have hs : sameAV (.int k) (.int .i64 a) (.int .i64 n) = some (a == n) := rfl
    have h2 : (bif a == n then some (some (i, v)) else findA (.int k) (.int .i64 a) es (i + 1) some) = some res := by
      rw [← h]; simp only [findA, hs]
    clear h
    rename (_ = some res) => h
    refine ⟨k, a, rfl, rfl, ?_⟩
    cases hb : a == n with
    | true =>
      rw [hb] at h
      have : a = n := by simpa using hb
      subst this
      have h' : some (i, v) = res := Option.some.inj h
      subst h'
      simp [inEs]
    | false =>
      rw [hb] at h
      have hne : a ≠ n := by simpa using hb
      rcases ih (fun x hx => hk x (by simp [hx])) h with ⟨rfl, rfl⟩ | ⟨k', a', h1, h2, h3⟩
      · intro v' hv'
        simp at hv'
        exact hne hv'.1
      · cases h2
        cases res with
        | some jv => obtain ⟨j, v'⟩ := jv; exact List.mem_cons_of_mem _ h3
        | none =>
          intro v' hv'
          rcases List.mem_cons.1 hv' with h4 | h4
          · cases h4; exact hne rfl
          · exact h3 v' h4

theorem findA_goes {k : IntKind} {a : Int} {es : List (AV × AV)} (hk : ∀ x ∈ es, ∃ n, x.1 = .int .i64 n) : ∀ i, ∃ res, findA (.int k) (.int .i64 a) es i some = some res := by
  induction es with
  | nil => exact fun i => ⟨none, rfl⟩
  | cons e es ih =>
    intro i
    obtain ⟨x, v⟩ := e
    obtain ⟨n, hn⟩ := hk (x, v) (by simp)
    dsimp only at hn
    subst hn
    simp only [findA]
    have hs : sameAV (.int k) (.int .i64 a) (.int .i64 n) = some (a == n) := rfl
    rw [hs]
    cases a == n with
    | true => exact ⟨_, rfl⟩
    | false => exact ih (fun x hx => hk x (by simp [hx])) (i + 1)

theorem findA_alike {kd : TypeDesc} {key : AV} {es es' : List (AV × AV)} {i : Nat} {res : Option (Nat × AV)} (ha : MapAlike es es') (h : findA kd key es i some = some res) :
    ∃ res', findA kd key es' i some = some res' ∧ res'.map (·.2) = res.map (·.2) := by
  have hk' : ∀ x ∈ es', ∃ n, x.1 = .int .i64 n := fun x hx => ha.keys x ((ha.mem x).1 hx)
  rcases findA_int ha.keys h with ⟨rfl, rfl⟩ | ⟨k, a, rfl, rfl, h3⟩
  · cases es' with
    | nil => exact ⟨none, rfl, rfl⟩
    | cons x xs => exact absurd ((ha.mem x).1 (by simp)) (by simp)
  · obtain ⟨res', hr'⟩ := findA_goes (k := k) (a := a) hk' i
    refine ⟨res', hr', ?_⟩
    rcases findA_int hk' hr' with ⟨rfl, rfl⟩ | ⟨k', a', _, h5, h6⟩
    · cases res with
      | none => rfl
      | some jv =>
        obtain ⟨j, v⟩ := jv
        exact absurd ((ha.mem _).2 h3) (by simp)
    · cases h5
      cases res with
      | none => cases res' with
        | none => rfl
        | some jv => obtain ⟨j, v⟩ := jv; exact absurd ((ha.mem _).1 h6) (h3 v)
      | some jv =>
        obtain ⟨j, v⟩ := jv
        cases res' with
        | none => exact absurd ((ha.mem _).2 h3) (h6 v)
        | some jv' =>
          obtain ⟨j', v'⟩ := jv'
          have := ha.once _ h3 _ ((ha.mem _).1 h6) rfl
          cases this
          rfl

theorem plainKey_rel {kt : TypeId} {key : AV} {kd : TypeDesc} (h : plainKey C kt key = some kd) {w : World} {I : Nat → Prop} {μ : Mu} {ck : Value} (hk : VR C w I μ key ck) :
    C.und kt = some kd ∧ ∀ (b : Bool) w', (Instr.checkKey b 10000 kt ck).run C.P w' = .ok () w' := by
  have run : ∀ (b : Bool) w', C.und kt = some kd → (kd = .bool ∨ kd = .string ∨ ∃ i, kd = .int i) → (Instr.checkKey b 10000 kt ck).run C.P w' = .ok () w' := fun b w' hu hd => by
    unfold Instr.checkKey
    simp only [Sem.run_bind, run_underlying' hu, Result.andThen_ok]
    rcases hd with rfl | rfl | ⟨i, rfl⟩ <;> rfl
  unfold plainKey at h
  split at h <;> first
    | (simp at h; done)
    | (rename_i hu
       cases h
       exact ⟨hu, fun b w' => run b w' hu (by simp)⟩)

theorem lookupA_rel {t : TypeId} {m key : AV} {ok : Bool} {kk : AV → Option R} {H : Hp} (h : lookupA C H t m key ok kk = some r) :
    ∃ v, kk v = some r ∧ ∀ w I μ, HR C w I μ H.bl → ∀ cm ck, VR C w I μ m cm → VR C w I μ key ck → ∃ cv, (Instr.lookup t cm ck ok).run C.P w = .ok cv w ∧ VR C w I μ v cv := by
  unfold lookupA at h
  split at h
  · rename_i kt e ht
    split at h
    · simp [fail] at h
    · rename_i kd hkd
      split at h
      · simp at h
      · rename_i es hes
        have mem : ∀ w I μ, HR C w I μ H.bl → ∀ cm, VR C w I μ m cm → ∃ (μ' : Mu) (en : Array MapEntry) (es' : List (AV × AV)), (es' = es ∨ MapAlike es es') ∧ (∀ v cv, VR C w I μ' v cv → VR C w I μ v cv) ∧ VRs C w I μ' (es'.map (·.1)) (en.toList.map (·.key)) ∧ VRs C w I μ' (es'.map (·.2)) (en.toList.map (·.val)) ∧
            ((cm = .map none ∧ en = #[]) ∨ ∃ rr clk, cm = .map (some rr) ∧ w.heap[rr]? = some (.map en clk)) := by
          intro w I μ hr cm hm
          split at hes
          · cases hes; cases hm
            exact ⟨μ, #[], [], .inl rfl, fun _ _ h => h, .nil _, .nil _, .inl ⟨rfl, rfl⟩⟩
          · rename_i b
            split at hes
            · rename_i es' hb
              cases hes; cases hm
              rename_i L hL
              obtain ⟨L', h1, en, clk, h2, h3, h4⟩ := hr.blk b _ hb rfl
              rw [hL] at h1; cases h1
              exact ⟨μ, en, _, .inl rfl, fun _ _ h => h, h3, h4, .inr ⟨_, clk, rfl, h2⟩⟩
            · simp at hes
          · rename_i g
            cases hm with
            | gmap _ _ rr kvs kvs' en clk q1 q2 q3 q0 q4 q5 =>
              rw [hes] at q1; cases q1
              exact ⟨mu0, en, kvs', .inr q0, fun v cv hv => hv.mono (fun _ h => h) (fun _ _ => rfl) (fun b L hb => by simp [mu0] at hb), q4, q5, .inr ⟨_, clk, rfl, q3⟩⟩
          · simp at hes
        obtain ⟨res, r0, r1⟩ := findA_some h
        have r2 : ∀ es' : List (AV × AV), (es' = es ∨ MapAlike es es') → ∃ res', res'.map (·.2) = res.map (·.2) ∧ ∀ (w : World) (I : Nat → Prop) (μ μ' : Mu) (ck : Value) (en : List MapEntry), VR C w I μ key ck → VRs C w I μ' (es'.map (·.1)) (en.map (·.key)) → VRs C w I μ' (es'.map (·.2)) (en.map (·.val)) →
            match res' with
            | none => Instr.findNow kd ck en 0 = some none
            | some (j, v) => ∃ cv e, Instr.findNow kd ck en 0 = some (some (j, cv)) ∧ VR C w I μ' v cv ∧ 0 ≤ j ∧ en[j - 0]? = some e ∧ Instr.sameBits 10000 e.key ck = true := fun es' ha => by
          have : ∃ res', findA kd key es' 0 some = some res' ∧ res'.map (·.2) = res.map (·.2) := by
            rcases ha with rfl | ha
            · exact ⟨res, r0, rfl⟩
            · exact findA_alike ha r0
          obtain ⟨res', s1, s2⟩ := this
          obtain ⟨res2, s3, s4⟩ := findA_rel (C := C) s1
          cases s3
          exact ⟨res', s2, s4⟩
        cases res with
        | some jv =>
          obtain ⟨j0, v⟩ := jv
          refine ⟨_, r1, fun w I μ hr cm ck hm hk => ?_⟩
          obtain ⟨μ', en, es', m0, m1, m2, m3, m4⟩ := mem w I μ hr cm hm
          obtain ⟨res', t1, t2⟩ := r2 es' m0
          have t3 := t2 w I μ μ' ck en.toList hk m2 m3
          cases res' with
          | none => cases t1
          | some jv' =>
          obtain ⟨j, v'⟩ := jv'
          have hvv : v = v' := (Option.some.inj t1).symm
          subst hvv
          obtain ⟨cv, e', f1, f2, _, _, _⟩ := t3
          obtain ⟨k1, k2⟩ := plainKey_rel hkd hk
          refine ⟨bif ok then .tuple #[cv, .bool true] else cv, ?_, ?_⟩
          · have hf : (Instr.findKey kt ck en.toList).run C.P w = .ok (some (j, cv)) w := by simp [Instr.findKey, run_underlying' k1, f1]
            rcases m4 with ⟨rfl, rfl⟩ | ⟨rr, clk, rfl, m4⟩
            · simp [Instr.findNow] at f1
            · cases ok <;> simp [Instr.lookup, run_underlying' ht, getObj, Sem.run, m4, k2, hf]
          · cases ok
            · exact m1 _ _ f2
            · exact VR.tuple (C := C) (w := w) (I := I) μ [v, .bool true] [cv, .bool true] (.cons _ _ _ _ _ (m1 _ _ f2) (.cons _ _ _ _ _ (.bool _ _) (.nil _)))
        | none =>
          dsimp only at r1
          split at r1
          · rename_i z hz
            refine ⟨_, r1, fun w I μ hr cm ck hm hk => ?_⟩
            obtain ⟨μ', en, es', m0, m1, m2, m3, m4⟩ := mem w I μ hr cm hm
            obtain ⟨res', t1, t2⟩ := r2 es' m0
            have f1 := t2 w I μ μ' ck en.toList hk m2 m3
            cases res' with
            | some jv => cases t1
            | none =>
            dsimp only at f1
            obtain ⟨k1, k2⟩ := plainKey_rel hkd hk
            obtain ⟨zv, z1, z2⟩ := zero_rel hz
            refine ⟨bif ok then .tuple #[zv, .bool false] else zv, ?_, ?_⟩
            · have hf : (Instr.findKey kt ck en.toList).run C.P w = .ok none w := by simp [Instr.findKey, run_underlying' k1, f1]
              rcases m4 with ⟨rfl, rfl⟩ | ⟨rr, clk, rfl, m4⟩
              · simp only [Array.toList_empty] at hf
                cases ok <;> simp [Instr.lookup, run_underlying' ht, k2, hf, z1]
              · cases ok <;> simp [Instr.lookup, run_underlying' ht, getObj, Sem.run, m4, k2, hf, z1]
            · cases ok
              · exact z2 w I μ
              · exact VR.tuple (C := C) (w := w) (I := I) μ [z, .bool false] [zv, .bool false] (.cons _ _ _ _ _ (z2 w I μ) (.cons _ _ _ _ _ (.bool _ _) (.nil _)))
          · simp at r1
  · simp at h

theorem op_lookup {t : TypeId} {x i : Operand} {ok : Bool} (ho : o.op = .lookup t x i ok) (h : opA C st o k = some r) : ∃ res, OpSim C st o res ∧ k res = some r := by
  rw [opA_eq] at h; unfold opA0 at h
  simp only [ho] at h
  split at h
  · rename_i m key hm hk
    obtain ⟨v, h1, h2⟩ := lookupA_rel h
    refine ⟨_, sim_pure fun w I μ ρ hr he => ?_, h1⟩
    obtain ⟨cv, h3, h4⟩ := h2 w I μ hr _ _ (he x m hm) (he i key hk)
    refine ⟨cv, ?_, h4⟩
    simp [execOp, ho, h3]
  · simp [fail] at h

end
end Go.Ev

/- Single operations: what is put into maps, copy, len, min and max, calls, panics. -/
namespace Go.Ev
open Go

section
variable {C : Ctx} {st : St} {o : Oper} {R : Type} {k : OR → Option R} {r : R}

theorem map_setAt {α β : Type} (f : α → β) (l : List α) (i : Nat) (y : α) : (setAt l i y).map f = setAt (l.map f) i (f y) := by
  induction l generalizing i with
  | nil => rfl
  | cons x l ih => cases i <;> simp [setAt, ih]

theorem VRs.setAt {w : World} {I : Nat → Prop} {μ : Mu} {as : List AV} {vs : List Value} (h : VRs C w I μ as vs) (i : Nat) {a : AV} {v : Value} (hv : VR C w I μ a v) : VRs C w I μ (Ev.setAt as i a) (Ev.setAt vs i v) := by
  induction as generalizing i vs with
  | nil => cases h; exact .nil _
  | cons x as ih =>
    cases h with
    | cons _ _ u _ us h1 h2 =>
      cases i with
      | zero => exact .cons _ _ _ _ _ hv h2
      | succ i => exact .cons _ _ _ _ _ h1 (ih h2 i)

theorem modify_toList {α : Type} (en : Array α) (i : Nat) (f : α → α) (e : α) (h : en.toList[i]? = some e) : (en.modify i f).toList = setAt en.toList i (f e) := by
  rw [Array.toList_modify]
  generalize en.toList = l at h
  induction l generalizing i with
  | nil => simp at h
  | cons x l ih =>
    cases i with
    | zero => simp at h; subst h; simp [setAt, List.modify_zero_cons]
    | succ i => simp at h; simp [setAt, List.modify_succ_cons, ih i h]

theorem mapPut_rel {t : TypeId} {m key v : AV} {kk : Hp → Option R} {H : Hp} (h : mapPut C H t m key v kk = some r) :
    ∃ H', kk H' = some r ∧ LogOK H H' ∧ ∀ w I μ, HR C w I μ H.bl → ∀ cm ck cv, VR C w I μ m cm → VR C w I μ key ck → VR C w I μ v cv →
      ∃ w' I', (Instr.mapUpdate t cm ck cv).run C.P w = .ok () w' ∧ Post C w I μ H.bl w' I' μ H'.bl := by
  unfold mapPut at h
  split at h
  · rename_i kt e ht
    split at h
    · simp [fail] at h
    · rename_i kd hkd
      split at h
      · rename_i b
        split at h
        · rename_i es hb
          obtain ⟨res, r1, r2⟩ := findA_rel (C := C) h
          cases res with
          | some jv =>
            obtain ⟨j, v0⟩ := jv
            refine ⟨_, r1, .put _ _ _, fun w I μ hr cm ck cv hm hk hv => ?_⟩
            cases hm
            rename_i L hL
            obtain ⟨L', h1, en, clk, h2, h3, h4⟩ := hr.blk b _ hb rfl
            rw [hL] at h1; cases h1
            obtain ⟨cv0, e', f1, f2, f3, f4, f5⟩ := r2 w I μ μ ck en.toList hk h3 h4
            obtain ⟨k1, k2⟩ := plainKey_rel hkd hk
            have hf : (Instr.findKey kt ck en.toList).run C.P w = .ok (some (j, cv0)) w := by simp [Instr.findKey, run_underlying' k1, f1]
            simp only [Nat.sub_zero] at f4
            have hj : en[j]? = some e' := by rw [← f4]; simp
            let o' : Obj := .map (en.modify j fun e => { e with key := ck, val := cv }) clk
            have hnI : ¬ I L.cb := hr.mt b _ L hb rfl hL
            have hlt : L.cb < w.heap.size := (Array.getElem?_eq_some_iff.1 h2).1
            refine ⟨{ w with heap := w.heap.setIfInBounds L.cb o' }, fun cb => I cb ∨ (false = true ∧ cb = L.cb), ?_, ?_⟩
            · simp [Instr.mapUpdate, run_underlying' ht, getObj, setObj, Sem.run, h2, k2, hf, hj, Instr.keyThatStays, f5, o']
            · have hw : ∀ cb, I cb → (w.heap.setIfInBounds L.cb o')[cb]? = w.heap[cb]? := fun cb hi => by
                rw [Array.getElem?_setIfInBounds_ne (fun e => hnI (by rw [e]; exact hi))]
              refine post_set (w' := { w with heap := w.heap.setIfInBounds L.cb o' }) hr ⟨rfl, rfl, rfl⟩ (x' := .map (setAt es j (key, v))) hb rfl hL rfl false (fun _ => rfl) fun _ => ?_
              have hI : ∀ cb, I cb → (I cb ∨ (false = true ∧ cb = L.cb)) := fun _ h => .inl h
              refine ⟨_, clk, by rw [Array.getElem?_setIfInBounds_self_of_lt hlt], ?_, ?_⟩
              · rw [modify_toList en j _ e' f4, map_setAt, map_setAt]
                exact (h3.setAt j hk).mono hI hw (fun _ _ h => h)
              · rw [modify_toList en j _ e' f4, map_setAt, map_setAt]
                exact (h4.setAt j hv).mono hI hw (fun _ _ h => h)
          | none =>
            refine ⟨_, r1, .put _ _ _, fun w I μ hr cm ck cv hm hk hv => ?_⟩
            cases hm
            rename_i L hL
            obtain ⟨L', h1, en, clk, h2, h3, h4⟩ := hr.blk b _ hb rfl
            rw [hL] at h1; cases h1
            have f1 := r2 w I μ μ ck en.toList hk h3 h4
            dsimp only at f1
            obtain ⟨k1, k2⟩ := plainKey_rel hkd hk
            have hf : (Instr.findKey kt ck en.toList).run C.P w = .ok none w := by simp [Instr.findKey, run_underlying' k1, f1]
            let o' : Obj := .map (en.push { key := ck, val := cv, born := clk }) (clk + 1)
            have hnI : ¬ I L.cb := hr.mt b _ L hb rfl hL
            have hlt : L.cb < w.heap.size := (Array.getElem?_eq_some_iff.1 h2).1
            refine ⟨{ w with heap := w.heap.setIfInBounds L.cb o' }, fun cb => I cb ∨ (false = true ∧ cb = L.cb), ?_, ?_⟩
            · simp [Instr.mapUpdate, run_underlying' ht, getObj, setObj, Sem.run, h2, k2, hf, o']
            · have hw : ∀ cb, I cb → (w.heap.setIfInBounds L.cb o')[cb]? = w.heap[cb]? := fun cb hi => by
                rw [Array.getElem?_setIfInBounds_ne (fun e => hnI (by rw [e]; exact hi))]
              refine post_set (w' := { w with heap := w.heap.setIfInBounds L.cb o' }) hr ⟨rfl, rfl, rfl⟩ (x' := .map (es ++ [(key, v)])) hb rfl hL rfl false (fun _ => rfl) fun _ => ?_
              have hI : ∀ cb, I cb → (I cb ∨ (false = true ∧ cb = L.cb)) := fun _ h => .inl h
              refine ⟨_, clk + 1, by rw [Array.getElem?_setIfInBounds_self_of_lt hlt], ?_, ?_⟩
              · simp only [List.map_append, Array.toList_push]
                exact (h3.append (.cons _ _ _ _ _ hk (.nil _))).mono hI hw (fun _ _ h => h)
              · simp only [List.map_append, Array.toList_push]
                exact (h4.append (.cons _ _ _ _ _ hv (.nil _))).mono hI hw (fun _ _ h => h)
        · simp at h
      · simp at h
  · simp at h

theorem op_mapPut {t : TypeId} {m key x : Operand} (ho : o.op = .mapUpdate t m key x ∨ o.op = .insert t m key x) (h : opA C st o k = some r) : ∃ res, OpSim C st o res ∧ k res = some r := by
  have h' : (match st.ev m, st.ev key, st.ev x with
    | some m, some key, some v => mapPut C st.heap t m key v fun h' => k (.val undefA h')
    | _, _, _ => fail "mapUpdate") = some r := by
    rcases ho with ho | ho <;> (rw [opA_eq] at h; unfold opA0 at h; rw [ho] at h; exact h)
  split at h'
  · rename_i am ak av hm hk hv
    obtain ⟨H', h1, h2, h3⟩ := mapPut_rel h'
    refine ⟨_, ?_, h1⟩
    refine sim_val h2 fun w I μ ρ hr hf he => ?_
    obtain ⟨w', I', e1, e2⟩ := h3 w I μ hr _ _ _ (he m am hm) (he key ak hk) (he x av hv)
    refine ⟨.skip, _, w', I', μ, ?_, .inr ⟨rfl, rfl⟩, .tuple _ _ _ (.nil _), e2⟩
    rcases ho with ho | ho <;> simp [execOp, ho, e1]
  · simp [fail] at h'

theorem op_panic {x : Operand} (ho : o.op = .panic x) (h : opA C st o k = some r) : ∃ res, OpSim C st o res ∧ k res = some r := by
  rw [opA_eq] at h; unfold opA0 at h
  simp only [ho] at h
  split at h
  · rename_i t v hx
    refine ⟨_, ?_, h⟩
    intro w I μ ρ he
    have h1 := he x _ hx
    refine ⟨ρ x, ?_, h1⟩
    generalize hρ : ρ x = u at h1
    cases h1
    simp [execOp, ho, hρ, Instr.panic, goPanic, Sem.run]
  · simp [fail] at h

theorem op_defer {c : Call} (ho : o.op = .defer c) (h : opA C st o k = some r) : ∃ res, OpSim C st o res ∧ k res = some r := by
  rw [opA_eq] at h; unfold opA0 at h
  simp only [ho] at h
  split at h
  · rename_i f args hc ha
    split at h
    · rename_i g first cap hf
      refine ⟨_, ?_, h⟩
      intro w I μ ρ he
      have h1 := he f _ hf
      generalize hρ : ρ f = u at h1
      cases h1 with
      | func _ _ _ _ v1 v2 q1 q2 =>
        refine ⟨_, v1 ++ c.args.toList.map ρ, v2, first ++ args, cap, ?_, rfl, rfl, q1.append (evs_rel he ha), q2⟩
        simp [execOp, ho, resolve, hc, hρ, Deferred.ofValue]
    · simp [fail] at h
  · simp [fail] at h

theorem lenB_rel {H : Hp} {argTypes : Array TypeId} {x : AV} {n : Nat} (h : lenB C H argTypes x = some n) {w : World} {I : Nat → Prop} {μ : Mu} (hr : HR C w I μ H.bl) {cx : Value} (hx : VR C w I μ x cx) (ty : TypeId) :
    (Builtin.len_ argTypes ty #[cx]).run C.P w = .ok (goInt n) w := by
  unfold lenB at h
  split at h
  · simp at h
  · rename_i t ht
    split at h
    · rename_i s hu
      cases h
      generalize hs : AV.str s = a at hx
      cases hx <;> first | (simp at hs; done) | skip
      rename_i bs
      have := AV.str.inj hs
      simp [Builtin.len_, ht, run_underlying' hu, this]
    · rename_i m e hu
      cases h
      simp [Builtin.len_, ht, run_underlying' hu]
    · rename_i a hu
      split at h
      · rename_i m e hu2
        cases h
        simp [Builtin.len_, ht, run_underlying' hu, run_underlying' hu2]
      · simp at h
    · rename_i e hu
      cases h; cases hx
      simp [Builtin.len_, ht, run_underlying' hu]
    · rename_i e cs m f hu
      cases h; cases hx
      simp [Builtin.len_, ht, run_underlying' hu]
    · rename_i e b p m c hu
      cases h; cases hx
      simp [Builtin.len_, ht, run_underlying' hu]
    · rename_i e f hu
      cases h; cases hx
      simp [Builtin.len_, ht, run_underlying' hu]
    · rename_i e f b hu
      split at h
      · rename_i es hb
        cases h; cases hx
        rename_i L hL
        obtain ⟨L', h1, en, clk, h2, h3, h4⟩ := hr.blk b _ hb rfl
        rw [hL] at h1; cases h1
        have := h3.length
        simp at this
        simp [Builtin.len_, ht, run_underlying' hu, getObj, Sem.run, h2, this]
      · simp at h
    · simp at h

theorem minmax_rel (mx : Bool) {l : List AV} {x v : AV} (h : minmax mx x l = some v) {w : World} {I : Nat → Prop} {μ : Mu} {cx : Value} {vs : List Value} (hx : VR C w I μ x cx) (hl : VRs C w I μ l vs) :
    ∃ cv, (bif mx then vs.foldlM Builtin.max2 cx else vs.foldlM Builtin.min2 cx : Sem Value).run C.P w = .ok cv w ∧ VR C w I μ v cv := by
  induction l generalizing x cx vs with
  | nil =>
    cases hl; simp [minmax] at h; subst h
    exact ⟨cx, by cases mx <;> rfl, hx⟩
  | cons y l ih =>
    cases hl with
    | cons _ _ u _ us h1 h2 =>
      cases x <;> (try (simp [minmax] at h; done))
      cases y <;> (try (simp [minmax] at h; done))
      simp only [minmax] at h
      cases hx; cases h1
      obtain ⟨cv, e1, e2⟩ := ih h (.int _ _ _) h2
      refine ⟨cv, ?_, e2⟩
      cases mx
      · simp only [cond_false, List.foldlM_cons, Builtin.min2, Sem.run_bind, Sem.run_pure, Result.andThen_ok, Bool.cond_decide] at e1 ⊢
        exact e1
      · simp only [cond_true, List.foldlM_cons, Builtin.max2, Sem.run_bind, Sem.run_pure, Result.andThen_ok, Bool.cond_decide] at e1 ⊢
        exact e1

theorem first0 {s : AV} {n size : Nat} (h : lenA s = some n) {w : World} {I : Nat → Prop} {μ : Mu} {cs : Value} (hs : VR C w I μ s cs) : (Builtin.firstCells size 0 cs).run C.P w = .ok #[] w := by
  cases hs <;> first
    | (simp [lenA] at h; done)
    | rfl
    | (simp only [Builtin.firstCells, Nat.zero_mul]; exact run_loadCells _ [] (by simp))
    | (simp [Builtin.firstCells])

theorem copyA_rel {H : Hp} {argTypes : Array TypeId} {d s : AV} {kk : AV → Hp → Option R} (h : copyA C H argTypes d s kk = some r) :
    ∃ v H', kk v H' = some r ∧ LogOK H H' ∧ ∀ w I μ, HR C w I μ H.bl → ∀ cd cs, VR C w I μ d cd → VR C w I μ s cs →
      ∃ cv w' I', (∀ ty, (Builtin.copy_ argTypes ty #[cd, cs]).run C.P w = .ok cv w') ∧ VR C w' I' μ v cv ∧ Post C w I μ H.bl w' I' μ H'.bl := by
  unfold copyA at h
  split at h
  · simp at h
  · rename_i sT hsT
    split at h
    · rename_i e hu
      split at h
      · rename_i size sLen b p dLen cap hsz hls
        dsimp only at h
        split at h
        · simp at h
        · rename_i new hnew
          split at h
          · rename_i H' hst
            refine ⟨_, _, h, (setCells_log hst).1, fun w I μ hr cd cs hd hs => ?_⟩
            obtain ⟨vs, q1, q2, q3⟩ := contents_rel (C := C) hr hnew (fun m hm => by rw [hls] at hm; cases hm; exact Nat.min_le_left _ _) hs
            cases hd
            rename_i c' L hμ hle hc hno
            obtain ⟨_, _, ad, w', I', e1, e2, e3⟩ := setCells_rel hr hst (.ptr μ b p L hμ) q1 q2
            cases e1
            refine ⟨_, w', I', fun ty => ?_, .int _ _ _, e3⟩
            have h3 := q3 w rfl
            simp only [Nat.min_def] at h3
            simp [Builtin.copy_, hsT, run_underlying' hu, lenA_rel hls hs w, run_sizeOf' hsz, e2, Nat.min_def, h3]
            rfl
          · simp at h
      · rename_i size sLen hsz hls
        refine ⟨_, _, h, .refl _, fun w I μ hr cd cs hd hs => ?_⟩
        cases hd
        have q1 := first0 (C := C) (size := size) hls hs
        refine ⟨_, w, I, fun ty => ?_, .int _ _ _, .refl hr⟩
        simp [Builtin.copy_, hsT, run_underlying' hu, lenA_rel hls hs w, run_sizeOf' hsz, Nat.min_def, q1]
        rfl
      · rename_i size sLen f hsz hls
        refine ⟨_, _, h, .refl _, fun w I μ hr cd cs hd hs => ?_⟩
        have q1 := first0 (C := C) (size := size) hls hs
        cases hd
        refine ⟨_, w, I, fun ty => ?_, .int _ _ _, .refl hr⟩
        simp [Builtin.copy_, hsT, run_underlying' hu, lenA_rel hls hs w, run_sizeOf' hsz, Nat.min_def, q1, storeCells]
        rfl
      · simp at h
    · simp at h

end
end Go.Ev

/- Single operations: literals, make. -/
namespace Go.Ev
open Go

section
variable {C : Ctx} {st : St} {o : Oper} {R : Type} {k : OR → Option R} {r : R}

theorem foldl_writeC (l : List Value) (off j : Nat) (c : Array Value) : (l.zipIdx j).foldl (fun cs (x : Value × Nat) => cs.setIfInBounds (off + x.2) x.1) c = writeC c (off + j) l := by
  induction l generalizing j c with
  | nil => rfl
  | cons v l ih => simp only [List.zipIdx_cons, List.foldl_cons, writeC]; rw [ih]; rfl

theorem fill_step (place : Nat → Option (Nat × Nat)) (cells : Array Value) (i : Nat) (v : Value) (rest : List (Nat × Value)) {off size : Nat} (hp : place i = some (off, size)) (h1 : v.cells.size = size) (h2 : off + size ≤ cells.size) :
    Instr.fill place cells ((i, v) :: rest) = Instr.fill place (writeC cells off v.cells.toList) rest := by
  simp only [Instr.fill, hp]
  rw [if_neg (by simp; omega)]
  congr 1
  have := foldl_writeC v.cells.toList off 0 cells
  rw [Nat.add_zero] at this
  rw [← this, ← Array.foldl_toList]
  congr 1
  simp

theorem over_rel {w : World} {I : Nat → Prop} {μ : Mu} {cs : List AV} {c : Array Value} {new : List AV} {vs : List Value} {off : Nat} (h1 : VRs C w I μ cs c.toList) (h2 : VRs C w I μ new vs) (hle : off + new.length ≤ cs.length) :
    VRs C w I μ (cs.take off ++ new ++ cs.drop (off + new.length)) (writeC c off vs).toList := by
  have l1 := h1.length
  have l2 := h2.length
  simp only [Array.length_toList] at l1
  refine VRs.of_get (by simp [size_writeC]; omega) fun i a hi => ?_
  have hw : (writeC c off vs).toList[i]? = (writeC c off vs)[i]? := by simp
  rw [hw, get_writeC _ _ _ _ (fun j hj => by omega)]
  by_cases hlo : i < off
  · rw [if_neg (by omega)]
    rw [List.append_assoc, List.getElem?_append_left (by simp; omega), List.getElem?_take_of_lt hlo] at hi
    obtain ⟨v, q1, q2⟩ := h1.get hi
    exact ⟨v, by simpa using q1, q2⟩
  · by_cases hhi : i < off + new.length
    · rw [if_pos (by omega)]
      rw [List.append_assoc, List.getElem?_append_right (by simp; omega), List.getElem?_append_left (by simp; omega)] at hi
      have : i - (cs.take off).length = i - off := by simp; omega
      rw [this] at hi
      exact h2.get hi
    · rw [if_neg (by omega)]
      rw [List.getElem?_append_right (by simp; omega)] at hi
      have : i - (cs.take off ++ new).length = i - (off + new.length) := by simp; omega
      rw [this, List.getElem?_drop, show off + new.length + (i - (off + new.length)) = i by omega] at hi
      obtain ⟨v, q1, q2⟩ := h1.get hi
      exact ⟨v, by simpa using q1, q2⟩

theorem all_over {cs new : List AV} {off n : Nat} (h1 : cs.all AV.oneCell = true) (h2 : new.all AV.oneCell = true) : (cs.take off ++ new ++ cs.drop n).all AV.oneCell = true := by
  rw [List.all_eq_true] at h1 h2 ⊢
  intro a ha
  rw [List.mem_append, List.mem_append] at ha
  rcases ha with (ha | ha) | ha
  · exact h1 a (List.mem_of_mem_take ha)
  · exact h2 a ha
  · exact h1 a (List.mem_of_mem_drop ha)

theorem fillA_rel {pl : Nat → Option (Nat × Nat)} {cells : List AV} {ps : List (Nat × AV)} {res : List AV} (h : fillA pl cells ps = some res) (hone : cells.all AV.oneCell = true) {place : Nat → Option (Nat × Nat)}
    (hpl : ∀ i x, pl i = some x → place i = some x) {w : World} {I : Nat → Prop} {μ : Mu} {c : Array Value} (hc : VRs C w I μ cells c.toList) {qs : List (Nat × Value)}
    (hi : qs.map (·.1) = ps.map (·.1)) (hq : VRs C w I μ (ps.map (·.2)) (qs.map (·.2))) :
    ∃ c', Instr.fill place c qs = some c' ∧ VRs C w I μ res c'.toList ∧ res.all AV.oneCell = true := by
  induction ps generalizing cells c qs with
  | nil =>
    cases qs with
    | nil => simp [fillA] at h; subst h; exact ⟨c, rfl, hc, hone⟩
    | cons q qs => simp at hi
  | cons p ps ih =>
    obtain ⟨i, v⟩ := p
    cases qs with
    | nil => simp at hi
    | cons q qs =>
      obtain ⟨i', u⟩ := q
      simp only [List.map_cons, List.cons.injEq] at hi hq
      obtain ⟨rfl, hi⟩ := hi
      cases hq with
      | cons _ _ _ _ _ hv hq =>
        simp only [fillA] at h
        split at h
        · simp at h
        · rename_i off size hp
          cases hb : (v.cells.all AV.oneCell && v.cells.length == size && decide (off + size ≤ cells.length)) with
          | false => rw [hb] at h; simp at h
          | true =>
            rw [hb] at h
            simp only [Bool.and_eq_true, beq_iff_eq, decide_eq_true_eq] at hb
            obtain ⟨⟨b1, b2⟩, b3⟩ := hb
            simp only [cond_true] at h
            have hl := hc.length
            simp only [Array.length_toList] at hl
            rw [fill_step place c i' u qs (hpl _ _ hp) (by rw [← hv.cells_size]; exact b2) (by omega)]
            have h3 := over_rel (off := off) hc hv.cells_rel (by omega)
            rw [b2] at h3
            exact ih h (all_over hone b1) h3 hi hq

theorem evParts_rel {l : List (Nat × Operand)} {ps : List (Nat × AV)} {w : World} {I : Nat → Prop} {μ : Mu} {ρ : Operand → Value} (he : EvR C w I μ st ρ) (h : evParts st l = some ps) :
    (l.map fun (i, x) => (i, ρ x)).map (·.1) = ps.map (·.1) ∧ VRs C w I μ (ps.map (·.2)) ((l.map fun (i, x) => (i, ρ x)).map (·.2)) := by
  induction l generalizing ps with
  | nil => simp [evParts] at h; subst h; exact ⟨rfl, .nil _⟩
  | cons p l ih =>
    obtain ⟨i, x⟩ := p
    simp only [evParts] at h
    split at h
    · rename_i v r hv hr
      cases h
      obtain ⟨h1, h2⟩ := ih hr
      exact ⟨by simp [← h1], .cons _ _ _ _ _ (he x v hv) h2⟩
    · simp at h

theorem run_placesOf {fields : List Field} {w : World} {pls : List (Nat × Nat)} (h : placesOf C fields = some pls) : (fields.mapM fun f => Prod.mk f.offset <$> sizeOf f.type).run C.P w = .ok pls w := by
  unfold placesOf at h
  induction fields generalizing pls with
  | nil => simp [mapO] at h; subst h; simp
  | cons f fs ih =>
    simp only [mapO] at h
    split at h
    · simp at h
    · rename_i p hp
      split at hp
      · rename_i n hn
        cases hp
        split at h
        · simp at h
        · rename_i ns' hns
          cases h
          simp [List.mapM_cons, run_sizeOf' hn, ih hns]
      · simp at hp

theorem zero_one {t : TypeId} {z : AV} (h : C.zero t = some z) : z.cells.all AV.oneCell = true := by
  unfold Ctx.zero at h
  split at h
  · split at h
    · rename_i v hv
      unfold ofV at h
      split at h
      · split at h
        · rename_i l hl
          cases h
          exact (mapO_ofV1_rel (C := C) (w := default) (I := fun _ => False) (μ := mu0) hl).2
        · simp at h
      · have h1 := ofV1_rel (C := C) (w := default) (I := fun _ => False) (μ := mu0) h
        obtain ⟨h1, h2⟩ := h1
        have : z.cells = [z] := by cases z <;> first | rfl | simp [AV.oneCell] at h2
        rw [this]; simp [h2]
    · simp at h
  · simp at h

theorem op_build {t : TypeId} {parts : Array (Nat × Operand)} (ho : o.op = .build t parts) (h : opA C st o k = some r) : ∃ res, OpSim C st o res ∧ k res = some r := by
  rw [opA_eq] at h; unfold opA0 at h
  simp only [ho] at h
  split at h
  · rename_i z fields ps hz ht hps
    split at h
    · rename_i pls hpl
      split at h
      · rename_i cs hcs
        refine ⟨_, sim_pure fun w I μ ρ hr he => ?_, h⟩
        obtain ⟨zv, z1, z2⟩ := zero_rel hz
        obtain ⟨e1, e2⟩ := evParts_rel he hps
        obtain ⟨c', f1, f2, f3⟩ := fillA_rel hcs (zero_one hz) (place := fun i => pls[i]?) (fun _ _ h => h) (z2 w I μ).cells_rel e1 e2
        refine ⟨.agg c', ?_, ?_⟩
        · have f1' : Instr.fill (fun x => pls[x]?) zv.cells (List.map (fun x => (x.fst, ρ x.snd)) parts.toList) = some c' := f1
          simp [execOp, ho, Instr.build, z1, run_underlying' ht, Array.mapM_eq_mapM_toList, run_placesOf hpl, f1']
        · have := VR.agg (C := C) (w := w) (I := I) μ cs c'.toList f2 f3
          simpa using this
      · simp [fail] at h
    · simp at h
  · rename_i z len e ps hz ht hps
    split at h
    · rename_i n hn
      split at h
      · rename_i cs hcs
        refine ⟨_, sim_pure fun w I μ ρ hr he => ?_, h⟩
        obtain ⟨zv, z1, z2⟩ := zero_rel hz
        obtain ⟨e1, e2⟩ := evParts_rel he hps
        obtain ⟨c', f1, f2, f3⟩ := fillA_rel hcs (zero_one hz) (place := fun i => some (i * n, n)) (fun _ _ h => h) (z2 w I μ).cells_rel e1 e2
        refine ⟨.agg c', ?_, ?_⟩
        · have f1' : Instr.fill (fun i => some (i * n, n)) zv.cells (List.map (fun x => (x.fst, ρ x.snd)) parts.toList) = some c' := f1
          simp [execOp, ho, Instr.build, z1, run_underlying' ht, run_sizeOf' hn, f1']
        · have := VR.agg (C := C) (w := w) (I := I) μ cs c'.toList f2 f3
          simpa using this
      · simp [fail] at h
    · simp at h
  · simp [fail] at h

theorem replZ_get (z : List AV) : ∀ n i, i < n * z.length → (replZ n z)[i]? = z[i % z.length]?
  | 0, i, h => by simp at h
  | n + 1, i, h => by
    simp only [replZ]
    by_cases hi : i < z.length
    · rw [List.getElem?_append_left hi, Nat.mod_eq_of_lt hi]
    · have h0 : 0 < z.length := by
        rcases Nat.eq_zero_or_pos z.length with h0 | h0
        · rw [h0] at h; simp at h
        · exact h0
      have h5 : i % z.length = (i - z.length) % z.length := Nat.mod_eq_sub_mod (by omega)
      rw [List.getElem?_append_right (by omega), replZ_get z n _ (by rw [Nat.add_mul] at h; omega), h5]

theorem replZ_length (z : List AV) (n : Nat) : (replZ n z).length = n * z.length := by
  induction n with
  | zero => simp [replZ]
  | succ n ih => simp [replZ, ih, Nat.add_mul, Nat.add_comm]

theorem replZ_one (z : List AV) (h : z.all AV.oneCell = true) (n : Nat) : (replZ n z).all AV.oneCell = true := by
  induction n with
  | zero => rfl
  | succ n ih => simp [replZ, List.all_append, h, ih]

/-- the cells of a new row -/
theorem row_rel {w : World} {I : Nat → Prop} {μ : Mu} {z : List AV} {zc : Array Value} (h : VRs C w I μ z zc.toList) (n m : Nat) (hm : m = n * z.length) :
    VRs C w I μ (replZ n z) ((Array.range m).map (zc[· % zc.size]!)).toList := by
  have hl := h.length
  simp only [Array.length_toList] at hl
  refine VRs.of_get (by simp [replZ_length, hm]) fun i a hi => ?_
  have hi2 : i < n * z.length := by rw [← replZ_length]; exact (List.getElem?_eq_some_iff.1 hi).1
  rw [replZ_get z n i hi2] at hi
  obtain ⟨v, q1, q2⟩ := h.get hi
  refine ⟨v, ?_, q2⟩
  have hil : i % z.length < z.length := (List.getElem?_eq_some_iff.1 hi).1
  simp only [Array.toList_map, Array.toList_range, List.getElem?_map, List.getElem?_range, hm, hi2]
  simp only [if_true, Option.map_some]
  rw [← hl]
  simp at q1
  rw [getElem!_pos zc (i % z.length) (by omega)]
  rw [Array.getElem?_eq_getElem (by omega)] at q1
  exact q1

theorem hr0 (f : Nat → Value) : Array.map f (Array.range 0) = #[] := by simp

theorem op_buildSlice {t : TypeId} {len : Nat} {parts : Array (Nat × Operand)} (ho : o.op = .buildSlice t len parts) (h : opA C st o k = some r) : ∃ res, OpSim C st o res ∧ k res = some r := by
  rw [opA_eq] at h; unfold opA0 at h
  simp only [ho] at h
  split at h
  · rename_i e ps ht hps
    split at h
    · rename_i n z hn hz
      cases hb : (decide (len * n ≤ 2 ^ 20) && z.cells.length == n && z.cells.all AV.oneCell) with
      | false => rw [hb] at h; simp at h
      | true =>
        rw [hb] at h
        simp only [Bool.and_eq_true, beq_iff_eq, decide_eq_true_eq] at hb
        obtain ⟨⟨b1, b2⟩, b3⟩ := hb
        simp only [cond_true] at h
        split at h
        · rename_i cs hcs
          refine ⟨_, ?_, h⟩
          refine sim_val (.new _ _) fun w I μ ρ hr hf he => ?_
          obtain ⟨zv, z1, z2⟩ := zero_rel hz
          obtain ⟨e1, e2⟩ := evParts_rel he hps
          have hrow := row_rel (z2 w I μ).cells_rel len (len * n) (by rw [b2])
          obtain ⟨c', f1, f2, f3⟩ := fillA_rel hcs (replZ_one _ b3 len) (place := fun i => some (i * n, n)) (fun _ _ h => h) hrow e1 e2
          obtain ⟨w', μ', k1, _, k2, k3⟩ := newVar_rel hr (by simpa [Hp.new] using hf) hn f2 f3
          refine ⟨_, _, w', I, μ', ?_, .inl rfl, k2 len len (Nat.le_refl _), k3⟩
          have hbig : ¬ 2 ^ 24 < len * n := by omega
          by_cases h0 : len * n = 0
          · have f1' : Instr.fill (fun i => some (i * n, n)) #[] (List.map (fun x => (x.fst, ρ x.snd)) parts.toList) = some c' := by
              rw [h0] at f1
              have hnil : (Array.map (fun x => zv.cells[x % zv.cells.size]!) (Array.range 0)) = #[] := by simp
              rw [hnil] at f1; exact f1
            simp [execOp, ho, Instr.buildSlice, run_underlying' ht, run_sizeOf' hn, h0, f1', k1, hr0]
          · have f1' : Instr.fill (fun i => some (i * n, n)) ((Array.range (len * n)).map (zv.cells[· % zv.cells.size]!)) (List.map (fun x => (x.fst, ρ x.snd)) parts.toList) = some c' := f1
            simp [execOp, ho, Instr.buildSlice, run_underlying' ht, run_sizeOf' hn, h0, z1, f1', k1, hbig]
        · simp [fail] at h
    · simp at h
  · simp [fail] at h

theorem wrap64 {n : Int} (h1 : 0 ≤ n) (h2 : n ≤ 2 ^ 40) : IntKind.i64.wrap n = n := by
  have h3 : n % (2 ^ IntKind.i64.bits : Int) = n := by
    show n % (2 ^ 64 : Int) = n
    omega
  have h4 : ¬ n ≥ (2 ^ (IntKind.i64.bits - 1) : Int) := by
    show ¬ n ≥ (2 ^ 63 : Int)
    omega
  simp only [IntKind.wrap, h3]
  rw [if_neg (by simp only [Bool.and_eq_true, decide_eq_true_eq, not_and]; exact fun _ => h4)]

theorem op_makeSlice {t : TypeId} {l c : Operand} (ho : o.op = .makeSlice t l c) (h : opA C st o k = some r) : ∃ res, OpSim C st o res ∧ k res = some r := by
  rw [opA_eq] at h; unfold opA0 at h
  simp only [ho] at h
  split at h
  · rename_i e k1 l0 k2 c0 ht hl hc
    split at h
    · rename_i n bytes z hn hby hz
      cases hb : (z.cells.length == n && z.cells.all AV.oneCell && decide (0 ≤ l0) && decide (l0 ≤ c0) && decide ((bytes : Int) * c0 ≤ 2 ^ 40) && decide (c0 ≤ 2 ^ 40)) with
      | false => rw [hb] at h; simp [fail] at h
      | true =>
        rw [hb] at h
        simp only [Bool.and_eq_true, beq_iff_eq, decide_eq_true_eq] at hb
        obtain ⟨⟨⟨⟨⟨b1, b2⟩, b3⟩, b4⟩, b5⟩, b6⟩ := hb
        simp only [cond_true] at h
        refine ⟨_, ?_, h⟩
        refine sim_val (.new _ _) fun w I μ ρ hr hf he => ?_
        obtain ⟨zv, z1, z2⟩ := zero_rel hz
        obtain ⟨i, hi1, hi2⟩ := bytes_info hby
        have hrow := row_rel (z2 w I μ).cells_rel c0.toNat (c0.toNat * n) (by rw [b1])
        obtain ⟨w', μ', q1, _, q2, q3⟩ := newVar_rel hr (by simpa [Hp.new] using hf) hn hrow (replZ_one _ b2 _)
        refine ⟨_, _, w', I, μ', ?_, .inl rfl, q2 l0.toNat c0.toNat (by omega), q3⟩
        have hl' := he l _ hl
        generalize hρl : ρ l = ul at hl'
        cases hl'
        have hc' := he c _ hc
        generalize hρc : ρ c = uc at hc'
        cases hc'
        have w1 : IntKind.i64.wrap l0 = l0 := wrap64 b3 (by omega)
        have w2 : IntKind.i64.wrap c0 = c0 := wrap64 (by omega) (by omega)
        have t1 : ¬ (c0 < 0) := by omega
        have t2 : ¬ (281474976710656 < (i.bytes : Int) * c0) := by rw [hi2]; omega
        have t3 : ¬ (l0 < 0) := by omega
        have t4 : ¬ (c0 < l0) := by omega
        have hroom : ¬ roomBytes < c0.toNat * i.bytes := by
          have : ((c0.toNat * i.bytes : Nat) : Int) ≤ 2 ^ 40 := by
            rw [Int.natCast_mul, Int.toNat_of_nonneg (by omega), Int.mul_comm, hi2]; exact b5
          simp only [roomBytes]; omega
        by_cases h0 : c0.toNat * n = 0
        · rw [h0] at q1
          have hnil : (Array.map (fun x => zv.cells[x % zv.cells.size]!) (Array.range 0)) = #[] := by simp
          have q1' : (newRow e #[]).run C.P w = .ok ⟨w.heap.size, 0, none⟩ w' := by rw [hnil] at q1; exact q1
          simp [execOp, ho, hρl, hρc, Instr.makeSlice, run_underlying' ht, asInt, asIntOf, run_typeInfo' hi1, w1, w2, t1, t2, t3, t4, askRoom, hroom, run_sizeOf' hn, h0, q1', hr0]
        · simp [execOp, ho, hρl, hρc, Instr.makeSlice, run_underlying' ht, asInt, asIntOf, run_typeInfo' hi1, w1, w2, t1, t2, t3, t4, askRoom, hroom, run_sizeOf' hn, h0, z1, q1]
    · simp at h
  · simp [fail] at h

end
end Go.Ev

/- Single operations: calls, conversions; all of them. -/
namespace Go.Ev
open Go

section
variable {C : Ctx} {st : St} {o : Oper} {R : Type} {k : OR → Option R} {r : R}

theorem run_shape {P : Program} (w : World) (n : Nat) : (shape n).run P w = .ok (w.shape? n) w := rfl

theorem seenAt_run {w : World} {a : Addr} {e : TypeId} {n : Nat} (h : w.shape? a.block = some (e, n)) : (Conv.seenAt a).run C.P w = .ok a w := by
  have hv : (viewAt a.block).run C.P w = .ok none w := by simp [viewAt, run_shape, h]
  simp [Conv.seenAt, hv]

theorem shape_at {w : World} {cb : Nat} {c : Array Value} {e : TypeId} {fr : Nat × Nat} (h : w.heap[cb]? = some (.cells c e fr)) : w.shape? cb = some (e, c.size) := by simp [World.shape?, h]

theorem sameLayout_refl (P : Program) (d : Nat) (t : TypeId) : sameLayout P (d + 1) t t = true := by simp [sameLayout]

theorem lies {P : Program} {e : TypeId} {count off n s : Nat} (hs : P.cellsOf e = s) (h0 : s ≠ 0) (hr : off % s = 0) (hn : off / s + n ≤ count) : liesAt P P.depth e count off e n = true := by
  have hd : P.depth = (2 * (P.types.size + Made.depth) + 1) + 1 := rfl
  rw [hd]
  unfold liesAt
  rw [Bool.or_eq_true]
  left
  rw [hd]
  unfold rowAt
  simp only [hs]
  rw [if_neg h0, Bool.or_eq_true]
  left
  simp only [Bool.and_eq_true, beq_iff_eq, decide_eq_true_eq]
  refine ⟨⟨hr, hn⟩, ?_⟩
  rw [← hd]
  rw [hd]
  exact sameLayout_refl _ _ _

theorem cellsOf_size {t : TypeId} {n : Nat} (h : C.size t = some n) : C.P.cellsOf t = n := by
  obtain ⟨i, h1, h2⟩ := size_info h
  replace h1 := C.info_ok _ _ h1
  simp [Program.cellsOf, h1, h2]

theorem mapO_byteOf {l : List AV} {bs : List UInt8} (h : mapO byteOf l = some bs) {w : World} {I : Nat → Prop} {μ : Mu} {vs : List Value} (hv : VRs C w I μ l vs) :
    ∃ ns : List Int, vs = ns.map (Value.int .u8) ∧ bs = ns.map fun n => UInt8.ofNat n.toNat := by
  induction l generalizing bs vs with
  | nil => simp [mapO] at h; subst h; cases hv; exact ⟨[], rfl, rfl⟩
  | cons x l ih =>
    cases hv with
    | cons _ _ v _ vs h1 h2 =>
      simp only [mapO] at h
      split at h
      · simp at h
      · rename_i b hb
        split at h
        · simp at h
        · rename_i bs' hbs
          cases h
          obtain ⟨ns, e1, e2⟩ := ih hbs h2
          unfold byteOf at hb
          split at hb
          · rename_i n
            cases hb; cases h1
            exact ⟨n :: ns, by rw [e1]; rfl, by rw [e2]; rfl⟩
          · simp at hb

theorem foldl_push (ns : List Int) (s : ByteArray) : (ns.foldl (fun r n => r.push (UInt8.ofNat n.toNat)) s).data.toList = s.data.toList ++ ns.map fun n => UInt8.ofNat n.toNat := by
  induction ns generalizing s with
  | nil => simp
  | cons n ns ih => rw [List.foldl_cons, ih]; simp [ByteArray.push]

theorem op_convert {src dst : TypeId} {x : Operand} (ho : o.op = .convert src dst x) (h : opA C st o k = some r) : ∃ res, OpSim C st o res ∧ k res = some r := by
  rw [opA_eq] at h; unfold opA0 at h
  simp only [ho] at h
  split at h
  · rename_i k1 kd k2 n hs hd hx
    refine ⟨_, sim_pure fun w I μ ρ hr he => ?_, h⟩
    have h1 := he x _ hx
    generalize hρ : ρ x = u at h1
    cases h1
    exact ⟨_, by simp [execOp, ho, hρ, convert, run_underlying' hs, run_underlying' hd, Conv.intToInt], .int _ _ _⟩
  · rename_i s hs hd hx
    refine ⟨_, sim_pure fun w I μ ρ hr he => ⟨ρ x, ?_, he x _ hx⟩, h⟩
    have h1 := he x _ hx
    generalize hρ : ρ x = u at h1
    generalize hS : AV.str s = a at h1
    cases h1 <;> first | (simp at hS; done) | skip
    simp [execOp, ho, hρ, convert, run_underlying' hs, run_underlying' hd]
  · rename_i e s hs hd hx
    split at h
    · rename_i hu
      refine ⟨_, ?_, h⟩
      refine sim_val (.refl _) fun w I μ ρ hr hf he => ?_
      have h1 := he x _ hx
      generalize hρ : ρ x = u at h1
      generalize hS : AV.str s = a at h1
      cases h1 <;> first | (simp at hS; done) | skip
      rename_i bs
      have hS' := AV.str.inj hS
      let cap := (Question.appendCap bs.size 0 e).cut (w.tape w.drawn (.appendCap bs.size 0 e))
      have hcap : bs.size ≤ cap := by simp only [cap, Question.cut]; omega
      let cs : Array Value := bs.data.map (fun b => Value.int .u8 b.toNat) ++ Array.replicate (cap - bs.size) (.int .u8 0)
      have hcs : cs.size = cap := by simp [cs]; omega
      let w1 : World := w.drew.alloc (.cells cs e)
      let w2 : World := w1.freeze { block := w.heap.size, off := cs.size } 1
      have h1 : w1.heap = w.heap.push (.cells cs e) := rfl
      have h2 : w2.heap = w.heap.push (.cells cs e (cs.size, cs.size + 1)) := by
        apply Array.ext_getElem?
        intro j
        simp only [w2, World.freeze]
        rw [if_neg (by decide)]
        simp only [Array.getElem?_modify, h1, Array.getElem?_push]
        by_cases hj : w.heap.size = j
        · subst hj; simp
        · rw [if_neg hj]
          by_cases hj2 : j = w.heap.size
          · exact absurd hj2.symm hj
          · rw [if_neg hj2, if_neg hj2]
      have hs2 : Beside w w2 := by
        refine ⟨?_, ?_, ?_⟩ <;> (simp only [w2, World.freeze]; rw [if_neg (by decide)]; rfl)
      have hpost := post_const hr hs2 h2
      refine ⟨_, .slice (some ⟨w.heap.size, 0, none⟩) bs.size cap, w2, _, μ, ?_, .inl rfl, ?_, hpost⟩
      · have hsh : w1.shape? w.heap.size = some (e, cs.size) := by
          simp [World.shape?, h1]
        have hch : (choose (.appendCap bs.size 0 e)).run C.P w = .ok cap w.drew := by simp [choose, Question.forced, Sem.run, cap]
        have hnew : (newRow e cs).run C.P w.drew = .ok ⟨w.heap.size, 0, none⟩ w1 := rfl
        have hmk : (markStringish ⟨w.heap.size, 0, none⟩).run C.P w1 = .ok () w2 := by
          simp only [markStringish, Sem.run_bind, run_shape, hsh, Result.andThen_ok]
          rfl
        simp only [execOp, ho, hρ, convert, Sem.run_bind, run_underlying' hs, run_underlying' hd, run_underlying' hu, Result.andThen_ok, Conv.stringToBytes, hch]
        rw [show (newRow e (bs.data.map (fun b => Value.int .u8 b.toNat) ++ Array.replicate (cap - bs.size) (.int .u8 0))) = newRow e cs from rfl, hnew]
        simp only [Result.andThen_ok, hmk, Sem.run_pure]
      · have := VR.list (C := C) (w := w2) (I := fun cb => I cb ∨ cb = w.heap.size) μ (s.map fun b => .int .u8 b.toNat) (bs.data.toList.map fun b => Value.int .u8 b.toNat) w.heap.size 0 s.length cap false (.inr rfl) ?_ ?_ ?_ (by rw [hS']; simpa using hcap) (fun h => by simp at h)
        · rw [hS'] at this ⊢
          simpa using this
        · refine ⟨cs, e, (cs.size, cs.size + 1), by rw [h2, Array.getElem?_push, if_pos rfl], fun i v hi => ?_⟩
          have hil : i < bs.data.size := by
            have := (List.getElem?_eq_some_iff.1 hi).1; simpa using this
          simp only [cs, Nat.zero_add]
          rw [Array.getElem?_append_left (by simpa using hil)]
          simpa using hi
        · rw [hS']
          generalize bs.data.toList = l
          induction l with
          | nil => exact .nil _
          | cons b l ih => exact .cons _ _ _ _ _ (.int _ _ _) ih
        · rw [List.all_eq_true]; intro a ha; obtain ⟨b, _, rfl⟩ := List.mem_map.1 ha; rfl
    · simp at h
  · rename_i e v hs hd hx
    split at h
    · rename_i n hu hl
      split at h
      · rename_i l hc
        split at h
        · rename_i bs hbs
          refine ⟨_, sim_pure fun w I μ ρ hr he => ?_, h⟩
          have h1 := he x _ hx
          obtain ⟨vs, q1, q2, q3⟩ := contents_rel (C := C) hr hc (fun m hm => by cases v <;> simp_all [sliceLen, lenA]) h1
          obtain ⟨ns, e1, e2⟩ := mapO_byteOf hbs q1
          have q3 := q3 w rfl
          refine ⟨.string (ns.foldl (fun r n => r.push (UInt8.ofNat n.toNat)) ByteArray.empty), ?_, VR.str' _ _ (by rw [foldl_push, e2]; simp)⟩
          have key : (Conv.bytesToString (ρ x)).run C.P w = .ok (.string (ns.foldl (fun r n => r.push (UInt8.ofNat n.toNat)) ByteArray.empty)) w := by
            generalize hρ : ρ x = u at h1 q3
            cases h1 <;> simp [sliceLen] at hl
            · subst hl
              rename_i c' L hμ hle hc1 hc2
              refine run_bytesToString w _ _ _ ns ?_
              rw [← e1]
              simpa [Builtin.firstCells] using q3
            · subst hl
              have hnil : l = [] := by simpa [contents] using hc.symm
              subst hnil
              cases q1
              cases ns with
              | nil => rfl
              | cons _ _ => simp at e1
            · subst hl
              refine run_bytesToString w _ _ _ ns ?_
              rw [← e1]
              simpa [Builtin.firstCells] using q3
          have hsl : ∃ b l c, ρ x = .slice b l c := by
            generalize hρ : ρ x = u at h1
            cases h1 <;> simp [sliceLen] at hl <;> exact ⟨_, _, _, rfl⟩
          obtain ⟨b, l', c, hb⟩ := hsl
          rw [hb] at key
          simp [execOp, ho, hb, convert, run_underlying' hs, run_underlying' hd, run_underlying' hu, key]
        · simp at h
      · simp at h
    · simp at h
  · rename_i e b hs hd hx
    split at h
    · rename_i n e' cs fz hn hb
      cases hc : (e == e' && decide (n + 1 ≤ cs.length)) with
      | false => rw [hc] at h; simp [fail] at h
      | true =>
        rw [hc] at h
        simp only [Bool.and_eq_true, beq_iff_eq, decide_eq_true_eq] at hc
        obtain ⟨rfl, hc⟩ := hc
        refine ⟨_, sim_pure fun w I μ ρ hr he => ⟨ρ x, ?_, he x _ hx⟩, h⟩
        have h1 := he x _ hx
        generalize hρ : ρ x = u at h1
        cases h1
        rename_i L hμ
        obtain ⟨L', m1, c, fr, m2, m3, m4, m5, m6, m7⟩ := hr.blk b _ hb rfl
        rw [hμ] at m1; cases m1
        have hb0 := m7.2 rfl
        have hsh := shape_at m2
        have hsn := seenAt_run (C := C) (a := ⟨L.cb, L.base + 0, none⟩) hsh
        have hci : (cellsIn L.cb).run C.P w = .ok (some c.size) w := by simp [cellsIn, run_shape, hsh]
        have hlt : ¬ c.size ≤ L.base := by omega
        simp only [Nat.add_zero] at hsn
        simp [execOp, ho, hρ, convert, run_underlying' hs, run_underlying' hd, Conv.unsafePointer, hsn, hci, run_sizeOf' hn, hlt]
    · simp at h
  · rename_i e b hs hd hx
    split at h
    · rename_i n e' cs fz hn hb
      cases hc : (e == e' && decide (n + 1 ≤ cs.length)) with
      | false => rw [hc] at h; simp [fail] at h
      | true =>
        rw [hc] at h
        simp only [Bool.and_eq_true, beq_iff_eq, decide_eq_true_eq] at hc
        obtain ⟨rfl, hc⟩ := hc
        refine ⟨_, sim_pure fun w I μ ρ hr he => ⟨ρ x, ?_, he x _ hx⟩, h⟩
        have h1 := he x _ hx
        generalize hρ : ρ x = u at h1
        cases h1
        rename_i L hμ
        obtain ⟨L', m1, c, fr, m2, m3, m4, m5, m6, m7⟩ := hr.blk b _ hb rfl
        rw [hμ] at m1; cases m1
        have hb0 := m7.2 rfl
        have hsh := shape_at m2
        have hsn := seenAt_run (C := C) (a := ⟨L.cb, L.base + 0, none⟩) hsh
        have hly : liesAt C.P C.P.depth e (c.size / C.P.cellsOf e) L.base e 1 = true := by
          refine lies (cellsOf_size hn) (by simp) (by rw [hb0]; simp) ?_
          rw [cellsOf_size hn, hb0]
          have : 1 ≤ c.size / (n + 1) := (Nat.le_div_iff_mul_le (by omega)).2 (by omega)
          simpa using this
        have hva : (variablesAt ⟨L.cb, L.base, none⟩ e 1).run C.P w = .ok true w := by simp [variablesAt, run_shape, hsh, hly]
        simp only [Nat.add_zero] at hsn
        simp [execOp, ho, hρ, convert, run_underlying' hs, run_underlying' hd, Conv.unsafePointer, hsn, hva, run_sizeOf' hn]
    · simp at h
  · simp [fail] at h

theorem slData (argTypes : Array TypeId) (ty : TypeId) (a : Option Addr) (len cap : Nat) (h : cap ≠ 0) (w : World) : (Builtin.unsafeSliceData_ argTypes ty #[.slice a len cap]).run C.P w = .ok (.pointer a) w := by
  cases a with
  | none => rfl
  | some a =>
    show (if cap ≠ 0 then (pure (.pointer (some a)) : Sem Value) else _).run C.P w = _
    rw [if_pos h]; rfl

theorem run_loadBytes (a : Addr) (ns : List Int) (acc : ByteArray) (w : World) (h : ∀ (j : Nat) v, (ns.map (Value.int .u8))[j]? = some v → w.cell? (a.add j) = some v) :
    (loadBytes a acc ns.length).run C.P w = .ok (ns.foldl (fun r n => r.push (UInt8.ofNat n.toNat)) acc) w := by
  induction ns generalizing a acc with
  | nil => rfl
  | cons n ns ih =>
    have h0 := h 0 _ rfl
    rw [show a.add 0 = a from by simp [Addr.add]] at h0
    simp only [List.length_cons, loadBytes, Sem.run_bind, run_load, h0, Result.andThen_ok, List.foldl_cons]
    refine ih (a.add 1) _ fun j v hj => ?_
    · have := h (j + 1) v (by simpa using hj)
      rw [← this]
      have ha : (a.add 1).add j = a.add (j + 1) := by simp [Addr.add, Nat.add_assoc, Nat.add_comm 1 j]
      rw [ha]

theorem unsafeString_run {argTypes : Array TypeId} {ty pt e : TypeId} (hpt : argTypes[0]? = some pt) (hu : C.und pt = some (.pointer e)) {a : Addr} {k0 : IntKind} {n : Int} (h0 : 0 < n) (h1 : n ≤ 2 ^ 40) {w w' : World} {s : ByteArray}
    (hv : (variablesAt a e n.toNat).run C.P w = .ok true w) (hl : (loadBytes a .empty n.toNat).run C.P w = .ok s w) (hf : w' = w.freeze a n.toNat) :
    (Builtin.unsafeString_ argTypes ty #[.pointer (some a), .int k0 n]).run C.P w = .ok (.string s) w' := by
  have c1 : ¬ n < 0 := by omega
  have c2 : ¬ IntKind.i64.max < n := by
    have : IntKind.i64.max = 2 ^ 63 - 1 := rfl
    omega
  have c3 : ¬ n = 0 := by omega
  have he : (elemOf pt).run C.P w = .ok e w := by simp [elemOf, run_underlying' hu]
  subst hf
  show Sem.run C.P (asInt (.int k0 n) >>= _) w = _
  have hi : (asInt (.int k0 n)).run C.P w = .ok n w := rfl
  rw [Sem.run_bind, hi, Result.andThen_ok]
  simp only [Sem.run_bind, Sem.run_pure, Result.andThen_ok, hpt, c1, c2, c3, if_false, he, hv, hl, if_true]
  rfl

theorem op_call {c : Call} (ho : o.op = .call c) (h : opA C st o k = some r) : ∃ res, OpSim C st o res ∧ k res = some r := by
  rw [opA_eq] at h; unfold opA0 at h
  simp only [ho] at h
  have hexec : ∀ (ρ : Operand → Value) (b : Builtin) w, c.callee = .builtin b → ∃ consts, (execOp ρ o).run C.P w = (builtin b c.argTypes o.type consts (c.args.map ρ)).run C.P w := fun ρ b w hc => by
    have hr : ∃ X, resolve ρ c o.type = (pure { target := .builtin b c.argTypes o.type X, args := c.args.map ρ } : Sem Deferred) := by
      unfold resolve; rw [hc]; exact ⟨_, rfl⟩
    obtain ⟨X, hr⟩ := hr
    refine ⟨X, ?_⟩
    simp only [execOp, ho, hr, Sem.run_bind, Sem.run_pure, Result.andThen_ok, invoke]
  have two : ∀ (ρ : Operand → Value) w I μ a b, EvR C w I μ st ρ → st.evs c.args.toList = some [a, b] → ∃ ca cb, c.args.map ρ = #[ca, cb] ∧ VR C w I μ a ca ∧ VR C w I μ b cb := fun ρ w I μ a b he ha => by
    have hvs := evs_rel he ha
    rw [← Array.toList_map] at hvs
    generalize hl : (c.args.map ρ).toList = l at hvs
    cases hvs with
    | cons _ _ ca _ l1 h1 h2 =>
    cases h2 with
    | cons _ _ cb _ l2 h3 h4 =>
    cases h4
    exact ⟨ca, cb, by apply Array.ext'; simpa using hl, h1, h3⟩
  have one : ∀ (ρ : Operand → Value) w I μ a, EvR C w I μ st ρ → st.evs c.args.toList = some [a] → ∃ ca, c.args.map ρ = #[ca] ∧ VR C w I μ a ca := fun ρ w I μ a he ha => by
    have hvs := evs_rel he ha
    rw [← Array.toList_map] at hvs
    generalize hl : (c.args.map ρ).toList = l at hvs
    cases hvs with
    | cons _ _ ca _ l1 h1 h2 =>
    cases h2
    exact ⟨ca, by apply Array.ext'; simpa using hl, h1⟩
  split at h
  · -- a function's value
    rename_i f args hc ha
    split at h
    · rename_i g first cap hf
      refine ⟨_, ?_, h⟩
      intro w I μ ρ he
      have h1 := he f _ hf
      generalize hρ : ρ f = u at h1
      cases h1 with
      | func _ _ _ _ v1 v2 q1 q2 =>
        refine ⟨v1 ++ c.args.toList.map ρ ++ v2, ?_, (q1.append (evs_rel he ha)).append q2⟩
        simp [execOp, ho, resolve, hc, hρ, Deferred.ofValue, invoke]
        congr 2; apply Array.ext'; simp
    · rename_i b hf
      refine ⟨_, ?_, h⟩
      intro w I μ ρ he
      have h1 := he f _ hf
      generalize hρ : ρ f = u at h1
      cases h1 with
      | yield _ _ L hL =>
        refine ⟨L, c.args.toList.map ρ, hL, ?_, evs_rel he ha⟩
        simp [execOp, ho, resolve, hc, hρ, Deferred.ofValue, invoke]
        congr 2; apply Array.ext'; simp
    · simp [fail] at h
  · -- append
    rename_i s x hc ha
    obtain ⟨v, H', h1, h2, h3⟩ := appendA_rel h
    refine ⟨_, ?_, h1⟩
    refine sim_val h2 fun w I μ ρ hr hf he => ?_
    obtain ⟨ca, cb, e1, e2, e3⟩ := two ρ w I μ s x he ha
    obtain ⟨cv, w', I', μ', g1, g2, g3⟩ := h3 w I μ hr hf ca cb e2 e3
    obtain ⟨consts, hx⟩ := hexec ρ _ w hc
    refine ⟨_, cv, w', I', μ', ?_, .inl rfl, g2, g3⟩
    rw [hx, e1]
    simp [builtin, g1]
  · -- copy
    rename_i d s hc ha
    obtain ⟨v, H', h1, h2, h3⟩ := copyA_rel h
    refine ⟨_, ?_, h1⟩
    refine sim_val h2 fun w I μ ρ hr hf he => ?_
    obtain ⟨ca, cb, e1, e2, e3⟩ := two ρ w I μ d s he ha
    obtain ⟨cv, w', I', g1, g2, g3⟩ := h3 w I μ hr ca cb e2 e3
    obtain ⟨consts, hx⟩ := hexec ρ _ w hc
    refine ⟨_, cv, w', I', μ, ?_, .inl rfl, g2, g3⟩
    rw [hx, e1]
    simp [builtin, g1]
  · -- len
    rename_i x hc ha
    split at h
    · rename_i n hn
      refine ⟨_, sim_pure fun w I μ ρ hr he => ?_, h⟩
      obtain ⟨ca, e1, e2⟩ := one ρ w I μ x he ha
      obtain ⟨consts, hx⟩ := hexec ρ _ w hc
      refine ⟨goInt n, ?_, .int _ _ _⟩
      rw [hx, e1]
      simp [builtin, lenB_rel hn hr e2]
    · simp [fail] at h
  · -- max
    rename_i x xs hc ha
    split at h
    · rename_i v hv
      refine ⟨_, sim_pure fun w I μ ρ hr he => ?_, h⟩
      have hvs := evs_rel he ha
      rw [← Array.toList_map] at hvs
      obtain ⟨consts, hx⟩ := hexec ρ _ w hc
      generalize hl : (c.args.map ρ).toList = l at hvs
      cases hvs with
      | cons _ _ ca _ l1 q1 q2 =>
        obtain ⟨cv, g1, g2⟩ := minmax_rel true hv q1 q2
        refine ⟨cv, ?_, g2⟩
        rw [hx]
        simp only [cond_true] at g1
        rw [Array.toList_map] at hl
        simp [builtin, Builtin.max_, hl, g1]
    · simp at h
  · -- min
    rename_i x xs hc ha
    split at h
    · rename_i v hv
      refine ⟨_, sim_pure fun w I μ ρ hr he => ?_, h⟩
      have hvs := evs_rel he ha
      rw [← Array.toList_map] at hvs
      obtain ⟨consts, hx⟩ := hexec ρ _ w hc
      generalize hl : (c.args.map ρ).toList = l at hvs
      cases hvs with
      | cons _ _ ca _ l1 q1 q2 =>
        obtain ⟨cv, g1, g2⟩ := minmax_rel false hv q1 q2
        refine ⟨cv, ?_, g2⟩
        rw [hx]
        simp only [cond_false] at g1
        rw [Array.toList_map] at hl
        simp [builtin, Builtin.min_, hl, g1]
    · simp at h
  · -- recover
    rename_i hc ha
    refine ⟨_, ?_, h⟩
    intro w ρ
    obtain ⟨consts, hx⟩ := hexec ρ _ w hc
    rw [hx]; rfl
  · -- unsafe.SliceData
    rename_i b p len m hc ha
    refine ⟨_, sim_pure fun w I μ ρ hr he => ?_, h⟩
    obtain ⟨ca, e1, e2⟩ := one ρ w I μ _ he ha
    obtain ⟨consts, hx⟩ := hexec ρ _ w hc
    cases e2
    rename_i c' L hμ hle hc1 hc2
    refine ⟨_, ?_, .ptr _ _ _ L hμ⟩
    rw [hx, e1]
    have := hc1 _ rfl
    have hne : c' ≠ 0 := by omega
    have hrun := slData (C := C) c.argTypes o.type (some ⟨L.cb, L.base + p, none⟩) len c' hne w
    simp [builtin, hrun]
  · rename_i b p m hc ha
    refine ⟨_, sim_pure fun w I μ ρ hr he => ?_, h⟩
    obtain ⟨ca, e1, e2⟩ := one ρ w I μ _ he ha
    obtain ⟨consts, hx⟩ := hexec ρ _ w hc
    cases e2
    rename_i c' L hμ hle hc1 hc2
    refine ⟨_, ?_, .ptr _ _ _ L hμ⟩
    rw [hx, e1]
    have hne : c' ≠ 0 := by omega
    have hrun := slData (C := C) c.argTypes o.type (some ⟨L.cb, L.base + p, none⟩) (m + 1) c' hne w
    simp [builtin, hrun]
  · -- unsafe.String
    rename_i b p k0 n hc ha
    cases hb : (decide (0 < n) && decide (n ≤ 2 ^ 40)) with
    | false => rw [hb] at h; simp at h
    | true =>
      rw [hb] at h
      simp only [Bool.and_eq_true, decide_eq_true_eq] at hb
      simp only [cond_true] at h
      split at h
      · rename_i e cs t e' hblk hat
        cases hee : (e == e') with
        | false => rw [hee] at h; simp at h
        | true =>
          rw [hee] at h
          simp only [beq_iff_eq] at hee
          subst hee
          simp only [cond_true] at h
          split at h
          · rename_i l hn hcut
            split at h
            · rename_i l' hl'
              split at h
              · rename_i bs hbs
                refine ⟨_, ?_, h⟩
                refine sim_val (.put _ _ _) fun w I μ ρ hr hf he => ?_
                obtain ⟨ca, cb, e1, e2, e3⟩ := two ρ w I μ _ _ he ha
                obtain ⟨consts, hx⟩ := hexec ρ _ w hc
                cases e2; cases e3
                rename_i L hμ
                obtain ⟨L', m1, c0, fr, m2, m3, m4, m5, m6, m7⟩ := hr.blk b _ hblk rfl
                rw [hμ] at m1; cases m1
                have hfr := m7.1 rfl; subst hfr
                obtain ⟨pt, hpt, hut⟩ : ∃ pt, c.argTypes[0]? = some pt ∧ C.und pt = some (.pointer e) := by
                  cases hq : c.argTypes[0]? with
                  | none => rw [hq] at hat; simp at hat
                  | some pt => rw [hq] at hat; exact ⟨pt, rfl, hat⟩
                have hcells : getCells C st.heap (.ptr b p) n.toNat = some l' := by simp only [getCells, hblk, hcut, hl']
                obtain ⟨ad, vs, g1, g2, g3, g4, g5⟩ := getCells_rel hr hcells (.ptr μ b p L hμ)
                cases g1
                obtain ⟨ns, d1, d2⟩ := mapO_byteOf hbs g3
                have hnl : ns.length = n.toNat := by rw [← g2, d1]; simp
                obtain ⟨c1, c2⟩ := cut_spec hcut
                have hle : p + n.toNat ≤ cs.length := by
                  have : l.length ≤ cs.length - p := by rw [c1, List.length_take, List.length_drop]; omega
                  omega
                have hload := run_loadBytes (C := C) ⟨L.cb, L.base + p, none⟩ ns .empty w (fun j v hj => g5 j v (by rw [d1]; exact hj))
                rw [hnl] at hload
                have hsh := shape_at m2
                have hly : liesAt C.P C.P.depth e (c0.size / C.P.cellsOf e) (L.base + p) e n.toNat = true := by
                  refine lies (cellsOf_size hn) (by simp) (Nat.mod_one _) ?_
                  rw [cellsOf_size hn, Nat.div_one, Nat.div_one]
                  omega
                have hva : (variablesAt ⟨L.cb, L.base + p, none⟩ e n.toNat).run C.P w = .ok true w := by simp [variablesAt, run_shape, hsh, hly]
                have hrun := unsafeString_run (C := C) (ty := o.type) (k0 := k0) hpt hut hb.1 hb.2 hva hload rfl
                have hn0 : n.toNat ≠ 0 := by omega
                let w' := w.freeze ⟨L.cb, L.base + p, none⟩ n.toNat
                have hh : w'.heap = w.heap.setIfInBounds L.cb (.cells c0 e (L.base + p, L.base + p + n.toNat)) := by
                  apply Array.ext_getElem?
                  intro j
                  simp only [w', World.freeze]
                  rw [if_neg hn0]
                  simp only [Array.getElem?_modify]
                  by_cases hj : L.cb = j
                  · subst hj; rw [if_pos rfl, get_set_same m2, m2]; simp
                  · rw [if_neg hj, Array.getElem?_setIfInBounds_ne hj]
                have hs2 : Beside w w' := by
                  refine ⟨?_, ?_, ?_⟩ <;> (simp only [w', World.freeze]; rw [if_neg hn0])
                refine ⟨_, .string (ns.foldl (fun r n => r.push (UInt8.ofNat n.toNat)) .empty), w', fun cb => I cb ∨ (true = true ∧ cb = L.cb), μ, ?_, .inl rfl, VR.str' _ _ (by rw [foldl_push, d2]; simp), ?_⟩
                · rw [hx, e1]
                  simp [builtin, hrun, w']
                · have hnI := hr.mt b _ L hblk rfl hμ
                  have hw : ∀ cb, I cb → w'.heap[cb]? = w.heap[cb]? := fun cb hi => by
                    rw [hh, Array.getElem?_setIfInBounds_ne (fun e => hnI (by rw [e]; exact hi))]
                  refine post_set (x' := .cells e cs t true) hr hs2 hblk rfl hμ hh true (fun _ => rfl) fun _ => ?_
                  refine ⟨c0, _, by rw [hh]; exact get_set_same m2, m3, m4, m5, fun i a hi => ?_, fun h => by simp at h, m7.2⟩
                  obtain ⟨p1, u, p2, p3⟩ := m6 i a hi
                  exact ⟨p1, u, p2, p3.mono (fun _ h => .inl h) hw (fun _ _ h => h)⟩
              · simp at h
            · simp at h
          · simp at h
      · simp at h
  · simp [fail] at h

theorem opA_sim (h : opA C st o k = some r) : ∃ res, OpSim C st o res ∧ k res = some r := by
  cases ho : o.op with
  | move x => exact op_move (.inl ho) h
  | assign x => exact op_move (.inr ho) h
  | pick c a b => exact op_pick ho h
  | alloc e => exact op_alloc ho h
  | box e x => exact op_box ho h
  | build t ps => exact op_build ho h
  | buildSlice t n ps => exact op_buildSlice ho h
  | load t a => exact op_load ho h
  | store t a x => exact op_store ho h
  | nilCheck x => exact op_nilCheck ho h
  | binOp op t x y i => exact op_bin ho h
  | unOp op t x => exact op_un ho h
  | convert s d x => exact op_convert ho h
  | makeInterface t x => exact op_makeInterface ho h
  | makeFunc f a b => exact op_makeFunc ho h
  | makeMap t r => cases r with
    | none => exact op_makeMap ho h
    | some r => rw [opA_eq] at h; unfold opA0 at h; simp [ho, fail] at h
  | makeSlice t l c => exact op_makeSlice ho h
  | slice t x lo hi mx => exact op_slice ho h
  | fieldAddr s x f => exact op_fieldAddr ho h
  | field t x f => exact op_field ho h
  | indexAddr t x i => exact op_indexAddr ho h
  | index t x i => exact op_index ho h
  | lookup t x i ok => exact op_lookup ho h
  | mapUpdate t m kk x => exact op_mapPut (.inl ho) h
  | insert t m kk x => exact op_mapPut (.inr ho) h
  | typeAssert x xt t ok => exact op_typeAssert ho h
  | extract x i => exact op_extract ho h
  | panic x => exact op_panic ho h
  | defer c => exact op_defer ho h
  | call c => exact op_call ho h
  | _ => rw [opA_eq] at h; unfold opA0 at h; simp [ho, fail] at h

end
end Go.Ev

/- Single steps of the lone machine, for frames of every kind. -/
namespace Go.Ev
open Go

/-- a running frame -/
def mk (b : Frame) (tmps : Array Value) (todo : List Item) (dfs : List Deferred) : Frame := { b with tmps, todo, defers := dfs, mode := .run }

theorem mk_mk (b : Frame) (t t' : Array Value) (k k' : List Item) (d d' : List Deferred) : mk (mk b t k d) t' k' d' = mk b t' k' d' := rfl

theorem mk_eval (b : Frame) (tmps : Array Value) (todo : List Item) (dfs : List Deferred) (x : Operand) : (mk b tmps todo dfs).eval x = (⟨tmps, dfs⟩ : Act).eval x := by cases x <;> rfl

theorem mk_eval' (b : Frame) (tmps : Array Value) (todo : List Item) (dfs : List Deferred) : (mk b tmps todo dfs).eval = (⟨tmps, dfs⟩ : Act).eval := funext (mk_eval b tmps todo dfs)

/-- what the temporaries are after an operation's value is put -/
def putT (tmps : Array Value) (dst : Option Tmp) (v : Value) : Array Value := match dst with
  | some d => tmps.setIfInBounds d v
  | none => tmps

theorem finish_mk (b : Frame) (tmps : Array Value) (dfs : List Deferred) (ops : Array Oper) (i : Nat) (rest : List Nat) (k : List Item) (v : Value) :
    (mk b tmps (.inRegion ops (i :: rest) :: k) dfs).finish v = mk b (putT tmps ((ops[i]?).bind (·.dst)) v) (.inRegion ops rest :: k) dfs := by
  cases h : (ops[i]?).bind (·.dst) <;> simp [Frame.finish, mk, putT, h]

section
variable {P : Program} {b : Frame} {t : Array Value} {d : List Deferred} {k : List Item} {cs : List Frame} {w : World}

theorem st_skip : step P (lone (mk b t (.code .skip :: k) d) cs w) = .next (lone (mk b t k d) cs w) :=
  step_lone_go (by simp [stepG, stepG.exec, mk])

theorem st_label {l : Nat} : step P (lone (mk b t (.code (.label l) :: k) d) cs w) = .next (lone (mk b t k d) cs w) :=
  step_lone_go (by simp [stepG, stepG.exec, mk])

theorem st_inBlock {id : Nat} : step P (lone (mk b t (.inBlock id :: k) d) cs w) = .next (lone (mk b t k d) cs w) :=
  step_lone_go (by simp [stepG, stepG.exec, mk])

theorem st_inScope {c : Code} : step P (lone (mk b t (.inScope c :: k) d) cs w) = .next (lone (mk b t k d) cs w) :=
  step_lone_go (by simp [stepG, stepG.exec, mk])

theorem st_seq {x y : Code} : step P (lone (mk b t (.code (.seq x y) :: k) d) cs w) = .next (lone (mk b t (.code x :: .code y :: k) d) cs w) :=
  step_lone_go (by simp [stepG, stepG.exec, mk])

theorem st_cond {c : Operand} {x y : Code} {v : Bool} (h : (⟨t, d⟩ : Act).eval c = .bool v) :
    step P (lone (mk b t (.code (.cond c x y) :: k) d) cs w) = .next (lone (mk b t (.code (if v then x else y) :: k) d) cs w) :=
  step_lone_go (by
    have := mk_eval b t (.code (.cond c x y) :: k) d c
    simp only [mk] at this
    simp [stepG, stepG.exec, mk, this, h])

theorem st_block {id : Nat} {c : Code} : step P (lone (mk b t (.code (.block id c) :: k) d) cs w) = .next (lone (mk b t (.code c :: .inBlock id :: k) d) cs w) :=
  step_lone_go (by simp [stepG, stepG.exec, mk])

theorem st_loop {c : Code} : step P (lone (mk b t (.code (.loop c) :: k) d) cs w) = .next (lone (mk b t (.code c :: .inLoop c :: k) d) cs w) :=
  step_lone_go (by simp [stepG, stepG.exec, mk])

theorem st_inLoop {c : Code} : step P (lone (mk b t (.inLoop c :: k) d) cs w) = .next (lone (mk b t (.code c :: .inLoop c :: k) d) cs w) :=
  step_lone_go (by simp [stepG, stepG.exec, mk])

theorem st_scope {c : Code} : step P (lone (mk b t (.code (.scope c) :: k) d) cs w) = .next (lone (mk b t (.code c :: .inScope c :: k) d) cs w) :=
  step_lone_go (by simp [stepG, stepG.exec, mk])

theorem st_exit {id : Nat} {k' : List Item} (h : exitTo id k = some k') : step P (lone (mk b t (.code (.exit id) :: k) d) cs w) = .next (lone (mk b t k' d) cs w) :=
  step_lone_go (by simp [stepG, stepG.exec, mk, h])

theorem st_ret (hb : b.roundOf = none) : step P (lone (mk b t (.code .ret :: k) d) cs w) = .next (lone { mk b t (.code .ret :: k) d with mode := .returning } cs w) :=
  step_lone_go (by simp [stepG, stepG.exec, mk, hb])

theorem st_end (hb : b.roundOf = none) : step P (lone (mk b t [] d) cs w) = .next (lone { mk b t [] d with mode := .returning } cs w) :=
  step_lone_go (by simp [stepG, stepG.exec, mk, hb])

theorem st_region {id : Nat} {ops : Array Oper} : step P (lone (mk b t (.code (.region id ops false) :: k) d) cs w) = .next (lone (mk b t (.inRegion ops (List.range ops.size) :: k) d) cs w) :=
  step_lone_go (by simp [stepG, stepG.exec, mk])

theorem st_region_draw {id : Nat} {ops : Array Oper} : step P (lone (mk b t (.code (.region id ops true) :: k) d) cs w) =
      .next (lone (mk b t (.inRegion ops (Region.schedule (P.follows .mixedOrders) ops (w.tape w.drawn (.order b.fn id))) :: k) d) cs { w with drawn := w.drawn + 1 }) :=
  step_lone_go (by simp [stepG, stepG.exec, mk, choose, Sem.run, Question.forced, Question.cut])

theorem st_region_end {ops : Array Oper} : step P (lone (mk b t (.inRegion ops [] :: k) d) cs w) = .next (lone (mk b t k d) cs w) :=
  step_lone_go (by simp [stepG, stepG.exec, mk])

variable {ops : Array Oper} {i : Nat} {rest : List Nat}

theorem st_op_skip (h : ((ops[i]?).map (Region.wanted · (yielded ops t))).getD false = false) :
    step P (lone (mk b t (.inRegion ops (i :: rest) :: k) d) cs w) = .next (lone (mk b (putT t ((ops[i]?).bind (·.dst)) undef) (.inRegion ops rest :: k) d) cs w) := by
  rw [← finish_mk]
  exact step_lone_go (by
    have h' := h
    simp only [mk] at *
    simp [stepG, stepG.exec, h'])

/-- an operation that is no 'defer', or in no round -/
theorem stG_op {o : Oper} (ho : ops[i]? = some o) (hw : Region.wanted o (yielded ops t) = true) (hd : b.roundOf = none ∨ ∀ c, o.op ≠ .defer c) :
    stepG P true { frame := mk b t (.inRegion ops (i :: rest) :: k) d, callers := cs, status := .running, dying := none } w =
      stepG.apply P true (mk b t (.inRegion ops (i :: rest) :: k) d) cs none (execOp (⟨t, d⟩ : Act).eval o) w := by
  have he := mk_eval' b t (.inRegion ops (i :: rest) :: k) d
  simp only [mk] at he
  rcases hd with hd | hd
  · rw [hd] at he; simp [stepG, stepG.exec, stepG.oper, Frame.oper?, mk, ho, hw, he, hd]
  · cases hb : b.roundOf with
    | none => rw [hb] at he; simp [stepG, stepG.exec, stepG.oper, Frame.oper?, mk, ho, hw, he, hb]
    | some l =>
      simp only [stepG, stepG.exec, stepG.oper, Frame.oper?, mk, ho, hw, he, hb, Option.map_some, Option.getD_some, if_true]
      cases hop : o.op <;> first | exact absurd hop (hd _) | rfl

theorem st_op_value {o : Oper} (ho : ops[i]? = some o) (hw : Region.wanted o (yielded ops t) = true) (hd : b.roundOf = none ∨ ∀ c, o.op ≠ .defer c) {nx : Next} {v : Value} {w' : World}
    (hr : (execOp (⟨t, d⟩ : Act).eval o).run P w = .ok nx w') (hv : NextIs nx v) :
    step P (lone (mk b t (.inRegion ops (i :: rest) :: k) d) cs w) = .next (lone (mk b (putT t o.dst v) (.inRegion ops rest :: k) d) cs w') := by
  have hfin := finish_mk b t d ops i rest k v
  rw [ho] at hfin
  simp only [Option.bind_some] at hfin
  rw [← hfin]
  refine step_lone_go ?_
  rw [stG_op ho hw hd]
  rcases hv with rfl | ⟨rfl, rfl⟩ <;> simp [stepG.apply, hr, undef]

theorem st_op_panic {o : Oper} (ho : ops[i]? = some o) (hw : Region.wanted o (yielded ops t) = true) (hd : b.roundOf = none ∨ ∀ c, o.op ≠ .defer c) {v : Value} {w' : World}
    (hr : (execOp (⟨t, d⟩ : Act).eval o).run P w = .halt (.panic v) w') :
    step P (lone (mk b t (.inRegion ops (i :: rest) :: k) d) cs w) = .next (lone { mk b t (.inRegion ops (i :: rest) :: k) d with mode := .panicking [{ v, recovered := false }] } cs w') := by
  refine step_lone_go ?_
  rw [stG_op ho hw hd]
  simp [stepG.apply, hr, Frame.raise, mk]

theorem st_op_defer {o : Oper} (ho : ops[i]? = some o) (hw : Region.wanted o (yielded ops t) = true) (hd : b.roundOf = none) {x : Deferred} {w' : World}
    (hr : (execOp (⟨t, d⟩ : Act).eval o).run P w = .ok (.defer x) w') :
    step P (lone (mk b t (.inRegion ops (i :: rest) :: k) d) cs w) = .next (lone (mk b (putT t o.dst undef) (.inRegion ops rest :: k) (x :: d)) cs w') := by
  have hfin := finish_mk b t (x :: d) ops i rest k undef
  rw [ho] at hfin
  simp only [Option.bind_some] at hfin
  rw [← hfin]
  refine step_lone_go ?_
  rw [stG_op ho hw (.inl hd)]
  simp [stepG.apply, hr, mk]

theorem st_op_enter {o : Oper} (ho : ops[i]? = some o) (hw : Region.wanted o (yielded ops t) = true) (hd : b.roundOf = none ∨ ∀ c, o.op ≠ .defer c) {f : FuncId} {args : Array Value} {w' : World}
    (hr : (execOp (⟨t, d⟩ : Act).eval o).run P w = .ok (.enter f args) w') :
    step P (lone (mk b t (.inRegion ops (i :: rest) :: k) d) cs w) = .next (lone (Frame.enter P f args .normal) (mk b t (.inRegion ops (i :: rest) :: k) d :: cs) w') := by
  refine step_lone_go ?_
  rw [stG_op ho hw hd]
  simp [stepG.apply, hr, mk]

theorem st_op_round {o : Oper} (ho : ops[i]? = some o) (hw : Region.wanted o (yielded ops t) = true) (hd : b.roundOf = none ∨ ∀ c, o.op ≠ .defer c) {l : Nat} {f : FuncId} {tm : Array Value} {ca cb : Code} {w' : World}
    (hr : (execOp (⟨t, d⟩ : Act).eval o).run P w = .ok (.round l f tm ca cb) w') :
    step P (lone (mk b t (.inRegion ops (i :: rest) :: k) d) cs w) = .next (lone (Frame.round l f tm ca cb .normal) (mk b t (.inRegion ops (i :: rest) :: k) d :: cs) w') := by
  refine step_lone_go ?_
  rw [stG_op ho hw hd]
  simp [stepG.apply, hr, mk]

theorem st_op_recover {o : Oper} (ho : ops[i]? = some o) (hw : Region.wanted o (yielded ops t) = true) (hd : b.roundOf = none) {w' : World}
    (hr : (execOp (⟨t, d⟩ : Act).eval o).run P w = .ok .recover w') :
    step P (lone (mk b t (.inRegion ops (i :: rest) :: k) d) cs w) = match tryRecover (mk b t (.inRegion ops (i :: rest) :: k) d) cs with
      | some (v, cs') => .next (lone (mk b (putT t o.dst v) (.inRegion ops rest :: k) d) cs' w')
      | none => .next (lone (mk b (putT t o.dst .nilIface) (.inRegion ops rest :: k) d) cs w') := by
  have hfin := fun v => finish_mk b t d ops i rest k v
  simp only [ho, Option.bind_some] at hfin
  cases htr : tryRecover (mk b t (.inRegion ops (i :: rest) :: k) d) cs with
  | none =>
    simp only
    rw [← hfin]
    refine step_lone_go ?_
    rw [stG_op ho hw (.inl hd)]
    have hb : (mk b t (.inRegion ops (i :: rest) :: k) d).roundOf = none := hd
    simp [stepG.apply, hr, hb, htr]
  | some r =>
    obtain ⟨v, cs'⟩ := r
    simp only
    rw [← hfin]
    refine step_lone_go ?_
    rw [stG_op ho hw (.inl hd)]
    have hb : (mk b t (.inRegion ops (i :: rest) :: k) d).roundOf = none := hd
    simp [stepG.apply, hr, hb, htr]

end
end Go.Ev

/- What the evaluator's tasks stand for in the machine; the rules of control. -/
namespace Go.Ev
open Go

/-- the deferred calls -/
inductive DR (C : Ctx) (w : World) (I : Nat → Prop) (μ : Mu) : List Dfr → List Deferred → Prop
  | nil : DR C w I μ [] []
  | mark (b : Nat) (L : Loc) (ds : List Dfr) (l : List Deferred) : μ b = some L → DR C w I μ ds l → DR C w I μ (.mark b :: ds) ({ target := .collected L.cb, args := #[] } :: l)
  | call (f : FuncId) (a1 a2 : List AV) (v1 v2 : List Value) (ds : List Dfr) (l : List Deferred) : VRs C w I μ a1 v1 → VRs C w I μ a2 v2 → DR C w I μ ds l →
      DR C w I μ (.call f (a1 ++ a2) :: ds) ({ target := .fn (.func f) v2.toArray, args := v1.toArray } :: l)

def live (v : Value) : PanicEntry := { v, recovered := false }
def done (v : Value) : PanicEntry := { v, recovered := true }

/-- what 'recover' will find: fm is the mode of the caller, where it matters -/
def PanR (C : Ctx) (w : World) (I : Nat → Prop) (μ : Mu) (kd : CallKind) (fm : Option FrameMode) : Pan → Prop
  | .no => (kd ≠ .deferred ∧ kd ≠ .wrapped) ∨ (kd = .deferred ∧ ∃ m, fm = some m ∧ ∀ ch, m ≠ .panicking ch)
  | .live v => kd = .deferred ∧ ∃ cv, fm = some (.panicking [live cv]) ∧ VR C w I μ v cv
  | .done => kd = .deferred ∧ ∃ cv, fm = some (.panicking [done cv])

/-- the caller's mode is as it was, or its panic is recovered -/
def CsR (pan pan' : Pan) (fm fm' : Option FrameMode) : Prop :=
  (fm' = fm ∧ pan' = pan) ∨ ∃ v cv, pan = .live v ∧ pan' = .done ∧ fm = some (.panicking [live cv]) ∧ fm' = some (.panicking [done cv])

/-- the first of the callers is in this mode, where it matters -/
def Top (cs : List Frame) (fm : Option FrameMode) : Prop := ∀ m, fm = some m → ∃ c r, cs = c :: r ∧ c.mode = m

def setTop (cs : List Frame) (fm : Option FrameMode) : List Frame := match cs, fm with
  | c :: r, some m => { c with mode := m } :: r
  | cs, _ => cs

theorem setTop_self {cs : List Frame} {fm : Option FrameMode} (h : Top cs fm) : setTop cs fm = cs := by
  cases fm with
  | none => cases cs <;> rfl
  | some m =>
    obtain ⟨c, r, rfl, h2⟩ := h m rfl
    subst h2
    rfl

theorem CsR.refl (pan : Pan) (fm : Option FrameMode) : CsR pan pan fm fm := .inl ⟨rfl, rfl⟩

theorem CsR.trans {p1 p2 p3 : Pan} {c1 c2 c3 : Option FrameMode} (h : CsR p1 p2 c1 c2) (k : CsR p2 p3 c2 c3) : CsR p1 p3 c1 c3 := by
  rcases h with ⟨rfl, rfl⟩ | ⟨v, cv, rfl, rfl, h1, h2⟩
  · exact k
  · rcases k with ⟨rfl, rfl⟩ | ⟨v', cv', h', _⟩
    · exact .inr ⟨v, cv, rfl, rfl, h1, h2⟩
    · simp at h'

theorem CsR.top {p1 p2 : Pan} {fm fm' : Option FrameMode} {cs : List Frame} (h : CsR p1 p2 fm fm') (ht : Top cs fm) : Top (setTop cs fm') fm' := by
  rcases h with ⟨rfl, rfl⟩ | ⟨v, cv, rfl, rfl, h1, h2⟩
  · rw [setTop_self ht]; exact ht
  · obtain ⟨c, r, rfl, h3⟩ := ht _ h1
    subst h2
    intro m hm
    cases hm
    exact ⟨_, r, rfl, rfl⟩

theorem CsR.set {p1 p2 p3 : Pan} {c1 c2 c3 : Option FrameMode} {cs : List Frame} (h : CsR p1 p2 c1 c2) (k : CsR p2 p3 c2 c3) (ht : Top cs c1) : setTop (setTop cs c2) c3 = setTop cs c3 := by
  rcases h with ⟨rfl, rfl⟩ | ⟨v, cv, rfl, rfl, h1, h2⟩
  · rw [setTop_self ht]
  · rcases k with ⟨rfl, rfl⟩ | ⟨v', cv', h', _⟩
    · subst h2; cases cs <;> rfl
    · simp at h'

section
variable {C : Ctx} {w w' : World} {I I' : Nat → Prop} {μ μ' : Mu} {H H' : List Blk}

theorem DR.mono {ds : List Dfr} {l : List Deferred} (h : DR C w I μ ds l) (hI : ∀ cb, I cb → I' cb) (hw : ∀ cb, I cb → w'.heap[cb]? = w.heap[cb]?) (hμ : ∀ b L, μ b = some L → μ' b = some L) : DR C w' I' μ' ds l := by
  induction h with
  | nil => exact .nil
  | mark b L ds l h1 _ ih => exact .mark b L _ _ (hμ _ _ h1) ih
  | call f a1 a2 v1 v2 ds l h1 h2 _ ih => exact .call f _ _ _ _ _ _ (h1.mono hI hw hμ) (h2.mono hI hw hμ) ih

theorem DR.step {ds : List Dfr} {l : List Deferred} (hv : DR C w I μ ds l) (h : HR C w I μ H) (p : Post C w I μ H w' I' μ' H') (hf : Fresh μ H.length H'.length) : DR C w' I' μ' ds l :=
  hv.mono p.sub (fun _ hi => p.imm h hi) (p.grows hf)

theorem PanR.step {kd : CallKind} {fm fm' : Option FrameMode} {pan pan' : Pan} (hp : PanR C w I μ kd fm pan) (h : HR C w I μ H) (p : Post C w I μ H w' I' μ' H') (hf : Fresh μ H.length H'.length) (hc : CsR pan pan' fm fm') : PanR C w' I' μ' kd fm' pan' := by
  rcases hc with ⟨rfl, rfl⟩ | ⟨v, cv, rfl, rfl, e1, e2⟩
  · cases pan' with
    | no => exact hp
    | live v =>
      obtain ⟨h1, cv, h2, h3⟩ := hp
      exact ⟨h1, cv, h2, h3.step h p hf⟩
    | done => exact hp
  · obtain ⟨h1, _⟩ := hp
    exact ⟨h1, cv, e2⟩

/-- no such item stands first as the frames of functions without Go text have -/
def NoCall (k : List Item) : Prop := ∀ d r s v q, k ≠ .call d r s v :: q

/-- where a run of code arrives -/
def Arr (C : Ctx) (w' : World) (m : Machine) (b : Frame) (t' : Array Value) (k : List Item) (d' : List Deferred) (cs' : List Frame) (pv : Value) : Ex → Prop
  | .normal => Steps C.P m (lone (mk b t' k d') cs' w')
  | .exit id => ∃ k', exitTo id k' = exitTo id k ∧ Steps C.P m (lone (mk b t' (.code (.exit id) :: k') d') cs' w')
  | .ret => ∃ k', Steps C.P m (lone (mk b t' (.code .ret :: k') d') cs' w')
  | .panic _ => ∃ k', NoCall k' ∧ Steps C.P m (lone { mk b t' k' d' with mode := .panicking [live pv] } cs' w')

theorem Arr.of_steps {m m' : Machine} {b : Frame} {t' : Array Value} {k : List Item} {d' : List Deferred} {cs' : List Frame} {pv : Value} {e : Ex} (h : Steps C.P m m') (a : Arr C w' m' b t' k d' cs' pv e) : Arr C w' m b t' k d' cs' pv e := by
  cases e with
  | normal => exact h.trans a
  | exit id => obtain ⟨k', h1, h2⟩ := a; exact ⟨k', h1, h.trans h2⟩
  | ret => obtain ⟨k', h2⟩ := a; exact ⟨k', h.trans h2⟩
  | panic v => obtain ⟨k', h0, h2⟩ := a; exact ⟨k', h0, h.trans h2⟩

/-- what holds ahead of a piece of code -/
structure Pre (C : Ctx) (w : World) (I : Nat → Prop) (μ : Mu) (st : St) (b : Frame) (t : Array Value) (d : List Deferred) (fm : Option FrameMode) : Prop where
  hr : HR C w I μ st.heap.bl
  er : ER C w I μ st.env t
  size : st.nt ≤ t.size
  dr : DR C w I μ st.defers d
  pan : PanR C w I μ b.kind fm st.pan
  rnd : b.roundOf.isSome = st.rnd

/-- the items are carried out: from st the machine comes to e and st' -/
def ExSim (C : Ctx) (items : List Item) (st : St) (e : Ex) (st' : St) : Prop :=
  LogOK st.heap st'.heap ∧ st'.nt = st.nt ∧ st'.rnd = st.rnd ∧
  ∀ w I μ b t d fm, Pre C w I μ st b t d fm → Fresh μ st.heap.bl.length st'.heap.bl.length →
    ∃ w' I' μ' t' d' fm' pv, Post C w I μ st.heap.bl w' I' μ' st'.heap.bl ∧ ER C w' I' μ' st'.env t' ∧ st.nt ≤ t'.size ∧ DR C w' I' μ' st'.defers d' ∧ CsR st.pan st'.pan fm fm' ∧
      (∀ v, e = .panic v → VR C w' I' μ' v pv) ∧ ∀ k cs, Top cs fm → Arr C w' (lone (mk b t (items ++ k) d) cs w) b t' k d' (setTop cs fm') pv e

theorem LogOK.len {h h' : Hp} (hl : LogOK h h') : h.bl.length ≤ h'.bl.length := by obtain ⟨_, _, h2, _⟩ := hl; exact h2

theorem Pre.next {st st' : St} {b : Frame} {t t' : Array Value} {d d' : List Deferred} {fm fm' : Option FrameMode} (h : Pre C w I μ st b t d fm) (hf : Fresh μ st.heap.bl.length st'.heap.bl.length)
    (p : Post C w I μ st.heap.bl w' I' μ' st'.heap.bl) (he : ER C w' I' μ' st'.env t') (hs : st.nt ≤ t'.size) (hd : DR C w' I' μ' st'.defers d') (hc : CsR st.pan st'.pan fm fm') (hn : st'.nt = st.nt) (hr : st'.rnd = st.rnd) :
    Pre C w' I' μ' st' b t' d' fm' :=
  ⟨p.hr, he, by rw [hn]; exact hs, hd, h.pan.step h.hr p hf hc, by rw [hr]; exact h.rnd⟩

theorem ExSim.trans {xs ys : List Item} {st st1 st2 : St} {e : Ex} (h : ExSim C xs st .normal st1) (k : ExSim C ys st1 e st2) : ExSim C (xs ++ ys) st e st2 := by
  obtain ⟨l1, n1, r1, h⟩ := h
  obtain ⟨l2, n2, r2, k⟩ := k
  refine ⟨l1.trans l2, by rw [n2, n1], by rw [r2, r1], fun w I μ b t d fm hp hf => ?_⟩
  obtain ⟨w1, I1, μ1, t1, d1, c1, u1, p1, e1, s1, dd1, cc1, hv1, a1⟩ := h w I μ b t d fm hp (hf.left l2.len)
  have hp1 := hp.next (hf.left l2.len) p1 e1 s1 dd1 cc1 n1 r1
  obtain ⟨w2, I2, μ2, t2, d2, c2, u2, p2, e2, s2, dd2, cc2, hv2, a2⟩ := k w1 I1 μ1 b t1 d1 c1 hp1 (p1.fresh hf)
  refine ⟨w2, I2, μ2, t2, d2, c2, u2, p1.trans p2, e2, by rw [← n1]; exact s2, dd2, cc1.trans cc2, hv2, fun kk cs ht => ?_⟩
  have := a1 (ys ++ kk) cs ht
  rw [← List.append_assoc] at this
  have h2 := a2 kk (setTop cs c1) (cc1.top ht)
  rw [cc1.set cc2 ht] at h2
  exact .of_steps this h2

theorem ExSim.abn {xs ys : List Item} {st st1 : St} {e : Ex} (h : ExSim C xs st e st1) (hn : e ≠ .normal) (hx : ∀ id, e = .exit id → ∀ k, exitTo id (ys ++ k) = exitTo id k) : ExSim C (xs ++ ys) st e st1 := by
  obtain ⟨l1, n1, r1, h⟩ := h
  refine ⟨l1, n1, r1, fun w I μ b t d fm hp hf => ?_⟩
  obtain ⟨w1, I1, μ1, t1, d1, c1, u1, p1, e1, s1, dd1, cc1, hv1, a1⟩ := h w I μ b t d fm hp hf
  refine ⟨w1, I1, μ1, t1, d1, c1, u1, p1, e1, s1, dd1, cc1, hv1, fun kk cs ht => ?_⟩
  have := a1 (ys ++ kk) cs ht
  rw [← List.append_assoc] at this
  cases e with
  | normal => exact absurd rfl hn
  | exit id => obtain ⟨k', q1, q2⟩ := this; exact ⟨k', by rw [q1, hx id rfl], q2⟩
  | ret => exact this
  | panic v => exact this

/-- steps ahead of the items -/
theorem ExSim.pre {xs ys : List Item} {st st1 : St} {e : Ex} (h : ExSim C ys st e st1)
    (hs : ∀ w I μ b t d fm k cs, Pre C w I μ st b t d fm → Steps C.P (lone (mk b t (xs ++ k) d) cs w) (lone (mk b t (ys ++ k) d) cs w)) : ExSim C xs st e st1 := by
  obtain ⟨l1, n1, r1, h⟩ := h
  refine ⟨l1, n1, r1, fun w I μ b t d fm hp hf => ?_⟩
  obtain ⟨w1, I1, μ1, t1, d1, c1, u1, p1, e1, s1, dd1, cc1, hv1, a1⟩ := h w I μ b t d fm hp hf
  exact ⟨w1, I1, μ1, t1, d1, c1, u1, p1, e1, s1, dd1, cc1, hv1, fun kk cs ht => .of_steps (hs w I μ b t d fm kk cs hp) (a1 kk cs ht)⟩

theorem ExSim.nil (st : St) : ExSim C [] st .normal st :=
  ⟨.refl _, rfl, rfl, fun w I μ b t d fm hp hf => ⟨w, I, μ, t, d, fm, undef, .refl hp.hr, hp.er, hp.size, hp.dr, .refl _ _, fun _ h => (by cases h), fun k cs ht => by rw [setTop_self ht]; exact .refl _ _⟩⟩

theorem ExSim.exit (st : St) (id : Nat) : ExSim C [.code (.exit id)] st (.exit id) st :=
  ⟨.refl _, rfl, rfl, fun w I μ b t d fm hp hf => ⟨w, I, μ, t, d, fm, undef, .refl hp.hr, hp.er, hp.size, hp.dr, .refl _ _, fun _ h => (by cases h), fun k cs ht => by rw [setTop_self ht]; exact ⟨k, rfl, .refl _ _⟩⟩⟩

theorem ExSim.ret (st : St) : ExSim C [.code .ret] st .ret st :=
  ⟨.refl _, rfl, rfl, fun w I μ b t d fm hp hf => ⟨w, I, μ, t, d, fm, undef, .refl hp.hr, hp.er, hp.size, hp.dr, .refl _ _, fun _ h => (by cases h), fun k cs ht => by rw [setTop_self ht]; exact ⟨k, .refl _ _⟩⟩⟩

theorem ExSim.skip (st : St) : ExSim C [.code .skip] st .normal st := (ExSim.nil st).pre fun _ _ _ _ _ _ _ _ _ _ => .one st_skip
theorem ExSim.label (st : St) (l : Nat) : ExSim C [.code (.label l)] st .normal st := (ExSim.nil st).pre fun _ _ _ _ _ _ _ _ _ _ => .one st_label

theorem ExSim.seq_n {a b : Code} {st st1 st2 : St} {e : Ex} (h : ExSim C [.code a] st .normal st1) (k : ExSim C [.code b] st1 e st2) : ExSim C [.code (.seq a b)] st e st2 :=
  (ExSim.trans h k).pre fun _ _ _ _ _ _ _ _ _ _ => .one st_seq

theorem ExSim.seq_a {a b : Code} {st st1 : St} {e : Ex} (h : ExSim C [.code a] st e st1) (hn : e ≠ .normal) : ExSim C [.code (.seq a b)] st e st1 :=
  (ExSim.abn (ys := [.code b]) h hn fun _ _ _ => rfl).pre fun _ _ _ _ _ _ _ _ _ _ => .one st_seq

theorem ExSim.cond {c : Operand} {a b : Code} {v : Bool} {st st1 : St} {e : Ex} (hc : st.ev c = some (.bool v)) (hev : ∀ w I μ t (d : List Deferred), ER C w I μ st.env t → EvR C w I μ st (⟨t, d⟩ : Act).eval)
    (h : ExSim C [.code (if v then a else b)] st e st1) : ExSim C [.code (.cond c a b)] st e st1 :=
  h.pre fun w I μ bb t d fm k cs hp => .one (st_cond (by
    have := hev w I μ t d hp.er c _ hc
    generalize (⟨t, d⟩ : Act).eval c = u at this
    cases this; rfl))

theorem ExSim.block_n {id : Nat} {c : Code} {st st1 : St} (h : ExSim C [.code c] st .normal st1) : ExSim C [.code (.block id c)] st .normal st1 :=
  (ExSim.trans h ((ExSim.nil st1).pre (xs := [.inBlock id]) fun _ _ _ _ _ _ _ _ _ _ => .one st_inBlock)).pre fun _ _ _ _ _ _ _ _ _ _ => .one st_block

theorem ExSim.block_here {id : Nat} {c : Code} {st st1 : St} (h : ExSim C [.code c] st (.exit id) st1) : ExSim C [.code (.block id c)] st .normal st1 := by
  obtain ⟨l1, n1, r1, h⟩ := h
  refine ⟨l1, n1, r1, fun w I μ b t d fm hp hf => ?_⟩
  obtain ⟨w1, I1, μ1, t1, d1, c1, u1, p1, e1, s1, dd1, cc1, hv1, a1⟩ := h w I μ b t d fm hp hf
  refine ⟨w1, I1, μ1, t1, d1, c1, u1, p1, e1, s1, dd1, cc1, fun _ h => (by cases h), fun kk cs ht => ?_⟩
  obtain ⟨k', q1, q2⟩ := a1 (.inBlock id :: kk) cs ht
  exact (Steps.one st_block).trans (q2.trans (.one (st_exit (by rw [q1]; simp [exitTo]))))

theorem ExSim.block_a {id : Nat} {c : Code} {st st1 : St} {e : Ex} (h : ExSim C [.code c] st e st1) (hn : e ≠ .normal) (hx : ∀ id', e = .exit id' → id' ≠ id) : ExSim C [.code (.block id c)] st e st1 :=
  (ExSim.abn (ys := [.inBlock id]) h hn fun id' he k => by
    have : (id == id') = false := by simpa using fun e => hx id' he e.symm
    simp [exitTo, this]).pre fun _ _ _ _ _ _ _ _ _ _ => .one st_block

theorem steps_via {P : Program} {m m1 m' : Machine} (h : step P m = .next m1) (hs : Steps P m m') (hne : m ≠ m') : Steps P m1 m' := by
  obtain ⟨n, hn⟩ := hs
  cases n with
  | zero => simp [runN] at hn; exact absurd hn hne
  | succ n => simp only [runN, h] at hn; exact ⟨n, hn⟩

theorem lone_ne {f g : Frame} {c1 c2 : List Frame} {w1 w2 : World} (h : f.todo ≠ g.todo) : lone f c1 w1 ≠ lone g c2 w2 := fun e => by
  have := congrArg (fun m => (m.gs[0]?).map (fun x => x.frame.todo)) e
  simp [lone] at this
  exact h this

theorem lone_ne' {f g : Frame} {c1 c2 : List Frame} {w1 w2 : World} (h : f.mode ≠ g.mode) : lone f c1 w1 ≠ lone g c2 w2 := fun e => by
  have := congrArg (fun m => (m.gs[0]?).map (fun x => x.frame.mode)) e
  simp [lone] at this
  exact h this

theorem ExSim.loop_n {c : Code} {st st1 st2 : St} {e : Ex} (h : ExSim C [.code c] st .normal st1) (k : ExSim C [.code (.loop c)] st1 e st2) : ExSim C [.code (.loop c)] st e st2 := by
  obtain ⟨l2, n2, r2, k⟩ := k
  have k' : ExSim C [.inLoop c] st1 e st2 := by
    refine ⟨l2, n2, r2, fun w I μ b t d fm hp hf => ?_⟩
    obtain ⟨w1, I1, μ1, t1, d1, c1, u1, p1, e1, s1, dd1, cc1, hv1, a1⟩ := k w I μ b t d fm hp hf
    refine ⟨w1, I1, μ1, t1, d1, c1, u1, p1, e1, s1, dd1, cc1, hv1, fun kk cs ht => ?_⟩
    have h1 : step C.P (lone (mk b t (.inLoop c :: kk) d) cs w) = .next (lone (mk b t (.code c :: .inLoop c :: kk) d) cs w) := st_inLoop
    have h2 : step C.P (lone (mk b t (.code (.loop c) :: kk) d) cs w) = .next (lone (mk b t (.code c :: .inLoop c :: kk) d) cs w) := st_loop
    have a2 := a1 kk cs ht
    refine .of_steps (.one h1) ?_
    cases e with
    | normal => exact steps_via h2 a2 (lone_ne fun e => by simp [mk] at e)
    | exit id => obtain ⟨k', q1, q2⟩ := a2; exact ⟨k', q1, steps_via h2 q2 (lone_ne fun e => by simp [mk] at e)⟩
    | ret => obtain ⟨k', q2⟩ := a2; exact ⟨k', steps_via h2 q2 (lone_ne fun e => by simp [mk] at e)⟩
    | panic v => obtain ⟨k', q0, q2⟩ := a2; exact ⟨k', q0, steps_via h2 q2 (lone_ne' fun e => by simp [mk] at e)⟩
  exact (ExSim.trans h k').pre fun _ _ _ _ _ _ _ _ _ _ => .one st_loop

theorem ExSim.loop_a {c : Code} {st st1 : St} {e : Ex} (h : ExSim C [.code c] st e st1) (hn : e ≠ .normal) : ExSim C [.code (.loop c)] st e st1 :=
  (ExSim.abn (ys := [.inLoop c]) h hn fun _ _ _ => rfl).pre fun _ _ _ _ _ _ _ _ _ _ => .one st_loop

theorem ExSim.scope_n {c : Code} {st st1 : St} (h : ExSim C [.code c] st .normal st1) : ExSim C [.code (.scope c)] st .normal st1 :=
  (ExSim.trans h ((ExSim.nil st1).pre (xs := [.inScope c]) fun _ _ _ _ _ _ _ _ _ _ => .one st_inScope)).pre fun _ _ _ _ _ _ _ _ _ _ => .one st_scope

theorem ExSim.scope_a {c : Code} {st st1 : St} {e : Ex} (h : ExSim C [.code c] st e st1) (hn : e ≠ .normal) : ExSim C [.code (.scope c)] st e st1 :=
  (ExSim.abn (ys := [.inScope c]) h hn fun _ _ _ => rfl).pre fun _ _ _ _ _ _ _ _ _ _ => .one st_scope

end
end Go.Ev

/- One operation of a region, as the machine carries it out; what calls and rounds stand for. -/
namespace Go.Ev
open Go

/-- a call: what the callee leaves -/
def CallSim (C : Ctx) (f : FuncId) (args : List AV) (heap : Hp) : Outc → Hp → Prop
  | .ret v, h' => LogOK heap h' ∧ ∀ w I μ vargs, HR C w I μ heap.bl → Fresh μ heap.bl.length h'.bl.length → VRs C w I μ args vargs →
      ∃ w' I' μ' cv, Post C w I μ heap.bl w' I' μ' h'.bl ∧ VR C w' I' μ' v cv ∧
        ((callFunc f vargs.toArray).run C.P w = .ok (.value cv) w' ∨
          ((callFunc f vargs.toArray).run C.P w = .ok (.enter f vargs.toArray) w ∧ Calls C.P f vargs.toArray w fun e w'' => e = .returned cv ∧ w'' = w'))
  | .panic v, h' => LogOK heap h' ∧ ∀ w I μ vargs, HR C w I μ heap.bl → Fresh μ heap.bl.length h'.bl.length → VRs C w I μ args vargs →
      ∃ w' I' μ' cv, Post C w I μ heap.bl w' I' μ' h'.bl ∧ VR C w' I' μ' v cv ∧
        ((callFunc f vargs.toArray).run C.P w = .ok (.enter f vargs.toArray) w ∧ Calls C.P f vargs.toArray w fun e w'' => e = .panicked [live cv] ∧ w'' = w')

/-- a round of a range over a function -/
def RoundSim (C : Ctx) (b : Nat) (args : List AV) (heap : Hp) : Outc → Hp → Prop
  | .ret v, h' => LogOK heap h' ∧ ∀ w I μ L vargs, HR C w I μ heap.bl → Fresh μ heap.bl.length h'.bl.length → μ b = some L → VRs C w I μ args vargs →
      ∃ w' I' μ' cv f tm ca cb, Post C w I μ heap.bl w' I' μ' h'.bl ∧ VR C w' I' μ' v cv ∧ (Instr.yield L.cb vargs.toArray).run C.P w = .ok (.round L.cb f tm ca cb) w ∧
        ∀ c cs, Steps C.P (lone (Frame.round L.cb f tm ca cb .normal) (c :: cs) w) (lone (c.finish cv) cs w')
  | .panic v, h' => LogOK heap h' ∧ ∀ w I μ L vargs, HR C w I μ heap.bl → Fresh μ heap.bl.length h'.bl.length → μ b = some L → VRs C w I μ args vargs →
      ∃ w' I' μ' cv f tm ca cb, Post C w I μ heap.bl w' I' μ' h'.bl ∧ VR C w' I' μ' v cv ∧ (Instr.yield L.cb vargs.toArray).run C.P w = .ok (.round L.cb f tm ca cb) w ∧
        ∀ c cs, Steps C.P (lone (Frame.round L.cb f tm ca cb .normal) (c :: cs) w) (lone (c.raise [live cv]) cs w')

/-- the mode in which a frame leaves -/
def ModeR (C : Ctx) (w : World) (I : Nat → Prop) (μ : Mu) : Mode → FrameMode → Prop
  | .returning, m => m = .returning
  | .panicking v, m => ∃ cv, m = .panicking [live cv] ∧ VR C w I μ v cv

def lv (b : Frame) (t : Array Value) (k : List Item) (d : List Deferred) (m : FrameMode) : Frame := { b with tmps := t, todo := k, defers := d, mode := m }

/-- a frame that leaves: its deferred calls are carried out -/
def LeaveSim (C : Ctx) (fn : Func) (st : St) (m : Mode) (o : Outc) (h' : Hp) : Prop :=
  LogOK st.heap h' ∧ ∀ w I μ b t d fm, HR C w I μ st.heap.bl → ER C w I μ st.env t → DR C w I μ st.defers d → ModeR C w I μ m fm → C.P.funcs[b.fn]? = some fn → Fresh μ st.heap.bl.length h'.bl.length →
    ∃ w' I' μ' cv fm', Post C w I μ st.heap.bl w' I' μ' h'.bl ∧ (∀ k cs, Steps C.P (lone (lv b t k d fm) cs w) (lone (lv b t k [] fm') cs w')) ∧
      (match o with
      | .ret v => VR C w' I' μ' v cv ∧ fm' = .returning ∧ (results fn t).run C.P w' = .ok cv w'
      | .panic v => VR C w' I' μ' v cv ∧ fm' = .panicking [live cv])

/-- a deferred call -/
def DcallSim (C : Ctx) (f : FuncId) (args : List AV) (heap : Hp) (pan : Pan) : Outc → Hp → Pan → Prop
  | .ret _, h', p' => LogOK heap h' ∧ ∀ w I μ vargs fm, HR C w I μ heap.bl → Fresh μ heap.bl.length h'.bl.length → VRs C w I μ args vargs → PanR C w I μ .deferred fm pan →
      ∃ w' I' μ' cv fm' fn, Post C w I μ heap.bl w' I' μ' h'.bl ∧ CsR pan p' fm fm' ∧ (callFunc f vargs.toArray).run C.P w = .ok (.enter f vargs.toArray) w ∧
        ∀ cs, Top cs fm → ∃ fr, Steps C.P (lone (Frame.enter C.P f vargs.toArray .deferred) cs w) (lone fr (setTop cs fm') w') ∧ fr.mode = .returning ∧ fr.defers = [] ∧ fr.kind = .deferred ∧ C.P.funcs[fr.fn]? = some fn ∧ (results fn fr.tmps).run C.P w' = .ok cv w'
  | .panic _, _, _ => False

/-- what holds ahead of an operation -/
structure PreO (C : Ctx) (w : World) (I : Nat → Prop) (μ : Mu) (st : St) (b : Frame) (t : Array Value) (d : List Deferred) (fm : Option FrameMode) : Prop where
  hr : HR C w I μ st.heap.bl
  ev : EvR C w I μ st (⟨t, d⟩ : Act).eval
  dr : DR C w I μ st.defers d
  pan : PanR C w I μ b.kind fm st.pan
  rnd : b.roundOf.isSome = st.rnd

def OpRun (C : Ctx) (o : Oper) (st : St) : Res → Prop
  | .val v st' => LogOK st.heap st'.heap ∧ st'.nt = st.nt ∧ st'.rnd = st.rnd ∧ st'.env = st.env ∧ ∀ w I μ b t d fm, PreO C w I μ st b t d fm → Fresh μ st.heap.bl.length st'.heap.bl.length →
      ∃ w' I' μ' cv d' fm', Post C w I μ st.heap.bl w' I' μ' st'.heap.bl ∧ VR C w' I' μ' v cv ∧ DR C w' I' μ' st'.defers d' ∧ CsR st.pan st'.pan fm fm' ∧
        ∀ ops i rest k cs, Top cs fm → ops[i]? = some o → Region.wanted o (yielded ops t) = true → Steps C.P (lone (mk b t (.inRegion ops (i :: rest) :: k) d) cs w) (lone (mk b (putT t o.dst cv) (.inRegion ops rest :: k) d') (setTop cs fm') w')
  | .pan v st' => LogOK st.heap st'.heap ∧ st'.nt = st.nt ∧ st'.rnd = st.rnd ∧ st'.env = st.env ∧ ∀ w I μ b t d fm, PreO C w I μ st b t d fm → Fresh μ st.heap.bl.length st'.heap.bl.length →
      ∃ w' I' μ' cv, Post C w I μ st.heap.bl w' I' μ' st'.heap.bl ∧ VR C w' I' μ' v cv ∧ st'.defers = st.defers ∧ st'.pan = st.pan ∧
        ∀ ops i rest k cs, ops[i]? = some o → Region.wanted o (yielded ops t) = true → Steps C.P (lone (mk b t (.inRegion ops (i :: rest) :: k) d) cs w) (lone { mk b t (.inRegion ops (i :: rest) :: k) d with mode := .panicking [live cv] } cs w')
  | _ => False

section
variable {C : Ctx} {st : St} {o : Oper} {R : Type}

theorem defer_next {P : Program} {ρ : Operand → Value} {c : Call} (ho : o.op = .defer c) {w w' : World} {nx : Next} (h : (execOp ρ o).run P w = .ok nx w') : ∃ d, nx = .defer d := by
  simp only [execOp, ho, Sem.run_bind] at h
  cases hr : (resolve ρ c o.type).run P w with
  | ok d w1 => rw [hr] at h; simp at h; exact ⟨d, h.1.symm⟩
  | halt e w1 => rw [hr] at h; simp [Result.andThen] at h

theorem no_defer {P : Program} {ρ : Operand → Value} {w w' : World} {nx : Next} (h : (execOp ρ o).run P w = .ok nx w') (hn : ∀ d, nx ≠ .defer d) : ∀ c, o.op ≠ .defer c := fun c ho => by
  obtain ⟨d, hd⟩ := defer_next ho h
  exact hn d hd

theorem nextIs_no {nx : Next} {v : Value} (h : NextIs nx v) : ∀ d, nx ≠ .defer d := fun d e => by
  rcases h with h | ⟨h, _⟩ <;> rw [h] at e <;> simp at e

theorem opRun_val {v : AV} {h : Hp} (hs : OpSim C st o (.val v h)) : OpRun C o st (.val v { st with heap := h }) := by
  obtain ⟨l, hs⟩ := hs
  refine ⟨l, rfl, rfl, rfl, fun w I μ b t d fm hp hf => ?_⟩
  obtain ⟨nx, cv, w', I', μ', e1, e2, e3, e4⟩ := hs w I μ _ hp.hr hf hp.ev
  exact ⟨w', I', μ', cv, d, fm, e4, e3, hp.dr.step hp.hr e4 hf, .refl _ _, fun ops i rest k cs ht ho hw => by rw [setTop_self ht]; exact .one (st_op_value ho hw (.inr (no_defer e1 (nextIs_no e2))) e1 e2)⟩

theorem opRun_panic {v : AV} (hs : OpSim C st o (.panic v)) : OpRun C o st (.pan v st) := by
  refine ⟨.refl _, rfl, rfl, rfl, fun w I μ b t d fm hp hf => ?_⟩
  obtain ⟨cv, e1, e2⟩ := hs w I μ _ hp.ev
  refine ⟨w, I, μ, cv, .refl hp.hr, e2, rfl, rfl, fun ops i rest k cs ho hw => .one (st_op_panic ho hw (.inr fun c hc => ?_) e1)⟩
  simp only [execOp, hc, Sem.run_bind] at e1
  cases hr : (resolve (⟨t, d⟩ : Act).eval c o.type).run C.P w with
  | ok x w1 => rw [hr] at e1; simp at e1
  | halt e w1 =>
    unfold resolve at hr
    split at hr
    · simp [Sem.run] at hr
    · simp [Sem.run] at hr
    · unfold Deferred.ofValue at hr
      split at hr
      · simp [Sem.run] at hr
      · simp [Sem.run] at hr
      · rw [show (stuck "call: function value expected" : Sem Deferred) = .halt (.stuck "call: function value expected") from rfl] at hr
        simp only [Sem.run] at hr
        cases hr
        rw [show (resolve (⟨t, d⟩ : Act).eval c o.type).run C.P w = .halt (.stuck "call: function value expected") w from by
          unfold resolve; simp [*, Deferred.ofValue, stuck, Sem.run]] at e1
        simp [Result.andThen] at e1

theorem opRun_defer {f : FuncId} {args : List AV} (hr : st.rnd = false) (hs : OpSim C st o (.defer f args)) : OpRun C o st (.val undefA { st with defers := .call f args :: st.defers }) := by
  refine ⟨.refl _, rfl, rfl, rfl, fun w I μ b t d fm hp hf => ?_⟩
  obtain ⟨x, v1, v2, a1, a2, e1, e2, e3, e4, e5⟩ := hs w I μ _ hp.ev
  subst e2 e3
  have hb : b.roundOf = none := by have := hp.rnd; rw [hr] at this; simpa using this
  exact ⟨w, I, μ, undef, _, fm, .refl hp.hr, .tuple _ _ _ (.nil _), .call f a1 a2 v1 v2 _ _ e4 e5 hp.dr, .refl _ _, fun ops i rest k cs ht ho hw => by rw [setTop_self ht]; exact .one (st_op_defer ho hw hb e1)⟩

theorem opRun_recover (hr : st.rnd = false) (hs : OpSim C st o .recover) : OpRun C o st (match st.pan with
    | .no | .done => .val .nilIface st
    | .live v => .val v { st with pan := .done }) := by
  have hb : ∀ {w I μ b t d fm}, PreO C w I μ st b t d fm → b.roundOf = none := fun hp => by have := hp.rnd; rw [hr] at this; simpa using this
  cases hpan : st.pan with
  | no =>
    refine ⟨.refl _, rfl, rfl, rfl, fun w I μ b t d fm hp hf => ?_⟩
    have h1 := hp.pan
    rw [hpan] at h1
    refine ⟨w, I, μ, .nilIface, d, fm, .refl hp.hr, .nilIface _, hp.dr, .refl _ _, fun ops i rest k cs ht ho hw => .one ?_⟩
    have ht' : tryRecover (mk b t (.inRegion ops (i :: rest) :: k) d) cs = none := by
      rcases h1 with ⟨h2, h3⟩ | ⟨h2, m, h3, h4⟩
      · unfold tryRecover; simp only [mk]
        cases hk : b.kind <;> simp_all
      · obtain ⟨c, r, rfl, rfl⟩ := ht m h3
        unfold tryRecover; simp only [mk, h2]
        cases hm : c.mode <;> first | rfl | exact absurd hm (h4 _)
    rw [st_op_recover ho hw (hb hp) (hs w _), ht', setTop_self ht]
  | done =>
    refine ⟨.refl _, rfl, rfl, rfl, fun w I μ b t d fm hp hf => ?_⟩
    have h1 := hp.pan
    rw [hpan] at h1
    obtain ⟨h2, cv, h3⟩ := h1
    refine ⟨w, I, μ, .nilIface, d, fm, .refl hp.hr, .nilIface _, hp.dr, .refl _ _, fun ops i rest k cs ht ho hw => .one ?_⟩
    have ht' : tryRecover (mk b t (.inRegion ops (i :: rest) :: k) d) cs = none := by
      obtain ⟨c, r, rfl, h4⟩ := ht _ h3
      unfold tryRecover; simp only [mk, h2, h4, done]
    rw [st_op_recover ho hw (hb hp) (hs w _), ht', setTop_self ht]
  | live v =>
    refine ⟨.refl _, rfl, rfl, rfl, fun w I μ b t d fm hp hf => ?_⟩
    have h1 := hp.pan
    rw [hpan] at h1
    obtain ⟨h2, cv, h3, h5⟩ := h1
    refine ⟨w, I, μ, cv, d, some (.panicking [done cv]), .refl hp.hr, h5, hp.dr, .inr ⟨v, cv, hpan, rfl, h3, rfl⟩, fun ops i rest k cs ht ho hw => .one ?_⟩
    obtain ⟨c, r, rfl, h4⟩ := ht _ h3
    have ht' : tryRecover (mk b t (.inRegion ops (i :: rest) :: k) d) (c :: r) = some (cv, { c with mode := .panicking [done cv] } :: r) := by
      unfold tryRecover; simp only [mk, h2, h4, done, live]
    rw [st_op_recover ho hw (hb hp) (hs w _), ht']
    rfl

end
end Go.Ev

/- The evaluator is sound: by induction on its fuel. -/
namespace Go.Ev
open Go

section
variable {C : Ctx} {st : St} {o : Oper} {R : Type}

theorem opRun_call {f : FuncId} {args : List AV} {v : AV} {h : Hp} (hs : OpSim C st o (.call f args)) (hc : CallSim C f args st.heap (.ret v) h) : OpRun C o st (.val v { st with heap := h }) := by
  obtain ⟨l, hc⟩ := hc
  refine ⟨l, rfl, rfl, rfl, fun w I μ b t d fm hp hf => ?_⟩
  obtain ⟨vargs, e1, e2⟩ := hs w I μ _ hp.ev
  obtain ⟨w', I', μ', cv, p, hv, hr⟩ := hc w I μ vargs hp.hr hf e2
  refine ⟨w', I', μ', cv, d, fm, p, hv, hp.dr.step hp.hr p hf, .refl _ _, fun ops i rest k cs ht ho hw => ?_⟩
  rw [setTop_self ht]
  rcases hr with hr | ⟨hr, hcall⟩
  · have hx := e1.trans hr
    exact .one (st_op_value ho hw (.inr (no_defer hx (by simp))) hx (.inl rfl))
  · have hx := e1.trans hr
    obtain ⟨e, w'', fr, ⟨rfl, rfl⟩, hsteps, _, hleave⟩ := hcall (mk b t (.inRegion ops (i :: rest) :: k) d :: cs)
    have hfin := finish_mk b t d ops i rest k cv
    rw [ho] at hfin
    simp only [Option.bind_some] at hfin
    rw [← hfin]
    exact .head (st_op_enter ho hw (.inr (no_defer hx (by simp))) hx) (Steps.trans hsteps (.one (step_leave_returned hleave)))

theorem opRun_callp {f : FuncId} {args : List AV} {v : AV} {h : Hp} (hs : OpSim C st o (.call f args)) (hc : CallSim C f args st.heap (.panic v) h) : OpRun C o st (.pan v { st with heap := h }) := by
  obtain ⟨l, hc⟩ := hc
  refine ⟨l, rfl, rfl, rfl, fun w I μ b t d fm hp hf => ?_⟩
  obtain ⟨vargs, e1, e2⟩ := hs w I μ _ hp.ev
  obtain ⟨w', I', μ', cv, p, hv, hr, hcall⟩ := hc w I μ vargs hp.hr hf e2
  refine ⟨w', I', μ', cv, p, hv, rfl, rfl, fun ops i rest k cs ho hw => ?_⟩
  have hx := e1.trans hr
  obtain ⟨e, w'', fr, ⟨rfl, rfl⟩, hsteps, _, hleave⟩ := hcall (mk b t (.inRegion ops (i :: rest) :: k) d :: cs)
  exact .head (st_op_enter ho hw (.inr (no_defer hx (by simp))) hx) (Steps.trans hsteps (.one (step_leave_panicked hleave)))

theorem yield_no {P : Program} {ρ : Operand → Value} {w w' : World} {l : Nat} {f : FuncId} {tm : Array Value} {ca cb : Code} (h : (execOp ρ o).run P w = .ok (.round l f tm ca cb) w') : ∀ c, o.op ≠ .defer c :=
  no_defer h (by simp)

theorem opRun_yield {bb : Nat} {args : List AV} {v : AV} {h : Hp} (hs : OpSim C st o (.yield bb args)) (hc : RoundSim C bb args st.heap (.ret v) h) : OpRun C o st (.val v { st with heap := h }) := by
  obtain ⟨l, hc⟩ := hc
  refine ⟨l, rfl, rfl, rfl, fun w I μ b t d fm hp hf => ?_⟩
  obtain ⟨L, vargs, e0, e1, e2⟩ := hs w I μ _ hp.ev
  obtain ⟨w', I', μ', cv, f, tm, ca, cb, p, hv, hr, hsteps⟩ := hc w I μ L vargs hp.hr hf e0 e2
  refine ⟨w', I', μ', cv, d, fm, p, hv, hp.dr.step hp.hr p hf, .refl _ _, fun ops i rest k cs ht ho hw => ?_⟩
  rw [setTop_self ht]
  have hx := e1.trans hr
  have hfin := finish_mk b t d ops i rest k cv
  rw [ho] at hfin
  simp only [Option.bind_some] at hfin
  rw [← hfin]
  exact .head (st_op_round ho hw (.inr (yield_no hx)) hx) (hsteps _ _)

theorem opRun_yieldp {bb : Nat} {args : List AV} {v : AV} {h : Hp} (hs : OpSim C st o (.yield bb args)) (hc : RoundSim C bb args st.heap (.panic v) h) : OpRun C o st (.pan v { st with heap := h }) := by
  obtain ⟨l, hc⟩ := hc
  refine ⟨l, rfl, rfl, rfl, fun w I μ b t d fm hp hf => ?_⟩
  obtain ⟨L, vargs, e0, e1, e2⟩ := hs w I μ _ hp.ev
  obtain ⟨w', I', μ', cv, f, tm, ca, cb, p, hv, hr, hsteps⟩ := hc w I μ L vargs hp.hr hf e0 e2
  refine ⟨w', I', μ', cv, p, hv, rfl, rfl, fun ops i rest k cs ho hw => ?_⟩
  have hx := e1.trans hr
  exact .head (st_op_round ho hw (.inr (yield_no hx)) hx) (hsteps _ _)

/- ## a region in the order of its text -/

theorem er_ev {w : World} {I : Nat → Prop} {μ : Mu} {t : Array Value} (d : List Deferred) (h : ER C w I μ st.env t) : EvR C w I μ st (⟨t, d⟩ : Act).eval := fun x a hx => by
  cases x with
  | tmp i =>
    obtain ⟨v, h1, h2⟩ := h i a hx
    simp only [Act.eval, Array.getD_eq_getD_getElem?, h1, Option.getD_some]
    exact h2
  | const v => exact ofV_rel hx
  | global g => cases hx; exact .gptr _ _ _
  | func f => cases hx; exact VR.func (C := C) (w := w) (I := I) μ f [] [] [] [] (.nil _) (.nil _)

theorem Pre.toO {w : World} {I : Nat → Prop} {μ : Mu} {b : Frame} {t : Array Value} {d : List Deferred} {fm : Option FrameMode} (h : Pre C w I μ st b t d fm) : PreO C w I μ st b t d fm :=
  ⟨h.hr, er_ev d h.er, h.dr, h.pan, h.rnd⟩

noncomputable def putE (env : Tr) (dst : Option Tmp) (v : AV) : Tr := match dst with
  | some d => env.set d v
  | none => env

theorem er_put {w : World} {I : Nat → Prop} {μ : Mu} {env : Tr} {t : Array Value} {dst : Option Tmp} {v : AV} {cv : Value} (h : ER C w I μ env t) (hv : VR C w I μ v cv) (hd : ∀ x, dst = some x → x < t.size) :
    ER C w I μ (putE env dst v) (putT t dst cv) := by
  cases dst with
  | none => exact h
  | some x =>
    intro i a hi
    simp only [putE] at hi
    rw [Tr.get_set] at hi
    simp only [putT]
    split at hi
    · rename_i e
      cases hi
      subst e
      exact ⟨cv, by rw [Array.getElem?_setIfInBounds_self_of_lt (hd x rfl)], hv⟩
    · rename_i e
      obtain ⟨u, h1, h2⟩ := h i a hi
      exact ⟨u, by rw [Array.getElem?_setIfInBounds_ne e]; exact h1, h2⟩

theorem putT_size (t : Array Value) (dst : Option Tmp) (v : Value) : (putT t dst v).size = t.size := by cases dst <;> simp [putT]

theorem put_eq (st : St) (dst : Option Tmp) (v : AV) : (st.put dst v).env = putE st.env dst v ∧ (st.put dst v).heap = st.heap ∧ (st.put dst v).nt = st.nt ∧ (st.put dst v).defers = st.defers ∧ (st.put dst v).pan = st.pan ∧ (st.put dst v).rnd = st.rnd := by
  cases dst <;> exact ⟨rfl, rfl, rfl, rfl, rfl, rfl⟩

/-- which branch a guard takes -/
theorem wantedA_spec {all : Array Oper} {yes no : Unit → Option R} {r : R} (h : wantedA all st o yes no = some r) :
    (yes () = some r ∧ ∀ w I μ t, ER C w I μ st.env t → Region.wanted o (yielded all t) = true) ∨ (no () = some r ∧ ∀ w I μ t, ER C w I μ st.env t → Region.wanted o (yielded all t) = false) := by
  unfold wantedA at h
  split at h
  · rename_i hg
    exact .inl ⟨h, fun w I μ t _ => by simp [Region.wanted, hg]⟩
  · rename_i j want hg
    split at h
    · rename_i hd
      exact .inr ⟨h, fun w I μ t _ => by simp [Region.wanted, hg, yielded, hd]⟩
    · rename_i d hd
      split at h
      · rename_i b hb
        have key : ∀ w I μ t, ER C w I μ st.env t → Region.wanted o (yielded all t) = (b == want) := fun w I μ t he => by
          obtain ⟨v, h1, h2⟩ := he d _ hb
          cases h2
          simp only [Region.wanted, hg, yielded, hd, Option.bind_some, h1]
          cases b <;> cases want <;> rfl
        cases want <;> cases b
        · exact .inl ⟨h, fun w I μ t he => by rw [key w I μ t he]; rfl⟩
        · exact .inr ⟨h, fun w I μ t he => by rw [key w I μ t he]; rfl⟩
        · exact .inr ⟨h, fun w I μ t he => by rw [key w I μ t he]; rfl⟩
        · exact .inl ⟨h, fun w I μ t he => by rw [key w I μ t he]; rfl⟩
      · rename_i a hn hb
        refine .inr ⟨h, fun w I μ t he => ?_⟩
        obtain ⟨v, h1, h2⟩ := he d _ hb
        simp only [Region.wanted, hg, yielded, hd, Option.bind_some, h1]
        cases h2 <;> first
          | rfl
          | exact absurd rfl (hn _)
      · simp at h

theorem drop_cons {α : Type} {l : List α} {j : Nat} {x : α} {xs : List α} (h : x :: xs = l.drop j) : l[j]? = some x ∧ xs = l.drop (j + 1) ∧ j < l.length := by
  have h1 : (l.drop j)[0]? = some x := by rw [← h]; rfl
  rw [List.getElem?_drop] at h1
  refine ⟨by simpa using h1, ?_, (List.getElem?_eq_some_iff.1 h1).1⟩
  rw [← List.tail_drop, ← h]; rfl

theorem range_cons {n j : Nat} (h : j < n) : List.range' j (n - j) = j :: List.range' (j + 1) (n - (j + 1)) := by
  rw [show n - j = (n - (j + 1)) + 1 by omega, List.range'_succ]

/-- one operation, then the rest -/
theorem ops_val {all : Array Oper} {j : Nat} {v : AV} {st1 st2 : St} {e : Ex} (ho : all[j]? = some o) (hj : j < all.size) (hdst : ∀ x, o.dst = some x → x < st.nt)
    (hw : ∀ w I μ t, ER C w I μ st.env t → Region.wanted o (yielded all t) = true) (h : OpRun C o st (.val v st1)) (k : ExSim C [.inRegion all (List.range' (j + 1) (all.size - (j + 1)))] (st1.put o.dst v) e st2) :
    ExSim C [.inRegion all (List.range' j (all.size - j))] st e st2 := by
  obtain ⟨l1, n1, r1, v1, h⟩ := h
  obtain ⟨l2, n2, r2, k⟩ := k
  obtain ⟨q1, q2, q3, q4, q5, q6⟩ := put_eq st1 o.dst v
  rw [q2] at l2; rw [q3] at n2; rw [q6] at r2
  refine ⟨l1.trans l2, by rw [n2, n1], by rw [r2, r1], fun w I μ b t d fm hp hf => ?_⟩
  have hf1 := hf.left l2.len
  obtain ⟨w1, I1, μ1, cv, d1, c1, p1, hv, dd1, cc1, s1⟩ := h w I μ b t d fm hp.toO hf1
  have her : ER C w1 I1 μ1 (st1.put o.dst v).env (putT t o.dst cv) := by
    rw [q1, v1]
    exact er_put (hp.er.step hp.hr p1 hf1) hv (fun x hx => Nat.lt_of_lt_of_le (hdst x hx) hp.size)
  have hp1 : Pre C w1 I1 μ1 (st1.put o.dst v) b (putT t o.dst cv) d1 c1 :=
    ⟨by rw [q2]; exact p1.hr, her, by rw [putT_size, q3, n1]; exact hp.size, by rw [q4]; exact dd1, by rw [q5]; exact hp.pan.step hp.hr p1 hf1 cc1, by rw [q6, r1]; exact hp.rnd⟩
  obtain ⟨w2, I2, μ2, t2, d2, c2, u2, p2, e2, s2, dd2, cc2, hv2, a2⟩ := k w1 I1 μ1 b _ d1 c1 hp1 (by rw [q2]; exact p1.fresh hf)
  rw [q2] at p2
  rw [q5] at cc2
  refine ⟨w2, I2, μ2, t2, d2, c2, u2, p1.trans p2, e2, by rw [q3, n1] at s2; exact s2, dd2, cc1.trans cc2, hv2, fun kk cs ht => ?_⟩
  rw [range_cons hj]
  have h2 := a2 kk (setTop cs c1) (cc1.top ht)
  rw [cc1.set cc2 ht] at h2
  exact .of_steps (s1 all j _ kk cs ht ho (hw w I μ t hp.er)) h2

theorem ops_pan {all : Array Oper} {j : Nat} {v : AV} {st1 : St} (ho : all[j]? = some o) (hj : j < all.size)
    (hw : ∀ w I μ t, ER C w I μ st.env t → Region.wanted o (yielded all t) = true) (h : OpRun C o st (.pan v st1)) :
    ExSim C [.inRegion all (List.range' j (all.size - j))] st (.panic v) st1 := by
  obtain ⟨l1, n1, r1, v1, h⟩ := h
  refine ⟨l1, n1, r1, fun w I μ b t d fm hp hf => ?_⟩
  obtain ⟨w1, I1, μ1, cv, p1, hv, hd, hpan, s1⟩ := h w I μ b t d fm hp.toO hf
  refine ⟨w1, I1, μ1, t, d, fm, cv, p1, by rw [v1]; exact hp.er.step hp.hr p1 hf, hp.size, by rw [hd]; exact hp.dr.step hp.hr p1 hf, .inl ⟨rfl, hpan⟩, fun v' he => by cases he; exact hv, fun kk cs ht => ?_⟩
  rw [range_cons hj, setTop_self ht]
  exact ⟨_, fun _ _ _ _ _ e => by simp at e, s1 all j _ kk cs ho (hw w I μ t hp.er)⟩

theorem ops_skip {all : Array Oper} {j : Nat} {st2 : St} {e : Ex} (ho : all[j]? = some o) (hj : j < all.size) (hdst : ∀ x, o.dst = some x → x < st.nt)
    (hw : ∀ w I μ t, ER C w I μ st.env t → Region.wanted o (yielded all t) = false) (k : ExSim C [.inRegion all (List.range' (j + 1) (all.size - (j + 1)))] (st.put o.dst undefA) e st2) :
    ExSim C [.inRegion all (List.range' j (all.size - j))] st e st2 := by
  obtain ⟨l2, n2, r2, k⟩ := k
  obtain ⟨q1, q2, q3, q4, q5, q6⟩ := put_eq st o.dst undefA
  rw [q2] at l2; rw [q3] at n2; rw [q6] at r2
  refine ⟨l2, n2, r2, fun w I μ b t d fm hp hf => ?_⟩
  have her : ER C w I μ (st.put o.dst undefA).env (putT t o.dst undef) := by
    rw [q1]; exact er_put hp.er (show VR C w I μ undefA undef from .tuple _ _ _ (.nil _)) (fun x hx => Nat.lt_of_lt_of_le (hdst x hx) hp.size)
  have hp1 : Pre C w I μ (st.put o.dst undefA) b (putT t o.dst undef) d fm :=
    ⟨by rw [q2]; exact hp.hr, her, by rw [putT_size, q3]; exact hp.size, by rw [q4]; exact hp.dr, by rw [q5]; exact hp.pan, by rw [q6]; exact hp.rnd⟩
  obtain ⟨w2, I2, μ2, t2, d2, c2, u2, p2, e2, s2, dd2, cc2, hv2, a2⟩ := k w I μ b _ d fm hp1 (by rw [q2]; exact hf)
  rw [q2] at p2
  rw [q5] at cc2
  refine ⟨w2, I2, μ2, t2, d2, c2, u2, p2, e2, by rw [q3] at s2; exact s2, dd2, cc2, hv2, fun kk cs ht => ?_⟩
  rw [range_cons hj]
  have hs := st_op_skip (P := C.P) (b := b) (t := t) (d := d) (k := kk) (cs := cs) (w := w) (ops := all) (i := j) (rest := List.range' (j + 1) (all.size - (j + 1))) (by rw [ho]; simp [hw w I μ t hp.er])
  rw [ho] at hs
  exact .of_steps (.one hs) (a2 kk cs ht)

/- ## the theorem -/

/-- what is asked of the program and of what the evaluator is told -/
structure CtxOK (C : Ctx) : Prop where
  noCount : ∀ (f : FuncId) (fn : Func), C.fn f = some fn → fn.body.isSome = true → fn.name ≠ "runtime.NumGoroutine"
  code : ∀ (f : FuncId) (fn : Func) (b : Code), C.fn f = some fn → fn.body = some b → codeOk fn.ntmps b = true
  mixed : C.P.follows .mixedOrders = true
  ov : ∀ f g, C.ov f = some g → ∀ args o, g args = some (true, o) → AV.hasAddr.go args = false → CallSim C f args ⟨[], []⟩ o.ev ⟨[], []⟩
  ovh : ∀ f g, C.ovh f = some g → ∀ args heap o h', g args heap = some (true, o, h') → CallSim C f args heap o.ev h'
  ext : ∀ f g, C.ext f = some g → ∀ args v, g args = some v → ∀ w I μ vargs, VRs C w I μ args vargs → ∃ cv, (callFunc f vargs.toArray).run C.P w = .ok (.value cv) w ∧ VR C w I μ v cv

/-- what a task's answer says of the machine -/
def Sim (C : Ctx) (task : Task) (res : Res) : Prop :=
  match task with
  | .code c st => (match res with | .ex e st' => codeOk st.nt c = true → ExSim C [.code c] st e st' | _ => False)
  | .ops all rest st => (match res with
    | .ex e st' => dstOk st.nt all = true → ∀ j, rest = all.toList.drop j → j ≤ all.size → ExSim C [.inRegion all (List.range' j (all.size - j))] st e st'
    | _ => False)
  | .op o st => OpRun C o st res
  | .opl o st => OpRun C o st res ∧ (match res with | .val _ st' => st' = { st with heap := st'.heap } | .pan _ st' => st' = { st with heap := st'.heap } | _ => False)
  | .call f args heap => (match res with | .out o h _ => CallSim C f args heap o h | _ => False)
  | .round b args heap => (match res with | .out o h _ => RoundSim C b args heap o h | _ => False)
  | .draw _ _ _ _ _ _ _ _ => True
  | .dcall f args heap pan => (match res with | .out o h p => DcallSim C f args heap pan o h p | _ => False)
  | .leave fn st m => (match res with | .out o h _ => LeaveSim C fn st m o h | _ => False)

def SoundAt (C : Ctx) (n : Nat) : Prop := ∀ (task : Task) (R : Type) (k : Res → Option R) (r : R), run C n task k = some r → ∃ res, Sim C task res ∧ k res = some r

theorem sound_op {n : Nat} (ih : SoundAt C n) {k : Res → Option R} {r : R} (h : run C (n + 1) (.op o st) k = some r) : ∃ res, OpRun C o st res ∧ k res = some r := by
  rw [run_succ] at h; simp only [runS] at h
  obtain ⟨or, hs, h⟩ := opA_sim h
  cases or with
  | val v H => exact ⟨_, opRun_val hs, h⟩
  | call f args =>
    obtain ⟨res, h1, h2⟩ := ih _ _ _ _ h
    cases res with
    | out oc H p =>
      cases oc with
      | ret v => exact ⟨_, opRun_call hs h1, h2⟩
      | panic v => exact ⟨_, opRun_callp hs h1, h2⟩
    | _ => exact h1.elim
  | yield b args =>
    obtain ⟨res, h1, h2⟩ := ih _ _ _ _ h
    cases res with
    | out oc H p =>
      cases oc with
      | ret v => exact ⟨_, opRun_yield hs h1, h2⟩
      | panic v => exact ⟨_, opRun_yieldp hs h1, h2⟩
    | _ => exact h1.elim
  | defer f args =>
    dsimp only at h
    cases hr : st.rnd with
    | true => rw [hr] at h; simp at h
    | false =>
      rw [hr] at h
      refine ⟨_, opRun_defer hr hs, ?_⟩
      rw [hr]; exact h
  | recover =>
    dsimp only at h
    cases hr : st.rnd with
    | true => rw [hr] at h; simp at h
    | false =>
      rw [hr] at h
      refine ⟨_, opRun_recover hr hs, ?_⟩
      simp only [cond_false] at h
      have hst : st = { env := st.env, nt := st.nt, heap := st.heap, defers := st.defers, pan := st.pan, rnd := st.rnd } := rfl
      split at h <;> rename_i hp <;> simp only [hp] <;> (try rw [hr]) <;> exact h
  | panic v => exact ⟨_, opRun_panic hs, h⟩

theorem sound_opl {n : Nat} (ih : SoundAt C n) {k : Res → Option R} {r : R} (h : run C (n + 1) (.opl o st) k = some r) : ∃ res, Sim C (.opl o st) res ∧ k res = some r := by
  rw [run_succ] at h; simp only [runS] at h
  obtain ⟨or, hs, h⟩ := opA_sim h
  cases or with
  | val v H => exact ⟨_, ⟨opRun_val hs, rfl⟩, h⟩
  | call f args =>
    obtain ⟨res, h1, h2⟩ := ih _ _ _ _ h
    cases res with
    | out oc H p =>
      cases oc with
      | ret v => exact ⟨_, ⟨opRun_call hs h1, rfl⟩, h2⟩
      | panic v => exact ⟨_, ⟨opRun_callp hs h1, rfl⟩, h2⟩
    | _ => exact h1.elim
  | yield b args =>
    obtain ⟨res, h1, h2⟩ := ih _ _ _ _ h
    cases res with
    | out oc H p =>
      cases oc with
      | ret v => exact ⟨_, ⟨opRun_yield hs h1, rfl⟩, h2⟩
      | panic v => exact ⟨_, ⟨opRun_yieldp hs h1, rfl⟩, h2⟩
    | _ => exact h1.elim
  | defer f args => simp [fail] at h
  | recover => simp [fail] at h
  | panic v => exact ⟨_, ⟨opRun_panic hs, rfl⟩, h⟩

theorem sound_ops {n : Nat} (ih : SoundAt C n) {all : Array Oper} {rest : List Oper} {k : Res → Option R} {r : R} (h : run C (n + 1) (.ops all rest st) k = some r) : ∃ res, Sim C (.ops all rest st) res ∧ k res = some r := by
  cases rest with
  | nil =>
    rw [run_succ] at h; simp only [runS] at h
    refine ⟨_, ?_, h⟩
    intro hd j hj hle
    have hj' : all.size ≤ j := by
      have := congrArg List.length hj
      simp at this; omega
    have : all.size - j = 0 := by omega
    rw [this]
    exact (ExSim.nil st).pre fun _ _ _ _ _ _ _ _ _ _ => .one st_region_end
  | cons o rest =>
    rw [run_succ] at h; simp only [runS] at h
    have dst : dstOk st.nt all = true → ∀ j, (o :: rest) = all.toList.drop j → all[j]? = some o ∧ rest = all.toList.drop (j + 1) ∧ j < all.size ∧ ∀ x, o.dst = some x → x < st.nt := fun hd j hj => by
      obtain ⟨h1, h2, h3⟩ := drop_cons hj
      have h1' : all[j]? = some o := by simpa using h1
      refine ⟨h1', h2, by simpa using h3, fun x hx => ?_⟩
      unfold dstOk at hd
      rw [Array.all_eq_true] at hd
      have hjl : j < all.size := by simpa using h3
      have := hd j hjl
      have he : all[j] = o := by rw [Array.getElem?_eq_getElem hjl] at h1'; exact Option.some.inj h1'
      rw [he, hx] at this
      simpa using this
    rcases wantedA_spec h with ⟨h, hw⟩ | ⟨h, hw⟩
    · obtain ⟨res, h1, h2⟩ := ih _ _ _ _ h
      cases res with
      | val v st1 =>
        obtain ⟨res2, h3, h4⟩ := ih _ _ _ _ h2
        cases res2 with
        | ex e st2 =>
          refine ⟨_, ?_, h4⟩
          intro hd j hj hle
          obtain ⟨q1, q2, q3, q4⟩ := dst hd j hj
          have hn : (st1.put o.dst v).nt = st.nt := by rw [(put_eq st1 o.dst v).2.2.1]; exact h1.2.1
          exact ops_val q1 q3 q4 hw h1 (h3 (by rw [hn]; exact hd) (j + 1) q2 (by omega))
        | _ => exact h3.elim
      | pan v st1 =>
        refine ⟨_, ?_, h2⟩
        intro hd j hj hle
        obtain ⟨q1, q2, q3, q4⟩ := dst hd j hj
        exact ops_pan q1 q3 hw h1
      | _ => exact h1.elim
    · obtain ⟨res2, h3, h4⟩ := ih _ _ _ _ h
      cases res2 with
      | ex e st2 =>
        refine ⟨_, ?_, h4⟩
        intro hd j hj hle
        obtain ⟨q1, q2, q3, q4⟩ := dst hd j hj
        have hn : (st.put o.dst undefA).nt = st.nt := (put_eq st o.dst undefA).2.2.1
        exact ops_skip q1 q3 q4 hw (h3 (by rw [hn]; exact hd) (j + 1) q2 (by omega))
      | _ => exact h3.elim


theorem ExSim.nt {items : List Item} {st : St} {e : Ex} {st' : St} (h : ExSim C items st e st') : st'.nt = st.nt := h.2.1

theorem sound_code {n : Nat} (ih : SoundAt C n) (hdraw : ∀ {ops : Array Oper} {st : St} {R : Type} {k : Res → Option R} {r : R} {id : Nat}, run C n (.draw ops (Region.before ops) 0 ops.toList st [] 0 none) k = some r →
      ∃ e st', (dstOk st.nt ops = true → regionOk ops (Region.before ops) = true → ExSim C [.code (.region id ops true)] st e st') ∧ k (.ex e st') = some r)
    (hrange : ∀ {f : Operand} {params : Array Tmp} {assign body : Code} {st : St} {R : Type} {k : Res → Option R} {r : R}, run C (n + 1) (.code (.rangeFunc f params assign body) st) k = some r → ∃ e st', ExSim C [.code (.rangeFunc f params assign body)] st e st' ∧ k (.ex e st') = some r)
    {c : Code} {st : St} {k : Res → Option R} {r : R} (h : run C (n + 1) (.code c st) k = some r) : ∃ e st', (codeOk st.nt c = true → ExSim C [.code c] st e st') ∧ k (.ex e st') = some r := by
  have sub : ∀ {c : Code} {st : St} {R : Type} {k : Res → Option R} {r : R}, run C n (.code c st) k = some r → ∃ e st', (codeOk st.nt c = true → ExSim C [.code c] st e st') ∧ k (.ex e st') = some r := fun {c st R k r} h => by
    obtain ⟨res, h1, h2⟩ := ih _ _ _ _ h
    cases res with
    | ex e st' => exact ⟨e, st', h1, h2⟩
    | _ => exact h1.elim
  cases c with
  | skip => rw [run_succ] at h; simp only [runS] at h; exact ⟨_, _, fun _ => .skip st, h⟩
  | label l => rw [run_succ] at h; simp only [runS] at h; exact ⟨_, _, fun _ => .label st l, h⟩
  | seq a b =>
    rw [run_succ] at h; simp only [runS] at h
    have hand : codeOk st.nt (.seq a b) = true → codeOk st.nt a = true ∧ codeOk st.nt b = true := fun hc => by simpa [codeOk] using hc
    obtain ⟨e, st1, h1, h2⟩ := sub h
    cases e with
    | normal =>
      obtain ⟨e2, st2, h3, h4⟩ := sub h2
      exact ⟨e2, st2, fun hc => .seq_n (h1 (hand hc).1) (h3 (by rw [(h1 (hand hc).1).nt]; exact (hand hc).2)), h4⟩
    | exit id => exact ⟨_, _, fun hc => .seq_a (h1 (hand hc).1) (by simp), h2⟩
    | ret => exact ⟨_, _, fun hc => .seq_a (h1 (hand hc).1) (by simp), h2⟩
    | panic v => exact ⟨_, _, fun hc => .seq_a (h1 (hand hc).1) (by simp), h2⟩
  | cond cc a b =>
    rw [run_succ] at h; simp only [runS] at h
    have hand : codeOk st.nt (.cond cc a b) = true → codeOk st.nt a = true ∧ codeOk st.nt b = true := fun hc => by simpa [codeOk] using hc
    split at h
    · rename_i t hc
      cases t with
      | true =>
        obtain ⟨e, st1, h1, h2⟩ := sub h
        exact ⟨e, st1, fun hk => .cond hc (fun w I μ t d he => er_ev d he) (h1 (hand hk).1), h2⟩
      | false =>
        obtain ⟨e, st1, h1, h2⟩ := sub h
        exact ⟨e, st1, fun hk => .cond hc (fun w I μ t d he => er_ev d he) (h1 (hand hk).2), h2⟩
    · simp [fail] at h
  | block id b =>
    rw [run_succ] at h; simp only [runS] at h
    obtain ⟨e, st1, h1, h2⟩ := sub h
    cases e with
    | normal => exact ⟨_, _, fun hc => .block_n (h1 hc), h2⟩
    | exit id' =>
      dsimp only at h2
      cases hb : (id' == id) with
      | true =>
        rw [hb] at h2
        have : id' = id := by simpa using hb
        subst this
        exact ⟨_, _, fun hc => .block_here (h1 hc), h2⟩
      | false =>
        rw [hb] at h2
        have hne : id' ≠ id := by simpa using hb
        exact ⟨_, _, fun hc => .block_a (h1 hc) (by simp) (fun i hi => by cases hi; exact hne), h2⟩
    | ret => exact ⟨_, _, fun hc => .block_a (h1 hc) (by simp) (fun i hi => by cases hi), h2⟩
    | panic v => exact ⟨_, _, fun hc => .block_a (h1 hc) (by simp) (fun i hi => by cases hi), h2⟩
  | loop b =>
    rw [run_succ] at h; simp only [runS] at h
    obtain ⟨e, st1, h1, h2⟩ := sub h
    cases e with
    | normal =>
      obtain ⟨e2, st2, h3, h4⟩ := sub h2
      exact ⟨e2, st2, fun hc => .loop_n (h1 hc) (h3 (by rw [(h1 hc).nt]; exact hc)), h4⟩
    | exit id => exact ⟨_, _, fun hc => .loop_a (h1 hc) (by simp), h2⟩
    | ret => exact ⟨_, _, fun hc => .loop_a (h1 hc) (by simp), h2⟩
    | panic v => exact ⟨_, _, fun hc => .loop_a (h1 hc) (by simp), h2⟩
  | scope b =>
    rw [run_succ] at h; simp only [runS] at h
    obtain ⟨e, st1, h1, h2⟩ := sub h
    cases e with
    | normal => exact ⟨_, _, fun hc => .scope_n (h1 hc), h2⟩
    | exit id => exact ⟨_, _, fun hc => .scope_a (h1 hc) (by simp), h2⟩
    | ret => exact ⟨_, _, fun hc => .scope_a (h1 hc) (by simp), h2⟩
    | panic v => exact ⟨_, _, fun hc => .scope_a (h1 hc) (by simp), h2⟩
  | exit id => rw [run_succ] at h; simp only [runS] at h; exact ⟨_, _, fun _ => .exit st id, h⟩
  | ret => rw [run_succ] at h; simp only [runS] at h; exact ⟨_, _, fun _ => .ret st, h⟩
  | region id ops draw =>
    rw [run_succ] at h; simp only [runS] at h
    have hand : codeOk st.nt (.region id ops draw) = true → dstOk st.nt ops = true ∧ (draw = true → regionOk ops (Region.before ops) = true) := fun hc => by
      simp only [codeOk, Bool.and_eq_true, Bool.or_eq_true, Bool.not_eq_true'] at hc
      exact ⟨hc.1, fun hd => by rcases hc.2 with h | h
                                · rw [hd] at h; simp at h
                                · exact h⟩
    cases draw with
    | true =>
      simp only [cond_true] at h
      obtain ⟨e, st', h1, h2⟩ := hdraw (id := id) h
      exact ⟨e, st', fun hc => h1 (hand hc).1 ((hand hc).2 rfl), h2⟩
    | false =>
      simp only [cond_false] at h
      obtain ⟨res, h1, h2⟩ := ih _ _ _ _ h
      cases res with
      | ex e st' =>
        refine ⟨e, st', fun hc => ?_, h2⟩
        have h3 := h1 (hand hc).1 0 (by simp) (Nat.zero_le _)
        refine h3.pre fun _ _ _ _ _ _ _ kk _ _ => .one ?_
        rw [Nat.sub_zero, ← List.range_eq_range']
        exact st_region
      | _ => exact h1.elim
  | rangeFunc f params assign body =>
    obtain ⟨e, st', h1, h2⟩ := hrange h
    exact ⟨e, st', fun _ => h1, h2⟩
  | goto l => rw [run_succ] at h; simp only [runS] at h; simp [fail] at h
  | refuse s => rw [run_succ] at h; simp only [runS] at h; simp [fail] at h

end
end Go.Ev

/- A call that gets no addresses is run on empty memory; its memory is laid behind the caller's. -/
namespace Go.Ev
open Go

section
variable {C : Ctx} {w w' : World} {I I' : Nat → Prop} {μ μ' : Mu} {H H' : List Blk}

theorem HR.empty (h : HR C w I μ H) : HR C w I mu0 [] :=
  ⟨fun b x hb => by simp at hb, fun b b' x x' L L' hb => by simp at hb, fun b x L hb => by simp at hb, fun b x L hb => by simp at hb, h.lt, h.glob⟩

/-- the numbers of the callee's blocks come behind the caller's -/
def Mu.join (μ : Mu) (n : Nat) (μ' : Mu) (m : Nat) : Mu := fun b => if b < n then μ b else if b < n + m then μ' (b - n) else μ b

theorem shiftB_live {n : Nat} {x : Blk} (h : (shiftB n x).live = true) : (∃ e cs t, x = .cells e cs t false ∧ shiftB n x = .cells e (cs.map (Option.map (AV.shift n))) t false) ∨ ∃ es, x = .map es ∧ shiftB n x = .map (es.map fun (a, b) => (a.shift n, b.shift n)) := by
  cases x with
  | cells e cs t f =>
    cases f with
    | true => simp [shiftB, Blk.live] at h
    | false => exact .inl ⟨e, cs, t, rfl, rfl⟩
  | map es => exact .inr ⟨es, rfl, rfl⟩
  | _ => simp [shiftB, Blk.live] at h

theorem go_map (n : Nat) (l : List AV) : AV.shift.go n l = l.map (AV.shift n) := by
  induction l with
  | nil => rfl
  | cons x l ih => simp [AV.shift.go, ih]

theorem BR.shift {n : Nat} {μ2 : Mu} (hμ : ∀ b L, μ' b = some L → μ2 (b + n) = some L) {L : Loc} {x : Blk} (h : BR C w I μ' L x) (hl : (shiftB n x).live = true) : BR C w I μ2 L (shiftB n x) := by
  rcases shiftB_live hl with ⟨e, cs, t, rfl, hx⟩ | ⟨es, rfl, hx⟩
  · rw [hx]
    obtain ⟨c, fr, h1, h2, h3, h4, h5, h6⟩ := h
    refine ⟨c, fr, h1, h2, h3, by simpa using h4, fun i a hi => ?_, h6⟩
    rw [List.getElem?_map] at hi
    cases hc : cs[i]? with
    | none => rw [hc] at hi; simp at hi
    | some y =>
      cases y with
      | none => rw [hc] at hi; simp at hi
      | some y =>
        rw [hc] at hi
        simp at hi
        subst hi
        obtain ⟨q1, v, q2, q3⟩ := h5 i y hc
        refine ⟨?_, v, q2, q3.shift hμ⟩
        cases y <;> first | rfl | simp [AV.oneCell] at q1
  · rw [hx]
    obtain ⟨en, clk, h1, h2, h3⟩ := h
    refine ⟨en, clk, h1, ?_, ?_⟩
    · have := h2.shift hμ
      rw [go_map, List.map_map] at this
      rw [List.map_map]; exact this
    · have := h3.shift hμ
      rw [go_map, List.map_map] at this
      rw [List.map_map]; exact this

theorem own_empty {cb : Nat} (h : Own mu0 [] cb) : False := by obtain ⟨b, x, L, hb, _⟩ := h; simp at hb

/-- the callee's memory behind the caller's -/
theorem post_shift (h : HR C w I μ H) (hf : Fresh μ H.length (H.length + H'.length)) (p : Post C w I mu0 [] w' I' μ' H') : Post C w I μ H w' I' (μ.join H.length μ' H'.length) (H ++ H'.map (shiftB H.length)) := by
  have hold : ∀ cb, cb < w.heap.size → w'.heap[cb]? = w.heap[cb]? := fun cb hc => p.keep.blk cb hc fun ho => own_empty ho
  have hμ : ∀ b L, μ' b = some L → (μ.join H.length μ' H'.length) (b + H.length) = some L := fun b L hb => by
    have hlt : b < H'.length := by
      rcases Nat.lt_or_ge b H'.length with h1 | h1
      · exact h1
      · have := p.mu b (.inr h1)
        rw [hb] at this
        simp [mu0] at this
    simp only [Mu.join]
    rw [if_neg (by omega), if_pos (by omega), show b + H.length - H.length = b by omega]
    exact hb
  have hlo : ∀ b, b < H.length → (μ.join H.length μ' H'.length) b = μ b := fun b hb => by simp [Mu.join, hb]
  have hhi : ∀ b, H.length ≤ b → b < H.length + H'.length → (μ.join H.length μ' H'.length) b = μ' (b - H.length) := fun b h1 h2 => by
    simp only [Mu.join]; rw [if_neg (by omega), if_pos h2]
  have hat : ∀ b x, (H ++ H'.map (shiftB H.length))[b]? = some x → (b < H.length ∧ H[b]? = some x) ∨ (H.length ≤ b ∧ b < H.length + H'.length ∧ ∃ y, H'[b - H.length]? = some y ∧ x = shiftB H.length y) := fun b x hb => by
    rcases Nat.lt_or_ge b H.length with h1 | h1
    · rw [List.getElem?_append_left h1] at hb; exact .inl ⟨h1, hb⟩
    · rw [List.getElem?_append_right h1, List.getElem?_map] at hb
      cases hy : H'[b - H.length]? with
      | none => rw [hy] at hb; simp at hb
      | some y =>
        rw [hy] at hb
        have hl := (List.getElem?_eq_some_iff.1 hy).1
        exact .inr ⟨h1, by omega, y, rfl, by simpa using hb.symm⟩
  have hnew : ∀ b y L, H'[b]? = some y → (shiftB H.length y).live = true → μ' b = some L → y.mut = true ∧ w.heap.size ≤ L.cb := fun b y L hb hl hL => by
    have hm : y.mut = true := by rcases shiftB_live hl with ⟨e, cs, t, rfl, _⟩ | ⟨es, rfl, _⟩ <;> rfl
    rcases p.own L.cb ⟨b, y, L, hb, hm, hL, rfl⟩ with ho | ho
    · exact (own_empty ho).elim
    · exact ⟨hm, ho⟩
  have hold2 : ∀ b x L, H[b]? = some x → x.live = true → μ b = some L → L.cb < w.heap.size := fun b x L hb hl hL => by
    obtain ⟨L', h1, h2⟩ := h.blk b x hb hl
    rw [hL] at h1; cases h1
    exact h2.lt hl
  have hgrow : ∀ b L, μ b = some L → (μ.join H.length μ' H'.length) b = some L := fun b L hL => by
    simp only [Mu.join]
    by_cases h1 : b < H.length
    · rw [if_pos h1]; exact hL
    · rw [if_neg h1]
      by_cases h2 : b < H.length + H'.length
      · rw [hf b (by omega) h2] at hL; simp at hL
      · rw [if_neg h2]; exact hL
  have hnI : ∀ cb, cb < w.heap.size → I' cb → I cb := fun cb hc hi => by
    rcases p.new cb hi with h1 | h1 | h1
    · exact h1
    · exact (own_empty h1).elim
    · omega
  refine ⟨⟨p.keep.os, p.keep.tape, p.keep.output, p.keep.size, fun cb hc _ => hold cb hc⟩, p.sub, fun cb hi => ?_, fun b hb => ?_, by simp, ⟨?_, ?_, ?_, ?_, p.hr.lt, p.hr.glob⟩, ?_⟩
  · rcases p.new cb hi with h1 | h1 | h1
    · exact .inl h1
    · exact (own_empty h1).elim
    · exact .inr (.inr h1)
  · rcases hb with hb | hb
    · exact hlo b hb
    · simp at hb
      simp only [Mu.join]
      rw [if_neg (by omega), if_neg (by omega)]
  · intro b x hb hl
    rcases hat b x hb with ⟨h1, h2⟩ | ⟨h1, h2, y, h3, rfl⟩
    · obtain ⟨L, q1, q2⟩ := h.blk b x h2 hl
      exact ⟨L, hgrow b L q1, q2.mono p.sub (fun cb hi => hold cb (h.lt cb hi)) hgrow (hold _ (q2.lt hl))⟩
    · have hyl : y.live = true := by rcases shiftB_live hl with ⟨e, cs, t, rfl, _⟩ | ⟨es, rfl, _⟩ <;> rfl
      obtain ⟨L, q1, q2⟩ := p.hr.blk _ y h3 hyl
      exact ⟨L, by rw [hhi b h1 h2]; exact q1, q2.shift hμ hl⟩
  · intro b b' x x' L L' hb hb' hl hl' hL hL' e
    rcases hat b x hb with ⟨h1, h2⟩ | ⟨h1, h2, y, h3, rfl⟩ <;> rcases hat b' x' hb' with ⟨k1, k2⟩ | ⟨k1, k2, y', k3, rfl⟩
    · rw [hlo b h1] at hL; rw [hlo b' k1] at hL'
      exact h.apart b b' x x' L L' h2 k2 hl hl' hL hL' e
    · rw [hlo b h1] at hL; rw [hhi b' k1 k2] at hL'
      have := hold2 b x L h2 (Blk.live_of_mut hl) hL
      have := (hnew _ y' L' k3 hl' hL').2
      omega
    · rw [hhi b h1 h2] at hL; rw [hlo b' k1] at hL'
      have := hold2 b' x' L' k2 hl' hL'
      have := (hnew _ y L h3 (Blk.live_of_mut hl) hL).2
      omega
    · rw [hhi b h1 h2] at hL; rw [hhi b' k1 k2] at hL'
      have hyl : y.mut = true := (hnew _ y L h3 (Blk.live_of_mut hl) hL).1
      have hyl' : y'.live = true := Blk.live_of_mut (hnew _ y' L' k3 hl' hL').1
      have := p.hr.apart _ _ y y' L L' h3 k3 hyl hyl' hL hL' e
      omega
  · intro b x L hb hm hL hi
    rcases hat b x hb with ⟨h1, h2⟩ | ⟨h1, h2, y, h3, rfl⟩
    · rw [hlo b h1] at hL
      exact h.mt b x L h2 hm hL (hnI _ (hold2 b x L h2 (Blk.live_of_mut hm) hL) hi)
    · rw [hhi b h1 h2] at hL
      have hyl := hnew _ y L h3 (Blk.live_of_mut hm) hL
      exact p.hr.mt _ y L h3 hyl.1 hL hi
  · intro b x L hb hl hm hL
    rcases hat b x hb with ⟨h1, h2⟩ | ⟨h1, h2, y, h3, rfl⟩
    · rw [hlo b h1] at hL
      exact p.sub _ (h.fro b x L h2 hl hm hL)
    · rcases shiftB_live hl with ⟨e, cs, t, rfl, hx⟩ | ⟨es, rfl, hx⟩ <;> (rw [hx] at hm; simp [Blk.mut] at hm)
  · rintro cb ⟨b, x, L, hb, hm, hL, rfl⟩
    rcases hat b x hb with ⟨h1, h2⟩ | ⟨h1, h2, y, h3, rfl⟩
    · rw [hlo b h1] at hL
      exact .inl ⟨b, x, L, h2, hm, hL, rfl⟩
    · rw [hhi b h1 h2] at hL
      exact .inr (hnew _ y L h3 (Blk.live_of_mut hm) hL).2

/-- the callee's memory is given up -/
theorem post_forget (h : HR C w I μ H) (p : Post C w I mu0 [] w' I' μ' H') : Post C w I μ H w' I' μ H := by
  have hold : ∀ cb, cb < w.heap.size → w'.heap[cb]? = w.heap[cb]? := fun cb hc => p.keep.blk cb hc fun ho => own_empty ho
  have hold2 : ∀ b x L, H[b]? = some x → x.live = true → μ b = some L → L.cb < w.heap.size := fun b x L hb hl hL => by
    obtain ⟨L', h1, h2⟩ := h.blk b x hb hl
    rw [hL] at h1; cases h1
    exact h2.lt hl
  have hnI : ∀ cb, cb < w.heap.size → I' cb → I cb := fun cb hc hi => by
    rcases p.new cb hi with h1 | h1 | h1
    · exact h1
    · exact (own_empty h1).elim
    · omega
  refine ⟨⟨p.keep.os, p.keep.tape, p.keep.output, p.keep.size, fun cb hc _ => hold cb hc⟩, p.sub, fun cb hi => ?_, fun _ _ => rfl, Nat.le_refl _, ⟨?_, h.apart, ?_, ?_, p.hr.lt, p.hr.glob⟩, fun cb hc => .inl hc⟩
  · rcases p.new cb hi with h1 | h1 | h1
    · exact .inl h1
    · exact (own_empty h1).elim
    · exact .inr (.inr h1)
  · intro b x hb hl
    obtain ⟨L, q1, q2⟩ := h.blk b x hb hl
    exact ⟨L, q1, q2.mono p.sub (fun cb hi => hold cb (h.lt cb hi)) (fun _ _ h => h) (hold _ (q2.lt hl))⟩
  · intro b x L hb hm hL hi
    exact h.mt b x L hb hm hL (hnI _ (hold2 b x L hb (Blk.live_of_mut hm) hL) hi)
  · intro b x L hb hl hm hL
    exact p.sub _ (h.fro b x L hb hl hm hL)

/-- .. and nobody will write it again -/
theorem post_freeze (h : HR C w I μ H) (p : Post C w I mu0 [] w' I' μ' H') : Post C w I μ H w' (fun cb => I' cb ∨ Own μ' H' cb) μ H := by
  have q := post_forget h p
  have hown : ∀ cb, Own μ' H' cb → w.heap.size ≤ cb := fun cb ho => by
    rcases p.own cb ho with h1 | h1
    · exact (own_empty h1).elim
    · exact h1
  have hold2 : ∀ b x L, H[b]? = some x → x.live = true → μ b = some L → L.cb < w.heap.size := fun b x L hb hl hL => by
    obtain ⟨L', h1, h2⟩ := h.blk b x hb hl
    rw [hL] at h1; cases h1
    exact h2.lt hl
  refine ⟨q.keep, fun cb hi => .inl (q.sub cb hi), fun cb hi => ?_, fun _ _ => rfl, Nat.le_refl _, ⟨?_, h.apart, ?_, ?_, ?_, ?_⟩, fun cb hc => .inl hc⟩
  · rcases hi with hi | hi
    · exact q.new cb hi
    · exact .inr (.inr (hown cb hi))
  · intro b x hb hl
    obtain ⟨L, q1, q2⟩ := q.hr.blk b x hb hl
    exact ⟨L, q1, q2.mono (fun _ h => .inl h) (fun _ _ => rfl) (fun _ _ h => h) rfl⟩
  · intro b x L hb hm hL hi
    rcases hi with hi | hi
    · exact q.hr.mt b x L hb hm hL hi
    · have := hown _ hi
      have := hold2 b x L hb (Blk.live_of_mut hm) hL
      omega
  · intro b x L hb hl hm hL
    exact .inl (q.hr.fro b x L hb hl hm hL)
  · rintro cb (hi | ⟨b, x, L, hb, hm, hL, rfl⟩)
    · exact q.hr.lt cb hi
    · obtain ⟨L', h1, h2⟩ := p.hr.blk b x hb (Blk.live_of_mut hm)
      rw [hL] at h1; cases h1
      exact h2.lt (Blk.live_of_mut hm)
  · exact globs_mono q.hr (fun _ h => .inl h) (fun _ _ => rfl)

theorem frz_sl {h : Hp} (hr : HR C w' I' μ' h.bl) {b o len : Nat} {cap : Option Nat} {v' : AV} (hf : frzV C h (.sl b o len cap) = some v') {cv : Value} (hv : VR C w' I' μ' (.sl b o len cap) cv) (μ2 : Mu) :
    VR C w' (fun cb => I' cb ∨ Own μ' h.bl cb) μ2 v' cv := by
  simp only [frzV] at hf
  split at hf
  · rename_i e cs t fz hb
    split at hf
    · rename_i n hn
      split at hf
      · rename_i l hcut
        split at hf
        · rename_i l' hl'
          cases ha : AV.hasAddr.go l' with
          | true => rw [ha] at hf; simp at hf
          | false =>
            rw [ha] at hf
            have := Option.some.inj hf
            subst this
            cases hv with
            | sl _ _ _ _ _ c' L q1 q2 q3 q4 =>
              have hcells : getCells C h (.ptr b o) (len * n) = some l' := by simp only [getCells, hb, hcut, hl']
              obtain ⟨ad, vs, g1, g2, g3, g4, g5⟩ := getCells_rel hr hcells (.ptr μ' b o L q1)
              cases g1
              obtain ⟨L', m1, c, fr, m2, m3, m4, m5, m6, m7⟩ := hr.blk b _ hb rfl
              rw [q1] at m1; cases m1
              refine .list _ _ vs L.cb (L.base + o) len c' _ ?_ ⟨c, e, fr, m2, fun i v hi => ?_⟩ ((g3.closed ha).mono (fun _ h => .inl h) (fun _ _ => rfl) (fun _ _ h => h)) g4 q4 (fun hc => ?_)
              · cases fz with
                | true => exact .inl (hr.fro b _ L hb rfl rfl q1)
                | false => exact .inr ⟨b, _, L, hb, rfl, q1, rfl⟩
              · have := g5 i v hi
                rw [addr_add, cell_at m2] at this
                exact this
              · cases cap with
                | none => simp at hc
                | some c0 => have := q2 c0 rfl; simp at hc; omega
        · simp at hf
      · simp at hf
    · simp at hf
  · simp at hf

theorem frz_plain {h : Hp} {v v' : AV} {cv : Value} (hf : frzV C h v = some v') (hd : frzV C h v = bif v.hasAddr then none else some v) (hv : VR C w' I' μ' v cv) (μ2 : Mu) : VR C w' (fun cb => I' cb ∨ Own μ' h.bl cb) μ2 v' cv := by
  rw [hd] at hf
  cases hb : v.hasAddr with
  | true => rw [hb] at hf; simp at hf
  | false =>
    rw [hb] at hf
    cases hf
    exact (hv.closed hb (μ' := mu0)).mono (fun _ h => .inl h) (fun _ _ => rfl) (fun b L hb => by simp [mu0] at hb)

theorem frz_one {h : Hp} {x y : AV} (hf : frzV C h x = some y) : y.oneCell = x.oneCell := by
  cases x <;> simp only [frzV] at hf <;> first
    | (cases hb : AV.hasAddr _ with
        | true => rw [hb] at hf; simp at hf
        | false => rw [hb] at hf; cases hf; rfl)
    | (split at hf
       · cases hf; rfl
       · simp at hf)
    | skip
  · split at hf
    · split at hf
      · split at hf
        · split at hf
          · rename_i l _
            cases hb : AV.hasAddr.go l with
            | true => rw [hb] at hf; simp at hf
            | false => rw [hb] at hf; cases hf; rfl
          · simp at hf
        · simp at hf
      · simp at hf
    · simp at hf

mutual
theorem frzV_rel {h : Hp} (hr : HR C w' I' μ' h.bl) (μ2 : Mu) : (v : AV) → ∀ {v' : AV} {cv : Value}, frzV C h v = some v' → VR C w' I' μ' v cv → VR C w' (fun cb => I' cb ∨ Own μ' h.bl cb) μ2 v' cv
  | .sl b o len cap, _, _, hf, hv => frz_sl hr hf hv μ2
  | .agg cs, v', cv, hf, hv => by
    simp only [frzV] at hf
    split at hf
    · rename_i l hl
      cases hf
      cases hv with
      | agg _ _ vs q1 q2 =>
        obtain ⟨r1, r2⟩ := frzs_rel hr μ2 cs hl q1
        exact .agg _ _ _ r1 (by rw [r2]; exact q2)
    · simp at hf
  | .tuple cs, v', cv, hf, hv => by
    simp only [frzV] at hf
    split at hf
    · rename_i l hl
      cases hf
      cases hv with
      | tuple _ _ vs q1 =>
        obtain ⟨r1, r2⟩ := frzs_rel hr μ2 cs hl q1
        exact .tuple _ _ _ r1
    · simp at hf
  | .bool b, v', cv, hf, hv => frz_plain hf rfl hv μ2
  | .int k n, v', cv, hf, hv => frz_plain hf rfl hv μ2
  | .str x, v', cv, hf, hv => frz_plain hf rfl hv μ2
  | .nilp, v', cv, hf, hv => frz_plain hf rfl hv μ2
  | .ptr b o, v', cv, hf, hv => frz_plain hf rfl hv μ2
  | .gptr b o, v', cv, hf, hv => frz_plain hf rfl hv μ2
  | .lptr b o, v', cv, hf, hv => frz_plain hf rfl hv μ2
  | .nils, v', cv, hf, hv => frz_plain hf rfl hv μ2
  | .list a b c, v', cv, hf, hv => frz_plain hf rfl hv μ2
  | .nilm, v', cv, hf, hv => frz_plain hf rfl hv μ2
  | .map b, v', cv, hf, hv => frz_plain hf rfl hv μ2
  | .gmap b, v', cv, hf, hv => frz_plain hf rfl hv μ2
  | .func a b c, v', cv, hf, hv => frz_plain hf rfl hv μ2
  | .yield b, v', cv, hf, hv => frz_plain hf rfl hv μ2
  | .nilFunc, v', cv, hf, hv => frz_plain hf rfl hv μ2
  | .iface t x, v', cv, hf, hv => frz_plain hf rfl hv μ2
  | .nilIface, v', cv, hf, hv => frz_plain hf rfl hv μ2
theorem frzs_rel {h : Hp} (hr : HR C w' I' μ' h.bl) (μ2 : Mu) : (l : List AV) → ∀ {l' : List AV} {vs : List Value}, frzV.frzs C h l = some l' → VRs C w' I' μ' l vs →
    VRs C w' (fun cb => I' cb ∨ Own μ' h.bl cb) μ2 l' vs ∧ l'.all AV.oneCell = l.all AV.oneCell
  | [], l', vs, hf, hv => by simp only [frzV.frzs] at hf; cases hf; cases hv; exact ⟨.nil _, rfl⟩
  | x :: xs, l', vs, hf, hv => by
    simp only [frzV.frzs] at hf
    split at hf
    · rename_i y ys hy hys
      cases hf
      cases hv with
      | cons _ _ v _ us h1 h2 =>
        obtain ⟨r1, r2⟩ := frzs_rel hr μ2 xs hys h2
        exact ⟨.cons _ _ _ _ _ (frzV_rel hr μ2 x hy h1) r1, by simp [frz_one hy, r2]⟩
    · simp at hf
end


/- ## calls whose arguments' memory is only read -/

theorem frz2_one {h : Hp} {x y : AV} (hf : frz2 C h x = some y) : y.oneCell = x.oneCell := by
  cases x <;> simp only [frz2] at hf <;> first
    | exact frz_one hf
    | (split at hf
       · cases hf; rfl
       · simp at hf)
    | skip
  · split at hf
    · split at hf
      · split at hf
        · split at hf
          · split at hf
            · cases hf; rfl
            · simp at hf
          · simp at hf
        · simp at hf
      · simp at hf
    · simp at hf

theorem frz2_sl {h : Hp} (hr : HR C w' I' μ' h.bl) {b o len : Nat} {cap : Option Nat} {v' : AV} (hf : frz2 C h (.sl b o len cap) = some v') {cv : Value} (hv : VR C w' I' μ' (.sl b o len cap) cv) (μ2 : Mu) :
    VR C w' (fun cb => I' cb ∨ Own μ' h.bl cb) μ2 v' cv := by
  simp only [frz2] at hf
  split at hf
  · rename_i e cs t fz hb
    split at hf
    · rename_i n hn
      split at hf
      · rename_i l hcut
        split at hf
        · rename_i l' hl'
          split at hf
          · rename_i l2 hl2
            cases hf
            cases hv with
            | sl _ _ _ _ _ c' L q1 q2 q3 q4 =>
              have hcells : getCells C h (.ptr b o) (len * n) = some l' := by simp only [getCells, hb, hcut, hl']
              obtain ⟨ad, vs, g1, g2, g3, g4, g5⟩ := getCells_rel hr hcells (.ptr μ' b o L q1)
              cases g1
              obtain ⟨L', m1, c, fr, m2, m3, m4, m5, m6, m7⟩ := hr.blk b _ hb rfl
              rw [q1] at m1; cases m1
              obtain ⟨r1, r2⟩ := frzs_rel hr mu0 l' hl2 g3
              refine .list _ _ vs L.cb (L.base + o) len c' _ ?_ ⟨c, e, fr, m2, fun i v hi => ?_⟩ r1 (by rw [r2]; exact g4) q4 (fun hc => ?_)
              · cases fz with
                | true => exact .inl (hr.fro b _ L hb rfl rfl q1)
                | false => exact .inr ⟨b, _, L, hb, rfl, q1, rfl⟩
              · have := g5 i v hi
                rw [addr_add, cell_at m2] at this
                exact this
              · cases cap with
                | none => simp at hc
                | some c0 => have := q2 c0 rfl; simp at hc; omega
          · simp at hf
        · simp at hf
      · simp at hf
    · simp at hf
  · simp at hf

mutual
theorem frz2_rel {h : Hp} (hr : HR C w' I' μ' h.bl) (μ2 : Mu) : (v : AV) → ∀ {v' : AV} {cv : Value}, frz2 C h v = some v' → VR C w' I' μ' v cv → VR C w' (fun cb => I' cb ∨ Own μ' h.bl cb) μ2 v' cv
  | .sl b o len cap, _, _, hf, hv => frz2_sl hr hf hv μ2
  | .agg cs, v', cv, hf, hv => by
    simp only [frz2] at hf
    split at hf
    · rename_i l hl
      cases hf
      cases hv with
      | agg _ _ vs q1 q2 =>
        obtain ⟨r1, r2⟩ := frz2s_rel hr μ2 cs hl q1
        exact .agg _ _ _ r1 (by rw [r2]; exact q2)
    · simp at hf
  | .tuple cs, _, _, hf, hv => frzV_rel hr μ2 _ hf hv
  | .bool b, _, _, hf, hv => frzV_rel hr μ2 _ hf hv
  | .int k n, _, _, hf, hv => frzV_rel hr μ2 _ hf hv
  | .str x, _, _, hf, hv => frzV_rel hr μ2 _ hf hv
  | .nilp, _, _, hf, hv => frzV_rel hr μ2 _ hf hv
  | .ptr b o, _, _, hf, hv => frzV_rel hr μ2 _ hf hv
  | .gptr b o, _, _, hf, hv => frzV_rel hr μ2 _ hf hv
  | .lptr b o, _, _, hf, hv => frzV_rel hr μ2 _ hf hv
  | .nils, _, _, hf, hv => frzV_rel hr μ2 _ hf hv
  | .list a b c, _, _, hf, hv => frzV_rel hr μ2 _ hf hv
  | .nilm, _, _, hf, hv => frzV_rel hr μ2 _ hf hv
  | .map b, _, _, hf, hv => frzV_rel hr μ2 _ hf hv
  | .gmap b, _, _, hf, hv => frzV_rel hr μ2 _ hf hv
  | .func a b c, _, _, hf, hv => frzV_rel hr μ2 _ hf hv
  | .yield b, _, _, hf, hv => frzV_rel hr μ2 _ hf hv
  | .nilFunc, _, _, hf, hv => frzV_rel hr μ2 _ hf hv
  | .iface t x, _, _, hf, hv => frzV_rel hr μ2 _ hf hv
  | .nilIface, _, _, hf, hv => frzV_rel hr μ2 _ hf hv
theorem frz2s_rel {h : Hp} (hr : HR C w' I' μ' h.bl) (μ2 : Mu) : (l : List AV) → ∀ {l' : List AV} {vs : List Value}, frz2.go C h l = some l' → VRs C w' I' μ' l vs →
    VRs C w' (fun cb => I' cb ∨ Own μ' h.bl cb) μ2 l' vs ∧ l'.all AV.oneCell = l.all AV.oneCell
  | [], l', vs, hf, hv => by simp only [frz2.go] at hf; cases hf; cases hv; exact ⟨.nil _, rfl⟩
  | x :: xs, l', vs, hf, hv => by
    simp only [frz2.go] at hf
    split at hf
    · rename_i y ys hy hys
      cases hf
      cases hv with
      | cons _ _ v _ us h1 h2 =>
        obtain ⟨r1, r2⟩ := frz2s_rel hr μ2 xs hys h2
        exact ⟨.cons _ _ _ _ _ (frz2_rel hr μ2 x hy h1) r1, by simp [frz2_one hy, r2]⟩
    · simp at hf
end

mutual
theorem VR.plain {w w2 : World} {I I2 : Nat → Prop} {μ μ2 : Mu} {a : AV} {v : Value} : VR C w I μ a v → a.plain = true → VR C w2 I2 μ2 a v
  | .bool _ b, _ => .bool _ b
  | .int _ k n, _ => .int _ k n
  | .str _ s, _ => .str _ s
  | .nilp _, _ => .nilp _
  | .ptr _ b o L h, hc => by simp [AV.plain] at hc
  | .gptr _ g o, _ => .gptr _ g o
  | .lptr _ cs vs cb off o h1 h2 h3 h4, hc => by simp [AV.plain] at hc
  | .sl _ b o len cap c' L h1 h2 h3 h4, hc => by simp [AV.plain] at hc
  | .nils _, _ => .nils _
  | .list _ cs vs cb off len c' full h1 h2 h3 h4 h5 h6, hc => by simp [AV.plain] at hc
  | .nilm _, _ => .nilm _
  | .map _ b L h, hc => by simp [AV.plain] at hc
  | .gmap _ g r kvs kvs' en clk h1 h2 h3 h0 h4 h5, hc => by simp [AV.plain] at hc
  | .func _ f first cap v1 v2 h1 h2, hc => by simp [AV.plain] at hc
  | .yield _ b L h, hc => by simp [AV.plain] at hc
  | .nilFunc _, _ => .nilFunc _
  | .iface _ t a v h, hc => .iface _ t a v (VR.plain h (by simpa [AV.plain] using hc))
  | .nilIface _, _ => .nilIface _
  | .agg _ cs vs h1 h2, hc => .agg _ cs vs (VRs.plain h1 (by simpa [AV.plain] using hc)) h2
  | .tuple _ cs vs h1, hc => .tuple _ cs vs (VRs.plain h1 (by simpa [AV.plain] using hc))
theorem VRs.plain {w w2 : World} {I I2 : Nat → Prop} {μ μ2 : Mu} {as : List AV} {vs : List Value} : VRs C w I μ as vs → AV.plain.go as = true → VRs C w2 I2 μ2 as vs
  | .nil _, _ => .nil _
  | .cons _ a v as vs h1 h2, hc => .cons _ a v as vs (VR.plain h1 (by simp [AV.plain.go] at hc; exact hc.1)) (VRs.plain h2 (by simp [AV.plain.go] at hc; exact hc.2))
end

/-- the caller's memory while it is only read -/
theorem HR.frozen (h : HR C w I μ H) : HR C w (fun cb => I cb ∨ Own μ H cb) mu0 [] := by
  refine ⟨fun b x hb _ => by simp at hb, fun b b' x x' L L' hb => by simp at hb, fun b x L hb => by simp at hb, fun b x L hb => by simp at hb, ?_, globs_mono h (fun _ h => .inl h) (fun _ _ => rfl)⟩
  rintro cb (hi | ⟨b, x, L, hb, hm, hL, rfl⟩)
  · exact h.lt cb hi
  · obtain ⟨L', h1, h2⟩ := h.blk b x hb (Blk.live_of_mut hm)
    rw [hL] at h1; cases h1
    exact h2.lt (Blk.live_of_mut hm)

/-- .. is as it was behind the call -/
theorem post_back {I1 : Nat → Prop} (h : HR C w I μ H) (p : Post C w I1 mu0 [] w' I' μ' H') : Post C w I μ H w' I μ H := by
  have hold : ∀ cb, cb < w.heap.size → w'.heap[cb]? = w.heap[cb]? := fun cb hc => p.keep.blk cb hc fun ho => own_empty ho
  refine ⟨⟨p.keep.os, p.keep.tape, p.keep.output, p.keep.size, fun cb hc _ => hold cb hc⟩, fun _ h => h, fun cb hi => .inl hi, fun _ _ => rfl, Nat.le_refl _, ⟨?_, h.apart, h.mt, h.fro, ?_, ?_⟩, fun cb hc => .inl hc⟩
  · intro b x hb hl
    obtain ⟨L, q1, q2⟩ := h.blk b x hb hl
    exact ⟨L, q1, q2.mono (fun _ h => h) (fun cb hi => hold cb (h.lt cb hi)) (fun _ _ h => h) (hold _ (q2.lt hl))⟩
  · intro cb hi
    have := h.lt cb hi
    have := p.keep.size
    omega
  · exact globs_mono h (fun _ h => h) (fun cb hi => hold cb (h.lt cb hi))

end
end Go.Ev

/- A frame that leaves: its deferred calls. -/
namespace Go.Ev
open Go

section
variable {C : Ctx} {P : Program} {b : Frame} {t : Array Value} {d : List Deferred} {k : List Item} {cs : List Frame} {w w' : World} {I I' : Nat → Prop} {μ μ' : Mu}

theorem mode_ne {m : Mode} {fm : FrameMode} (h : ModeR C w I μ m fm) : fm ≠ .run := by
  cases m with
  | returning => rw [show fm = .returning from h]; simp
  | panicking v => obtain ⟨cv, h, _⟩ := h; rw [h]; simp

/-- a mark is taken off -/
theorem st_mark {r : Nat} {fm : FrameMode} (hm : fm ≠ .run) (h : w.heap[r]? = some (.deferred (some []))) :
    step P (lone (lv b t k ({ target := .collected r, args := #[] } :: d) fm) cs w) = .next (lone (lv b t k d fm) cs { w with heap := w.heap.setIfInBounds r (.deferred none) }) := by
  refine step_lone_go ?_
  have hrun : (Instr.takeDeferred r).run P w = .ok [] { w with heap := w.heap.setIfInBounds r (.deferred none) } := by
    simp [Instr.takeDeferred, getObj, setObj, Sem.run, h]
  cases fm with
  | run => exact absurd rfl hm
  | returning => simp [stepG, unwind, lv, hrun]
  | panicking ch => simp [stepG, unwind, lv, hrun]

/-- a deferred call is entered -/
theorem st_deferred {f : FuncId} {v1 v2 : List Value} {fm : FrameMode} (hm : fm ≠ .run) (h : (callFunc f (v1 ++ v2).toArray).run P w = .ok (.enter f (v1 ++ v2).toArray) w) :
    step P (lone (lv b t k ({ target := .fn (.func f) v2.toArray, args := v1.toArray } :: d) fm) cs w) = .next (lone (Frame.enter P f (v1 ++ v2).toArray .deferred) (lv b t k d fm :: cs) w) := by
  refine step_lone_go ?_
  have hinv : (invoke (.fn (.func f) v2.toArray) v1.toArray).run P w = .ok (.enter f (v1 ++ v2).toArray) w := by
    rw [← h]; simp [invoke]
  cases fm with
  | run => exact absurd rfl hm
  | returning => simp [stepG, unwind, callDeferred, lv, hinv]
  | panicking ch => simp [stepG, unwind, callDeferred, lv, hinv]

/-- a deferred call comes back: nothing was recovered -/
theorem st_back {fr c : Frame} {fn : Func} {v : Value} (hm : fr.mode = .returning) (hd : fr.defers = []) (hk : fr.kind = .deferred) (hf : P.funcs[fr.fn]? = some fn) (hr : (results fn fr.tmps).run P w = .ok v w)
    (hc : c.mode = .returning ∨ ∃ x, c.mode = .panicking [live x]) : step P (lone fr (c :: cs) w) = .next (lone c cs w) := by
  refine step_lone_go ?_
  rcases hc with hc | ⟨x, hc⟩ <;> simp [stepG, unwind, doReturn, hm, hd, hk, hf, hr, hc, live]

/-- .. the caller's panic was recovered: the caller returns -/
theorem st_back_done {fr c : Frame} {fn : Func} {v x : Value} (hm : fr.mode = .returning) (hd : fr.defers = []) (hk : fr.kind = .deferred) (hf : P.funcs[fr.fn]? = some fn) (hr : (results fn fr.tmps).run P w = .ok v w)
    (hc : c.mode = .panicking [done x]) : step P (lone fr (c :: cs) w) = .next (lone { c with mode := .returning } cs w) := by
  refine step_lone_go ?_
  simp [stepG, unwind, doReturn, hm, hd, hk, hf, hr, hc, done]

end
end Go.Ev

/- What a frame returns. -/
namespace Go.Ev
open Go

section
variable {C : Ctx} {P : Program} {b : Frame} {t : Array Value} {d : List Deferred} {k : List Item} {cs : List Frame} {w w' : World} {I I' : Nat → Prop} {μ μ' : Mu}

/-- one result -/
def rbody (t : Array Value) (x : ResultVar) : Sem Value := match x with
  | .tmp i => pure (t.getD i undef)
  | .cell a ty => do loadVar ty (← asAddr (t.getD a undef))

theorem resultsA_list {st : St} (hr : HR C w I μ st.heap.bl) (he : ER C w I μ st.env t) : ∀ (l : List ResultVar) (vs : List AV), resultsA C st l = some vs →
    ∃ us, (l.mapM (rbody t)).run C.P w = .ok us w ∧ VRs C w I μ vs us
  | [], vs, h => by simp [resultsA] at h; subst h; exact ⟨[], rfl, .nil _⟩
  | .tmp i :: l, vs, h => by
    simp only [resultsA] at h
    split at h
    · rename_i v vs' hv hvs
      cases h
      obtain ⟨u, h1, h2⟩ := he i v hv
      obtain ⟨us, h3, h4⟩ := resultsA_list hr he l vs' hvs
      have hb : (rbody t (.tmp i)).run C.P w = .ok u w := by simp [rbody, Array.getD_eq_getD_getElem?, h1]
      exact ⟨u :: us, by simp [List.mapM_cons, h3, hb], .cons _ _ _ _ _ h2 h4⟩
    · simp at h
  | .cell a ty :: l, vs, h => by
    simp only [resultsA] at h
    split at h
    · rename_i p hp
      split at h
      · rename_i v vs' hv hvs
        cases h
        obtain ⟨u, h1, h2⟩ := he a p hp
        obtain ⟨ad, x, e1, e2, e3⟩ := loadT_rel hr hv h2
        obtain ⟨us, h3, h4⟩ := resultsA_list hr he l vs' hvs
        subst e1
        have hb : (rbody t (.cell a ty)).run C.P w = .ok x w := by simp [rbody, Array.getD_eq_getD_getElem?, h1, asAddr, e2]
        exact ⟨x :: us, by simp [List.mapM_cons, h3, hb], .cons _ _ _ _ _ e3 h4⟩
      · simp at h
    · simp at h

theorem resultsA_rel {st : St} (hr : HR C w I μ st.heap.bl) (he : ER C w I μ st.env t) {fn : Func} {vs : List AV} (h : resultsA C st fn.results.toList = some vs) :
    ∃ cv, (results fn t).run C.P w = .ok cv w ∧ VR C w I μ (resultA vs) cv := by
  obtain ⟨us, h1, h2⟩ := resultsA_list hr he _ _ h
  have hm : (results fn t).run C.P w = .ok (if h : us.toArray.size = 1 then us.toArray[0] else .tuple us.toArray) w := by
    have he : (results fn t) = (do
        let vs ← fn.results.mapM (rbody t)
        pure (if h : vs.size = 1 then vs[0] else .tuple vs)) := by
      unfold results
      congr 1
    have hq : (fn.results.mapM (rbody t)).run C.P w = .ok us.toArray w := by
      rw [Array.mapM_eq_mapM_toList]
      show ((fun l => l.toArray) <$> fn.results.toList.mapM (rbody t)).run C.P w = _
      rw [← bind_pure_comp, Sem.run_bind, h1]
      rfl
    rw [he, Sem.run_bind, hq]
    rfl
  refine ⟨_, hm, ?_⟩
  cases h2 with
  | nil => exact .tuple _ _ _ (.nil _)
  | cons _ a u as us' q1 q2 =>
    cases q2 with
    | nil => exact q1
    | cons _ a2 u2 as2 us2 q3 q4 =>
      rw [dif_neg (by simp)]
      exact .tuple _ _ _ (.cons _ _ _ _ _ q1 (.cons _ _ _ _ _ q3 q4))

end
end Go.Ev

/- A frame that leaves, and its deferred calls: the evaluator is sound there. -/
namespace Go.Ev
open Go

section
variable {C : Ctx} {n : Nat} {w w' : World} {I I' : Nat → Prop} {μ μ' : Mu} {H H' : List Blk}

theorem callFunc_enter (hC : CtxOK C) {f : FuncId} {fn : Func} {body : Code} (hf : C.fn f = some fn) (hb : fn.body = some body) (a : Array Value) (w : World) :
    (callFunc f a).run C.P w = .ok (.enter f a) w := by
  have h1 := hC.noCount f fn hf (by rw [hb]; rfl)
  replace hf := C.fn_ok _ _ hf
  simp [callFunc, hf, hb, h1]

theorem er_ofList {vs : List AV} {us : List Value} (h : VRs C w I μ vs us) (i : Nat) (env : Tr) (pre : Array Value) (hs : pre.size = i) (he : ER C w I μ env pre) (pad : Array Value) :
    ER C w I μ (Tr.ofList vs i env) (pre ++ us.toArray ++ pad) := by
  induction vs generalizing us i env pre with
  | nil =>
    cases h
    intro t a ht
    obtain ⟨v, h1, h2⟩ := he t a ht
    refine ⟨v, ?_, h2⟩
    have := (Array.getElem?_eq_some_iff.1 h1).1
    rw [Array.getElem?_append_left (by simpa using this), Array.getElem?_append_left this]
    exact h1
  | cons x xs ih =>
    cases h with
    | cons _ _ u _ us h1 h2 =>
      simp only [Tr.ofList]
      have := ih h2 (i + 1) (env.set i x) (pre.push u) (by simp [hs]) (fun t a ht => ?_)
      · have e : pre.push u ++ us.toArray ++ pad = pre ++ (u :: us).toArray ++ pad := by
          apply Array.ext'
          simp
        rw [e] at this
        exact this
      · rw [Tr.get_set] at ht
        split at ht
        · rename_i e
          cases ht
          subst e
          exact ⟨u, by rw [Array.getElem?_push, if_pos hs.symm], h1⟩
        · rename_i e
          obtain ⟨v, q1, q2⟩ := he t a ht
          have := (Array.getElem?_eq_some_iff.1 q1).1
          exact ⟨v, by rw [Array.getElem?_push, if_neg (by omega)]; exact q1, q2⟩

/-- the frame of a function that is entered -/
theorem enter_mk {f : FuncId} {fn : Func} {body : Code} (hf : C.P.funcs[f]? = some fn) (hb : fn.body = some body) (us : List Value) (kd : CallKind) :
    Frame.enter C.P f us.toArray kd = mk (Frame.enter C.P f us.toArray kd) (us.toArray ++ Array.replicate (fn.ntmps - us.length) undef) [.code body] [] := by
  simp [Frame.enter, mk, hf, hb]

theorem enter_er {fn : Func} {vs : List AV} {us : List Value} (h : VRs C w I μ vs us) : ER C w I μ (Tr.ofList vs 0 .nil) (us.toArray ++ Array.replicate (fn.ntmps - us.length) undef) := by
  have := er_ofList h 0 .nil #[] rfl (fun t a ht => by simp [Tr.get] at ht) (Array.replicate (fn.ntmps - us.length) undef)
  simpa using this

/-- what holds ahead of a function's body -/
theorem enter_pre {f : FuncId} {fn : Func} {vs : List AV} {us : List Value} {heap : Hp} {pan : Pan} {fm : Option FrameMode} {kd : CallKind} (hr : HR C w I μ heap.bl) (h : VRs C w I μ vs us) (hp : PanR C w I μ kd fm pan) :
    Pre C w I μ { env := Tr.ofList vs 0 .nil, nt := fn.ntmps, heap, defers := [], pan, rnd := false } (Frame.enter C.P f us.toArray kd) (us.toArray ++ Array.replicate (fn.ntmps - us.length) undef) [] fm :=
  ⟨hr, enter_er h, by simp; omega, .nil, hp, rfl⟩

theorem exitTo_nil {id : Nat} : exitTo id [] = none := rfl

/-- the mode in which code ends -/
def modeOf : Ex → Mode
  | .panic v => .panicking v
  | _ => .returning

def modeV (pv : Value) : Ex → FrameMode
  | .panic _ => .panicking [live pv]
  | _ => .returning

theorem modeR_of {e : Ex} {pv : Value} (h : ∀ v, e = .panic v → VR C w I μ v pv) : ModeR C w I μ (modeOf e) (modeV pv e) := by
  cases e with
  | panic v => exact ⟨pv, rfl, h v rfl⟩
  | _ => rfl

/-- the body of a function that ends: the frame leaves -/
theorem body_leaves {b : Frame} {t' : Array Value} {d' : List Deferred} {cs' : List Frame} {m : Machine} {e : Ex} {pv : Value} (hb : b.roundOf = none) (a : Arr C w' m b t' [] d' cs' pv e) (hx : ∀ id, e ≠ .exit id) :
    ∃ k, Steps C.P m (lone (lv b t' k d' (modeV pv e)) cs' w') ∧ NoCall k := by
  cases e with
  | normal => exact ⟨[], a.trans (.one (st_end hb)), fun _ _ _ _ _ h => by simp at h⟩
  | exit id => exact absurd rfl (hx id)
  | ret =>
    obtain ⟨k, hk⟩ := a
    exact ⟨.code .ret :: k, hk.trans (.one (st_ret hb)), fun _ _ _ _ _ h => by simp at h⟩
  | panic v =>
    obtain ⟨k, h0, h2⟩ := a
    exact ⟨k, h2, h0⟩

theorem ModeR.step {m : Mode} {fm : FrameMode} (h : ModeR C w I μ m fm) (hr : HR C w I μ H) (p : Post C w I μ H w' I' μ' H') (hf : Fresh μ H.length H'.length) : ModeR C w' I' μ' m fm := by
  cases m with
  | returning => exact h
  | panicking v => obtain ⟨cv, h1, h2⟩ := h; exact ⟨cv, h1, h2.step hr p hf⟩

theorem post_dead (h : HR C w I μ H) {b : Nat} {x : Blk} {L : Loc} (hb : H[b]? = some x) (hm : x.mut = true) (hμ : μ b = some L) {o : Obj} (hs : Beside w w') (hh : w'.heap = w.heap.setIfInBounds L.cb o) :
    Post C w I μ H w' I μ (setAt H b .dead) := by
  have := post_set h hs hb hm hμ hh false (x' := .dead) (fun h => by simp [Blk.live] at h) (fun h => by simp [Blk.live] at h)
  have e : (fun cb => I cb ∨ (false = true ∧ cb = L.cb)) = I := by funext cb; simp
  rw [e] at this
  exact this

theorem sound_leave (hC : CtxOK C) (ih : SoundAt C n) {fn : Func} {st : St} {m : Mode} {R : Type} {k : Res → Option R} {r : R} (h : run C (n + 1) (.leave fn st m) k = some r) :
    ∃ o h' p, LeaveSim C fn st m o h' ∧ k (.out o h' p) = some r := by
  rw [run_succ] at h; simp only [runS] at h
  split at h
  · -- no deferred calls
    rename_i hd
    cases m with
    | returning =>
      dsimp only at h
      split at h
      · rename_i vs hvs
        refine ⟨_, _, _, ⟨.refl _, fun w I μ b t d fm hr he hdr hm hfn hf => ?_⟩, h⟩
        obtain ⟨cv, q1, q2⟩ := resultsA_rel hr he hvs
        rw [hd] at hdr
        cases hdr
        exact ⟨w, I, μ, cv, fm, .refl hr, fun _ _ => .refl _ _, q2, hm, q1⟩
      · simp [fail] at h
    | panicking v =>
      refine ⟨_, _, _, ⟨.refl _, fun w I μ b t d fm hr he hdr hm hfn hf => ?_⟩, h⟩
      obtain ⟨cv, q1, q2⟩ := hm
      rw [hd] at hdr
      cases hdr
      exact ⟨w, I, μ, cv, fm, .refl hr, fun _ _ => .refl _ _, q2, q1⟩
  · -- a mark
    rename_i bb ds hd
    split at h
    · rename_i hblk
      obtain ⟨res, h1, h2⟩ := ih _ _ _ _ h
      cases res with
      | out o h' p =>
        obtain ⟨l, h1⟩ := h1
        refine ⟨o, h', p, ⟨(LogOK.put _ _ _).trans l, fun w I μ b t d fm hr he hdr hm hfn hf => ?_⟩, h2⟩
        rw [hd] at hdr
        cases hdr with
        | mark _ L _ d hL hdr =>
          obtain ⟨L', e1, e2⟩ := hr.blk bb _ hblk rfl
          rw [hL] at e1; cases e1
          have e2 : w.heap[L.cb]? = some (.deferred (some [])) := e2
          have p1 : Post C w I μ st.heap.bl { w with heap := w.heap.setIfInBounds L.cb (.deferred none) } I μ (st.heap.put bb .dead 0 whole).bl := post_dead hr hblk rfl hL ⟨rfl, rfl, rfl⟩ rfl
          have hlen : (st.heap.put bb .dead 0 whole).bl.length = st.heap.bl.length := by simp [Hp.put, length_setAt]
          have hf1 : Fresh μ st.heap.bl.length (st.heap.put bb .dead 0 whole).bl.length := fun b q1 q2 => by omega
          obtain ⟨w2, I2, μ2, cv, fm', p2, g4, g5⟩ := h1 _ I μ b t d fm p1.hr (he.step hr p1 hf1) (hdr.step hr p1 hf1) (hm.step hr p1 hf1) hfn (by rw [hlen]; exact hf)
          exact ⟨w2, I2, μ2, cv, fm', p1.trans p2, fun k cs => (Steps.one (st_mark (mode_ne hm) e2)).trans (g4 k cs), g5⟩
      | _ => exact h1.elim
    · simp at h
  · -- a deferred call
    rename_i f args ds hd
    obtain ⟨res, h1, h2⟩ := ih _ _ _ _ h
    cases res with
    | out oc h' p =>
      cases oc with
      | panic v => exact h1.elim
      | ret v =>
        obtain ⟨l1, h1⟩ := h1
        dsimp only at h2
        obtain ⟨res, h3, h4⟩ := ih _ _ _ _ h2
        cases res with
        | out o h'' p' =>
          obtain ⟨l2, h3⟩ := h3
          refine ⟨o, h'', p', ⟨l1.trans l2, fun w I μ b t d fm hr he hdr hm hfn hf => ?_⟩, h4⟩
          have hf1 : Fresh μ st.heap.bl.length h'.bl.length := hf.left l2.len
          rw [hd] at hdr
          cases hdr with
          | call _ a1 a2 v1 v2 _ d q1 q2 q3 =>
            have hpan : PanR C w I μ .deferred (some fm) (match (generalizing := false) m with | .returning => .no | .panicking v => .live v) := by
              cases m with
              | returning =>
                have hm : fm = .returning := hm
                exact .inr ⟨rfl, _, rfl, fun ch => by simp [hm]⟩
              | panicking v =>
                obtain ⟨cv, e1, e2⟩ := hm
                exact ⟨rfl, cv, by rw [e1], e2⟩
            obtain ⟨w1, I1, μ1, cv, fm1, fn', p1, g1, g2, g3⟩ := h1 w I μ (v1 ++ v2) (some fm) hr hf1 (q1.append q2) hpan
            have s0 : ∀ k cs, ∃ fr, Steps C.P (lone (lv b t k ({ target := .fn (.func f) v2.toArray, args := v1.toArray } :: d) fm) cs w) (lone fr (setTop (lv b t k d fm :: cs) fm1) w1) ∧ fr.mode = .returning ∧ fr.defers = [] ∧ fr.kind = .deferred ∧ C.P.funcs[fr.fn]? = some fn' ∧ (results fn' fr.tmps).run C.P w1 = .ok cv w1 := fun k cs => by
              obtain ⟨fr, g3, g4, g5, g6, g7, g8⟩ := g3 (lv b t k d fm :: cs) (fun m hm => ⟨_, _, rfl, by cases hm; rfl⟩)
              exact ⟨fr, (Steps.one (st_deferred (mode_ne hm) g2)).trans g3, g4, g5, g6, g7, g8⟩
            have hm1 := hm.step hr p1 hf1
            rcases g1 with ⟨rfl, rfl⟩ | ⟨x, cv', ex, rfl, ec, rfl⟩
            · -- nothing recovered
              have hmm : ModeR C w1 I1 μ1 (match (generalizing := false) m, (match (generalizing := false) m with | .returning => Pan.no | .panicking v => .live v) with | .panicking _, .done => .returning | m, _ => m) fm := by
                cases m <;> exact hm1
              obtain ⟨w2, I2, μ2, cv2, fm2, p2, k4, k5⟩ := h3 w1 I1 μ1 b t d fm p1.hr (he.step hr p1 hf1) (q3.step hr p1 hf1) hmm hfn (p1.fresh hf)
              refine ⟨w2, I2, μ2, cv2, fm2, p1.trans p2, fun k cs => ?_, k5⟩
              obtain ⟨fr, s1, g4, g5, g6, g7, g8⟩ := s0 k cs
              have hback : step C.P (lone fr (lv b t k d fm :: cs) w1) = .next (lone (lv b t k d fm) cs w1) := by
                refine st_back g4 g5 g6 g7 g8 ?_
                cases m with
                | returning => exact .inl hm
                | panicking v => obtain ⟨cv, e1, e2⟩ := hm; exact .inr ⟨cv, e1⟩
              exact (s1.trans (.one hback)).trans (k4 k cs)
            · cases m with
              | returning => simp at ex
              | panicking v =>
                obtain ⟨w2, I2, μ2, cv2, fm2, p2, k4, k5⟩ := h3 w1 I1 μ1 b t d .returning p1.hr (he.step hr p1 hf1) (q3.step hr p1 hf1) rfl hfn (p1.fresh hf)
                refine ⟨w2, I2, μ2, cv2, fm2, p1.trans p2, fun k cs => ?_, k5⟩
                obtain ⟨fr, s1, g4, g5, g6, g7, g8⟩ := s0 k cs
                have hback : step C.P (lone fr ({ lv b t k d fm with mode := .panicking [done cv'] } :: cs) w1) = .next (lone (lv b t k d .returning) cs w1) := st_back_done g4 g5 g6 g7 g8 (x := cv') rfl
                exact (s1.trans (.one hback)).trans (k4 k cs)
        | _ => exact h3.elim
    | _ => exact h1.elim

theorem sound_dcall (hC : CtxOK C) (ih : SoundAt C n) {f : FuncId} {args : List AV} {heap : Hp} {pan : Pan} {R : Type} {k : Res → Option R} {r : R} (h : run C (n + 1) (.dcall f args heap pan) k = some r) :
    ∃ o h' p, DcallSim C f args heap pan o h' p ∧ k (.out o h' p) = some r := by
  rw [run_succ] at h; simp only [runS] at h
  split at h
  · simp at h
  · rename_i fn hfn
    split at h
    · simp at h
    · rename_i body hb
      obtain ⟨res, h1, h2⟩ := ih _ _ _ _ h
      cases res with
      | ex e st =>
        have hfn' := C.fn_ok _ _ hfn
        obtain ⟨l, n1, r1, h1⟩ := h1 (hC.code _ _ _ hfn hb)
        have fin : ∀ vs, (∀ id, e ≠ .exit id) → (∀ v, e ≠ .panic v) → st.defers = [] → resultsA C st fn.results.toList = some vs → DcallSim C f args heap pan (.ret (resultA vs)) st.heap st.pan := fun vs hx hnp hd hvs => by
          refine ⟨l, fun w I μ vargs fm hr hf hv hp => ?_⟩
          obtain ⟨w', I', μ', t', d', fm', pv, p, he, hs, hdr, hc, hpv, a⟩ := h1 w I μ _ _ [] fm (enter_pre (f := f) (fn := fn) hr hv hp) hf
          rw [hd] at hdr
          cases hdr
          obtain ⟨cv, q1, q2⟩ := resultsA_rel p.hr he hvs
          refine ⟨w', I', μ', cv, fm', fn, p, hc, callFunc_enter hC hfn hb _ _, fun cs ht => ?_⟩
          have a' := a [] cs ht
          rw [List.append_nil, ← enter_mk hfn' hb] at a'
          obtain ⟨k', s1, s3⟩ := body_leaves rfl a' hx
          have hfm : modeV pv e = .returning := by
            cases e with
            | panic v => exact absurd rfl (hnp v)
            | _ => rfl
          exact ⟨_, s1, by rw [hfm]; rfl, rfl, rfl, hfn', q1⟩
        dsimp only at h2
        split at h2
        · rename_i vs hd hvs _
          exact ⟨_, _, _, fin vs (by simp) (by simp) hd hvs, h2⟩
        · rename_i vs hd hvs _
          exact ⟨_, _, _, fin vs (by simp) (by simp) hd hvs, h2⟩
        · simp [fail] at h2
      | _ => exact h1.elim

end
end Go.Ev

/- Calls: the evaluator is sound there. -/
namespace Go.Ev
open Go

section
variable {C : Ctx} {n : Nat} {w w' : World} {I I' : Nat → Prop} {μ μ' : Mu} {H H' : List Blk}

theorem fresh_mu0 (lo hi : Nat) : Fresh mu0 lo hi := fun _ _ _ => rfl

/-- the body of a function, then its leaving: a call -/
theorem call_join (hC : CtxOK C) {f : FuncId} {fn : Func} {body : Code} {args : List AV} {heap : Hp} {e : Ex} {st1 : St} {o : Outc} {h' : Hp} (hfn0 : C.fn f = some fn) (hb : fn.body = some body)
    (h1 : ExSim C [.code body] { env := Tr.ofList args 0 .nil, nt := fn.ntmps, heap, defers := [], pan := .no, rnd := false } e st1) (hx : ∀ id, e ≠ .exit id) (h2 : LeaveSim C fn st1 (modeOf e) o h') :
    CallSim C f args heap o h' := by
  have hfn := C.fn_ok _ _ hfn0
  obtain ⟨l1, n1, r1, h1⟩ := h1
  obtain ⟨l2, h2⟩ := h2
  have key : ∀ w I μ vargs, HR C w I μ heap.bl → Fresh μ heap.bl.length h'.bl.length → VRs C w I μ args vargs → ∃ w' I' μ' t' cv fm', Post C w I μ heap.bl w' I' μ' h'.bl ∧
      (∀ cs, ∃ k, Steps C.P (lone (Frame.enter C.P f vargs.toArray .normal) cs w) (lone (lv (Frame.enter C.P f vargs.toArray .normal) t' k [] fm') cs w')) ∧
      (match o with
      | .ret v => VR C w' I' μ' v cv ∧ fm' = .returning ∧ (results fn t').run C.P w' = .ok cv w'
      | .panic v => VR C w' I' μ' v cv ∧ fm' = .panicking [live cv]) := fun w I μ vargs hr hf hv => by
    obtain ⟨w1, I1, μ1, t1, d1, fm1, pv, p1, e1, s1, dd1, c1, hpv, a1⟩ := h1 w I μ _ _ [] none (enter_pre (f := f) (fn := fn) (kd := .normal) hr hv (.inl ⟨by simp, by simp⟩)) (hf.left l2.len)
    have hfm : fm1 = none := by
      rcases c1 with ⟨q, _⟩ | ⟨v, cv, q, _⟩
      · exact q
      · cases q
    subst hfm
    obtain ⟨w2, I2, μ2, cv, fm2, p2, a2, q2⟩ := h2 w1 I1 μ1 (Frame.enter C.P f vargs.toArray .normal) t1 d1 (modeV pv e) p1.hr e1 dd1 (modeR_of hpv) hfn (p1.fresh hf)
    refine ⟨w2, I2, μ2, t1, cv, fm2, p1.trans p2, fun cs => ?_, by cases o <;> exact q2⟩
    have a := a1 [] cs (fun m hm => by cases hm)
    rw [List.append_nil, ← enter_mk hfn hb] at a
    obtain ⟨k, g1, g2⟩ := body_leaves rfl a hx
    have hset : setTop cs none = cs := by cases cs <;> rfl
    rw [hset] at g1
    exact ⟨k, g1.trans (a2 k cs)⟩
  cases o with
  | ret v =>
    refine ⟨l1.trans l2, fun w I μ vargs hr hf hv => ?_⟩
    obtain ⟨w', I', μ', t', cv, fm', p, a, q1, q2, q3⟩ := key w I μ vargs hr hf hv
    refine ⟨w', I', μ', cv, p, q1, .inr ⟨callFunc_enter hC hfn0 hb _ _, fun cs => ?_⟩⟩
    obtain ⟨k, a⟩ := a cs
    exact ⟨.returned cv, w', _, ⟨rfl, rfl⟩, a, rfl, q2, rfl, rfl, fn, hfn, q3⟩
  | panic v =>
    refine ⟨l1.trans l2, fun w I μ vargs hr hf hv => ?_⟩
    obtain ⟨w', I', μ', t', cv, fm', p, a, q1, q2⟩ := key w I μ vargs hr hf hv
    refine ⟨w', I', μ', cv, p, q1, callFunc_enter hC hfn0 hb _ _, fun cs => ?_⟩
    obtain ⟨k, a⟩ := a cs
    exact ⟨.panicked [live cv], w', _, ⟨rfl, rfl⟩, a, rfl, q2, rfl, fn, hfn⟩

/-- a call on empty memory stands for the call on any, its value moved into the caller's memory -/
theorem callsim_from {f : FuncId} {args : List AV} {heap h' : Hp} {o o' : Outc} {h'' : Hp} (ha : AV.hasAddr.go args = false) (hs : CallSim C f args ⟨[], []⟩ o h') (hl : LogOK heap h'')
    (hc : ∀ w I μ w' I' μ', HR C w I μ heap.bl → Fresh μ heap.bl.length h''.bl.length → Post C w I mu0 [] w' I' μ' h'.bl →
      ∃ I2 μ2, Post C w I μ heap.bl w' I2 μ2 h''.bl ∧ ∀ cv, (match o, o' with
        | .ret v, .ret v' => VR C w' I' μ' v cv → VR C w' I2 μ2 v' cv
        | .panic v, .panic v' => VR C w' I' μ' v cv → VR C w' I2 μ2 v' cv
        | _, _ => False)) : CallSim C f args heap o' h'' := by
  cases o with
  | ret v =>
    cases o' with
    | ret v' =>
      refine ⟨hl, fun w I μ vargs hr hf hv => ?_⟩
      obtain ⟨w', I', μ', cv, p, q, r⟩ := hs.2 w I mu0 vargs hr.empty (fresh_mu0 _ _) (hv.closed ha)
      obtain ⟨I2, μ2, p2, hh⟩ := hc w I μ w' I' μ' hr hf p
      exact ⟨w', I2, μ2, cv, p2, hh cv q, r⟩
    | panic v' =>
      refine ⟨hl, fun w I μ vargs hr hf hv => ?_⟩
      obtain ⟨w', I', μ', cv, p, q, r⟩ := hs.2 w I mu0 vargs hr.empty (fresh_mu0 _ _) (hv.closed ha)
      obtain ⟨I2, μ2, p2, hh⟩ := hc w I μ w' I' μ' hr hf p
      exact (hh cv).elim
  | panic v =>
    cases o' with
    | panic v' =>
      refine ⟨hl, fun w I μ vargs hr hf hv => ?_⟩
      obtain ⟨w', I', μ', cv, p, q, r⟩ := hs.2 w I mu0 vargs hr.empty (fresh_mu0 _ _) (hv.closed ha)
      obtain ⟨I2, μ2, p2, hh⟩ := hc w I μ w' I' μ' hr hf p
      exact ⟨w', I2, μ2, cv, p2, hh cv q, r⟩
    | ret v' =>
      refine ⟨hl, fun w I μ vargs hr hf hv => ?_⟩
      obtain ⟨w', I', μ', cv, p, q, r⟩ := hs.2 w I mu0 vargs hr.empty (fresh_mu0 _ _) (hv.closed ha)
      obtain ⟨I2, μ2, p2, hh⟩ := hc w I μ w' I' μ' hr hf p
      exact (hh cv).elim

theorem callsim_ov {f : FuncId} {args : List AV} {heap : Hp} {o : Outc} (ha : AV.hasAddr.go args = false) (hs : CallSim C f args ⟨[], []⟩ o ⟨[], []⟩) : CallSim C f args heap o heap := by
  refine callsim_from ha hs (.refl _) fun w I μ w' I' μ' hr hf p => ⟨I', μ, post_forget hr p, fun cv => ?_⟩
  have hμ : ∀ b L, μ' b = some L → μ b = some L := fun b L hb => by
    rw [p.mu b (.inr (Nat.zero_le _))] at hb
    simp [mu0] at hb
  cases o <;> exact fun h => h.mono (fun _ h => h) (fun _ _ => rfl) hμ

theorem callsim_frozen {f : FuncId} {args args' : List AV} {heap h0 : Hp} {o : Outc} (hf : frz2.go C heap args = some args') (hp : (match o with | .ret v => v.plain | .panic v => v.plain) = true) (hs : CallSim C f args' ⟨[], []⟩ o h0) :
    CallSim C f args heap o heap := by
  cases o with
  | ret v =>
    refine ⟨.refl _, fun w I μ vargs hr _ hv => ?_⟩
    obtain ⟨w', I', μ', cv, p, q, r⟩ := hs.2 w _ mu0 vargs hr.frozen (fresh_mu0 _ _) (frz2s_rel hr mu0 args hf hv).1
    exact ⟨w', I, μ, cv, post_back hr p, q.plain hp, r⟩
  | panic v =>
    refine ⟨.refl _, fun w I μ vargs hr _ hv => ?_⟩
    obtain ⟨w', I', μ', cv, p, q, r⟩ := hs.2 w _ mu0 vargs hr.frozen (fresh_mu0 _ _) (frz2s_rel hr mu0 args hf hv).1
    exact ⟨w', I, μ, cv, post_back hr p, q.plain hp, r⟩

theorem outA_sim {f : FuncId} {args : List AV} {heap h : Hp} {o : Outc} {p : Pan} (ha : AV.hasAddr.go args = false) (hs : CallSim C f args ⟨[], []⟩ o h) {R : Type} {k : Res → Option R} {r : R} (hk : outA C f heap (.out o h p) k = some r) :
    ∃ o' h' p', CallSim C f args heap o' h' ∧ k (.out o' h' p') = some r := by
  cases o with
  | ret v =>
    simp only [outA] at hk
    split at hk
    · rename_i v' hz
      refine ⟨.ret v', heap, _, callsim_from ha hs (.refl _) fun w I μ w' I' μ' hr hf p => ⟨_, μ, post_freeze hr p, fun cv hv => ?_⟩, hk⟩
      cases hfz : C.frz f with
      | true => rw [hfz] at hz; exact frzV_rel p.hr μ v hz hv
      | false => rw [hfz] at hz; simp at hz
    · cases hv : v.hasAddr with
      | true =>
        rw [hv] at hk
        simp only [cond_true] at hk
        refine ⟨.ret (v.shift heap.bl.length), ⟨heap.bl ++ h.bl.map (shiftB heap.bl.length), heap.log⟩, _, callsim_from ha hs ⟨[], rfl, by simp, fun b o hb _ => by simp [cellOf, List.getElem?_append_left hb]⟩ fun w I μ w' I' μ' hr hf p => ⟨I', _, post_shift hr (by simpa using hf) p, fun cv hv => hv.shift fun b L hb => ?_⟩, hk⟩
        have hlt : b < h.bl.length := by
          rcases Nat.lt_or_ge b h.bl.length with h1 | h1
          · exact h1
          · have := p.mu b (.inr h1)
            rw [hb] at this
            simp [mu0] at this
        simp only [Mu.join]
        rw [if_neg (by omega), if_pos (by omega), show b + heap.bl.length - heap.bl.length = b by omega]
        exact hb
      | false =>
        rw [hv] at hk
        simp only [cond_false] at hk
        exact ⟨.ret v, heap, _, callsim_from ha hs (.refl _) fun w I μ w' I' μ' hr hf p => ⟨I', μ, post_forget hr p, fun cv h => h.closed hv⟩, hk⟩
  | panic v =>
    simp only [outA] at hk
    cases hv : v.hasAddr with
    | true => rw [hv] at hk; simp at hk
    | false =>
      rw [hv] at hk
      simp only [cond_false] at hk
      exact ⟨.panic v, heap, _, callsim_from ha hs (.refl _) fun w I μ w' I' μ' hr hf p => ⟨I', μ, post_forget hr p, fun cv h => h.closed hv⟩, hk⟩

theorem sound_call (hC : CtxOK C) (ih : SoundAt C n) {f : FuncId} {args : List AV} {heap : Hp} {R : Type} {k : Res → Option R} {r : R} (h : run C (n + 1) (.call f args heap) k = some r) :
    ∃ o h' p, CallSim C f args heap o h' ∧ k (.out o h' p) = some r := by
  rw [run_succ] at h; simp only [runS] at h
  split at h
  · simp at h
  · rename_i fn hfn
    split at h
    · -- no Go text
      split at h
      · rename_i g hg
        split at h
        · rename_i v hv
          refine ⟨.ret v, heap, _, ⟨.refl _, fun w I μ vargs hr hf hvs => ?_⟩, h⟩
          obtain ⟨cv, q1, q2⟩ := hC.ext f g hg args v hv w I μ vargs hvs
          exact ⟨w, I, μ, cv, .refl hr, q2, .inl q1⟩
        · simp [fail] at h
      · simp [fail] at h
    · rename_i body hb
      have leave : ∀ {st : St} {m : Mode} {R : Type} {k : Res → Option R} {r : R}, run C n (.leave fn st m) k = some r → ∃ o h' p, LeaveSim C fn st m o h' ∧ k (.out o h' p) = some r := fun {st m R k r} h => by
        obtain ⟨res, h1, h2⟩ := ih _ _ _ _ h
        cases res with
        | out o h' p => exact ⟨o, h', p, h1, h2⟩
        | _ => exact h1.elim
      cases ha : AV.hasAddr.go args with
      | true =>
        rw [ha] at h
        simp only [cond_true] at h
        split at h
        · rename_i c o hh ho
          cases hov : C.ovh f with
          | none => rw [hov] at ho; simp at ho
          | some g =>
            rw [hov] at ho
            cases c with
            | true =>
              simp only [cond_true, CT.go_eq] at h
              exact ⟨_, _, _, hC.ovh f g hov args heap o hh ho, h⟩
            | false => cases h
        · split at h
          · rename_i args' hfr
            have hfr' : frz2.go C heap args = some args' := by
              cases hb : C.fin f with
              | true => rw [hb] at hfr; exact hfr
              | false => rw [hb] at hfr; cases hfr
            obtain ⟨res, h1, h2⟩ := ih _ _ _ _ h
            cases res with
            | out o h0 p =>
              cases o with
              | ret v =>
                simp only [finK] at h2
                cases hpl : v.plain with
                | true => rw [hpl] at h2; exact ⟨_, _, _, callsim_frozen (o := .ret v) hfr' hpl h1, h2⟩
                | false => rw [hpl] at h2; cases h2
              | panic v =>
                simp only [finK] at h2
                cases hpl : v.plain with
                | true => rw [hpl] at h2; exact ⟨_, _, _, callsim_frozen (o := .panic v) hfr' hpl h1, h2⟩
                | false => rw [hpl] at h2; cases h2
            | _ => exact h1.elim
          · obtain ⟨res, h1, h2⟩ := ih _ _ _ _ h
            cases res with
            | ex e st =>
              cases e with
              | normal =>
                obtain ⟨o, h', p, h3, h4⟩ := leave h2
                exact ⟨o, h', p, call_join hC hfn hb (h1 (hC.code _ _ _ hfn hb)) (by simp) h3, h4⟩
              | ret =>
                obtain ⟨o, h', p, h3, h4⟩ := leave h2
                exact ⟨o, h', p, call_join hC hfn hb (h1 (hC.code _ _ _ hfn hb)) (by simp) h3, h4⟩
              | panic v =>
                obtain ⟨o, h', p, h3, h4⟩ := leave h2
                exact ⟨o, h', p, call_join hC hfn hb (h1 (hC.code _ _ _ hfn hb)) (by simp) h3, h4⟩
              | exit id => simp at h2
            | _ => exact h1.elim
      | false =>
        rw [ha] at h
        simp only [cond_false] at h
        split at h
        · rename_i c o ho
          cases hov : C.ov f with
          | none => rw [hov] at ho; simp at ho
          | some g =>
            rw [hov] at ho
            cases c with
            | true =>
              simp only [cond_true, CT.go_eq] at h
              exact ⟨_, _, _, callsim_ov ha (hC.ov f g hov args o ho ha), h⟩
            | false => cases h
        · obtain ⟨res, h1, h2⟩ := ih _ _ _ _ h
          cases res with
          | ex e st =>
            cases e with
            | normal =>
              obtain ⟨o, h', p, h3, h4⟩ := leave h2
              exact outA_sim ha (call_join hC hfn hb (h1 (hC.code _ _ _ hfn hb)) (by simp) h3) h4
            | ret =>
              obtain ⟨o, h', p, h3, h4⟩ := leave h2
              exact outA_sim ha (call_join hC hfn hb (h1 (hC.code _ _ _ hfn hb)) (by simp) h3) h4
            | panic v =>
              obtain ⟨o, h', p, h3, h4⟩ := leave h2
              exact outA_sim ha (call_join hC hfn hb (h1 (hC.code _ _ _ hfn hb)) (by simp) h3) h4
            | exit id => simp at h2
          | _ => exact h1.elim

end
end Go.Ev

/- Ranges over functions, and their rounds: the evaluator is sound there. -/
namespace Go.Ev
open Go

section
variable {C : Ctx} {P : Program} {n : Nat} {b : Frame} {t : Array Value} {d : List Deferred} {k : List Item} {cs : List Frame} {w w' : World} {I I' : Nat → Prop} {μ μ' : Mu} {H H' : List Blk}

/- ## steps -/

theorem st_begin {l : Nat} {lo : Loop} (hb : b.roundOf = some l) (h : w.heap[l]? = some (.loop lo)) (hr : lo.state = .ready) :
    step P (lone (mk b t (.beginRound :: k) d) cs w) = .next (lone (mk b t k d) cs { w with heap := w.heap.setIfInBounds l (.loop { lo with state := .busy }) }) := by
  refine step_lone_go ?_
  simp [stepG, stepG.exec, stepG.apply, mk, hb, Instr.beginRound, Instr.getLoop, getObj, setObj, Sem.run, h, hr, Frame.finish]

theorem round_end {jump : Option Code} {l : Nat} {lo : Loop} (h : w.heap[l]? = some (.loop lo)) :
    (Instr.endRound l jump).run P w = .ok (.bool jump.isNone) { w with heap := w.heap.setIfInBounds l (.loop { lo with state := if jump.isNone then .ready else .done, pending := jump }) } := by
  simp [Instr.endRound, Instr.getLoop, getObj, setObj, Sem.run, h]

theorem st_round_normal {l : Nat} {lo : Loop} {c : Frame} (hb : b.roundOf = some l) (hk : b.kind = .normal) (h : w.heap[l]? = some (.loop lo)) :
    step P (lone (mk b t [] d) (c :: cs) w) = .next (lone (c.finish (.bool true)) cs { w with heap := w.heap.setIfInBounds l (.loop { lo with state := .ready, pending := none }) }) := by
  refine step_lone_go ?_
  have := round_end (P := P) (jump := none) h
  simp at this
  simp [stepG, stepG.exec, mk, hb, hk, this, doReturn]

theorem st_round_ret {l : Nat} {lo : Loop} {c : Frame} (hb : b.roundOf = some l) (hk : b.kind = .normal) (h : w.heap[l]? = some (.loop lo)) :
    step P (lone (mk b t (.code .ret :: k) d) (c :: cs) w) = .next (lone (c.finish (.bool false)) cs { w with heap := w.heap.setIfInBounds l (.loop { lo with state := .done, pending := some .ret }) }) := by
  refine step_lone_go ?_
  have := round_end (P := P) (jump := some .ret) h
  simp at this
  simp [stepG, stepG.exec, mk, hb, hk, this, doReturn]

theorem st_round_exit {l id : Nat} {lo : Loop} {c : Frame} (hb : b.roundOf = some l) (hk : b.kind = .normal) (hx : exitTo id k = none) (h : w.heap[l]? = some (.loop lo)) :
    step P (lone (mk b t (.code (.exit id) :: k) d) (c :: cs) w) = .next (lone (c.finish (.bool false)) cs { w with heap := w.heap.setIfInBounds l (.loop { lo with state := .done, pending := some (.exit id) }) }) := by
  refine step_lone_go ?_
  have := round_end (P := P) (jump := some (.exit id)) h
  simp at this
  simp [stepG, stepG.exec, mk, hb, hk, hx, this, doReturn]

theorem st_round_panic {c : Frame} {ch : List PanicEntry} (hk : NoCall k) : step P (lone { mk b t k [] with mode := .panicking ch } (c :: cs) w) = .next (lone (c.raise ch) cs w) := by
  refine step_lone_go ?_
  have hc : Frame.catches P { mk b t k [] with mode := .panicking ch } = false := by
    unfold Frame.catches
    split
    · rename_i h1 h2
      exact absurd h2 (hk _ _ _ _ _)
    · rfl
  simp only [mk] at hc
  simp [stepG, unwind, mk, hc]

theorem st_endRange {l : Nat} {lo : Loop} (h : w.heap[l]? = some (.loop lo)) (hs : lo.state ≠ .busy) :
    step P (lone (mk b t (.endRangeFunc l :: k) d) cs w) = .next (lone (mk b t ((lo.pending.map Item.code).toList ++ k) d) cs { w with heap := w.heap.setIfInBounds l (.loop { lo with state := .exhausted }) }) := by
  refine step_lone_go ?_
  have hr : (Instr.endLoop l).run P w = .ok lo.pending { w with heap := w.heap.setIfInBounds l (.loop { lo with state := .exhausted }) } := by
    simp [Instr.endLoop, Instr.getLoop, getObj, setObj, Sem.run, h, hs]
  simp [stepG, stepG.exec, mk, hr]

/-- the world with a range's mark and loop -/
def rangeW (w : World) (lo : Loop) : World := { w with heap := (w.heap.push (.deferred (some []))).push (.loop lo) }

def rangeL (w : World) (b : Frame) (t : Array Value) (params : Array Tmp) (assign body : Code) : Loop := { state := .ready, pending := none, fn := b.fn, tmps := t, params, assign, body, defers := w.heap.size }

theorem enter_run {fn : FuncId} {params : Array Tmp} {assign body : Code} : (Instr.enterLoop fn t params assign body none).run P w =
    .ok (w.heap.size + 1, [{ target := .collected w.heap.size, args := #[] }]) (rangeW w { state := .ready, pending := none, fn, tmps := t, params, assign, body, defers := w.heap.size }) := by
  simp [Instr.enterLoop, newObj, Sem.run, rangeW, World.alloc_eq]
  rfl

theorem range_call {ρ : Operand → Value} {f : Operand} {g : FuncId} {v1 v2 A : List Value} {l : Nat} (hρ : ρ f = .func (.func g) v1.toArray v2.toArray) (hc : ∀ v, ρ (.const v) = v)
    (hA : A = v1 ++ [.func (.yield l) #[] #[]] ++ v2) :
    ((do let d ← resolve ρ { callee := .value f, args := #[.const (.func (.yield l) #[] #[])], argTypes := #[] } 0; invoke d.target d.args) : Sem Next).run P w = (callFunc g A.toArray).run P w := by
  subst hA
  simp [resolve, hρ, hc, Deferred.ofValue, invoke]

section
variable {f : Operand} {params : Array Tmp} {assign body : Code} {g : FuncId} {v1 v2 A : List Value}

theorem stG_range (hb : b.roundOf = none) (hf : (⟨t, d⟩ : Act).eval f = .func (.func g) v1.toArray v2.toArray) (hA : A = v1 ++ [.func (.yield (w.heap.size + 1)) #[] #[]] ++ v2) :
    ∃ es, stepG P true { frame := mk b t (.code (.rangeFunc f params assign body) :: k) d, callers := cs, status := .running, dying := none } w =
      GStep.after es (stepG.apply P true (mk b t (.inRangeFunc (w.heap.size + 1) :: k) ({ target := .collected w.heap.size, args := #[] } :: d)) cs none (do
        let d ← resolve (mk b t (.inRangeFunc (w.heap.size + 1) :: k) ({ target := .collected w.heap.size, args := #[] } :: d)).eval { callee := .value f, args := #[.const (.func (.yield (w.heap.size + 1)) #[] #[])], argTypes := #[] } 0
        invoke d.target d.args) (rangeW w (rangeL w b t params assign body))) := by
  refine ⟨seen P b.fn (Sem.events P (Instr.enterLoop b.fn t params assign body none) w #[]), ?_⟩
  simp [stepG, stepG.exec, mk, hb, enter_run, rangeL]

theorem range_run (hf : (⟨t, d⟩ : Act).eval f = .func (.func g) v1.toArray v2.toArray) (hA : A = v1 ++ [.func (.yield (w.heap.size + 1)) #[] #[]] ++ v2) (w2 : World) (d2 : List Deferred) :
    ((do
        let d ← resolve (mk b t (.inRangeFunc (w.heap.size + 1) :: k) d2).eval { callee := .value f, args := #[.const (.func (.yield (w.heap.size + 1)) #[] #[])], argTypes := #[] } 0
        invoke d.target d.args) : Sem Next).run P w2 = (callFunc g A.toArray).run P w2 := by
  refine range_call ?_ (fun _ => rfl) hA
  rw [← hf]
  cases f <;> rfl

theorem apply_value {es : Array Event} {fr : Frame} {s : Sem Next} {v : Value} (hr : s.run P w = .ok (.value v) w') :
    (GStep.after es (stepG.apply P true fr cs none s w)).bare = .go { frame := fr.finish v, callers := cs, status := .running, dying := none } w' := by
  simp [stepG.apply, hr]

theorem apply_enter {es : Array Event} {s : Sem Next} {g' : FuncId} {A' : Array Value} {l : Nat} (hr : s.run P w = .ok (.enter g' A') w') :
    (GStep.after es (stepG.apply P true (mk b t (.inRangeFunc l :: k) d) cs none s w)).bare = .go { frame := Frame.enter P g' A' .normal, callers := mk b t (.inRangeFunc l :: k) d :: cs, status := .running, dying := none } w' := by
  simp [stepG.apply, hr, mk]

theorem st_range_value (hb : b.roundOf = none) (hf : (⟨t, d⟩ : Act).eval f = .func (.func g) v1.toArray v2.toArray) (hA : A = v1 ++ [.func (.yield (w.heap.size + 1)) #[] #[]] ++ v2) {v : Value}
    (hc : (callFunc g A.toArray).run P (rangeW w (rangeL w b t params assign body)) = .ok (.value v) w') :
    step P (lone (mk b t (.code (.rangeFunc f params assign body) :: k) d) cs w) = .next (lone (mk b t (.endRangeFunc (w.heap.size + 1) :: k) ({ target := .collected w.heap.size, args := #[] } :: d)) cs w') := by
  refine step_lone_go ?_
  obtain ⟨es, hs⟩ := stG_range (P := P) (k := k) (cs := cs) (params := params) (assign := assign) (body := body) hb hf hA
  rw [hs]
  have hr := range_run (P := P) (b := b) (k := k) hf hA (rangeW w (rangeL w b t params assign body)) ({ target := .collected w.heap.size, args := #[] } :: d)
  exact apply_value (hr.trans hc)

theorem st_range_enter (hb : b.roundOf = none) (hf : (⟨t, d⟩ : Act).eval f = .func (.func g) v1.toArray v2.toArray) (hA : A = v1 ++ [.func (.yield (w.heap.size + 1)) #[] #[]] ++ v2) {g' : FuncId} {A' : Array Value}
    (hc : (callFunc g A.toArray).run P (rangeW w (rangeL w b t params assign body)) = .ok (.enter g' A') w') :
    step P (lone (mk b t (.code (.rangeFunc f params assign body) :: k) d) cs w) =
      .next (lone (Frame.enter P g' A' .normal) (mk b t (.inRangeFunc (w.heap.size + 1) :: k) ({ target := .collected w.heap.size, args := #[] } :: d) :: cs) w') := by
  refine step_lone_go ?_
  obtain ⟨es, hs⟩ := stG_range (P := P) (k := k) (cs := cs) (params := params) (assign := assign) (body := body) hb hf hA
  rw [hs]
  have hr := range_run (P := P) (b := b) (k := k) hf hA (rangeW w (rangeL w b t params assign body)) ({ target := .collected w.heap.size, args := #[] } :: d)
  exact apply_enter (hr.trans hc)

end

end
end Go.Ev

/- Rounds of a range over a function: the evaluator is sound there. -/
namespace Go.Ev
open Go

section
variable {C : Ctx} {n : Nat} {w w' : World} {I I' : Nat → Prop} {μ μ' : Mu} {H H' : List Blk}

theorem post_loop (h : HR C w I μ H) {b : Nat} {l1 l' : LoopB} {L : Loc} {lo' : Loop} (hb : H[b]? = some (.loop l1)) (hμ : μ b = some L) (hs : Beside w w') (hh : w'.heap = w.heap.setIfInBounds L.cb (.loop lo')) (hl : LR C w I μ l' lo') :
    Post C w I μ H w' I μ (setAt H b (.loop l')) := by
  have hnI := h.mt b _ L hb rfl hμ
  have hlt : L.cb < w.heap.size := by
    obtain ⟨L', q1, q2⟩ := h.blk b _ hb rfl
    rw [hμ] at q1; cases q1
    exact q2.lt rfl
  have := post_set h hs hb rfl hμ hh false (x' := .loop l') (fun _ => rfl) (fun _ => ⟨lo', by rw [hh, Array.getElem?_setIfInBounds_self_of_lt hlt], hl.mono (fun _ h => .inl h) (fun cb hi => by
    rw [hh, Array.getElem?_setIfInBounds_ne (fun e => hnI (by rw [e]; exact hi))]) (fun _ _ h => h)⟩)
  have e : (fun cb => I cb ∨ (false = true ∧ cb = L.cb)) = I := by funext cb; simp
  rw [e] at this
  exact this

/-- a block is given up; the world stands -/
theorem post_kill (h : HR C w I μ H) (b : Nat) : Post C w I μ H w I μ (setAt H b .dead) := by
  have hat : ∀ {i : Nat} {x : Blk}, (setAt H b .dead)[i]? = some x → x.live = true → H[i]? = some x := fun {i x} hi hl => by
    rw [getElem?_setAt] at hi
    split at hi
    · cases hi; simp [Blk.live] at hl
    · exact hi
  refine ⟨.refl _ _, fun _ h => h, fun _ h => .inl h, fun _ _ => rfl, by simp [length_setAt], ⟨?_, ?_, ?_, ?_, h.lt, h.glob⟩, ?_⟩
  · intro i x hi hl; exact h.blk i x (hat hi hl) hl
  · intro i j x x' L L' hi hj hl hl'; exact h.apart i j x x' L L' (hat hi (Blk.live_of_mut hl)) (hat hj hl') hl hl'
  · intro i x L hi hm; exact h.mt i x L (hat hi (Blk.live_of_mut hm)) hm
  · intro i x L hi hl; exact h.fro i x L (hat hi hl) hl
  · rintro cb ⟨i, x, L, hi, hm, q⟩
    exact .inl ⟨i, x, L, hat hi (Blk.live_of_mut hm), hm, q⟩

theorem er_set {env : Tr} {t : Array Value} {x : Nat} {v : AV} {cv : Value} (h : ER C w I μ env t) (hv : VR C w I μ v cv) (hd : x < t.size) : ER C w I μ (env.set x v) (t.setIfInBounds x cv) :=
  er_put (dst := some x) h hv (fun y hy => by cases hy; exact hd)

theorem er_zip (ps : List Nat) {args : List AV} {vargs : List Value} (hv : VRs C w I μ args vargs) {env : Tr} {t : Array Value} (h : ER C w I μ env t) (hp : ∀ p, p ∈ ps → p < t.size) :
    ER C w I μ ((ps.zip args).foldl (fun e (x, a) => e.set x a) env) ((ps.zip vargs).foldl (fun t (x, a) => t.setIfInBounds x a) t) ∧ ((ps.zip vargs).foldl (fun t (x, a) => t.setIfInBounds x a) t).size = t.size := by
  induction ps generalizing args vargs env t with
  | nil => exact ⟨h, rfl⟩
  | cons p ps ih =>
    cases hv with
    | nil => exact ⟨h, rfl⟩
    | cons _ a v as vs h1 h2 =>
      simp only [List.zip_cons_cons, List.foldl_cons]
      obtain ⟨q1, q2⟩ := ih h2 (er_set h h1 (hp p (by simp))) (fun x hx => by simpa using hp x (by simp [hx]))
      exact ⟨q1, by rw [q2]; simp⟩

theorem yield_run {P : Program} {l : Nat} {lo : Loop} {vargs : List Value} (h : w.heap[l]? = some (.loop lo)) (hn : vargs.length = lo.params.size) :
    (Instr.yield l vargs.toArray).run P w = .ok (.round l lo.fn ((lo.params.toList.zip vargs).foldl (fun t (x, a) => t.setIfInBounds x a) lo.tmps) lo.assign lo.body) w := by
  have hz : (lo.params.zip vargs.toArray).foldl (fun tmps (t, a) => tmps.setIfInBounds t a) lo.tmps = (lo.params.toList.zip vargs).foldl (fun t (x, a) => t.setIfInBounds x a) lo.tmps := by
    rw [← Array.foldl_toList]
    simp
  simp [Instr.yield, Instr.getLoop, getObj, Sem.run, h, hn, ← hz]

theorem round_key {b : Nat} {args : List AV} {heap : Hp} {l l1 l2 : LoopB} {e : Ex} {st1 st2 : St} (hl : heap.bl[b]? = some (.loop l)) (hlen : args.length = l.params.length)
    (h1 : ExSim C [.code l.assign] { env := (l.params.zip args).foldl (fun e (t, a) => e.set t a) l.env, nt := l.nt, heap, defers := [], pan := .no, rnd := true } .normal st1) (hl1 : st1.heap.bl[b]? = some (.loop l1)) (hst1 : l1.st = .ready)
    (h3 : ExSim C [.code l.body] { st1 with heap := st1.heap.put b (.loop { l1 with st := .busy }) 0 whole } e st2) (hl2 : st2.heap.bl[b]? = some (.loop l2)) :
    LogOK heap st2.heap ∧ ∀ w I μ L vargs, HR C w I μ heap.bl → Fresh μ heap.bl.length st2.heap.bl.length → μ b = some L → VRs C w I μ args vargs →
      ∃ w2 I2 μ2 t2 d2 pv lo2 f tm ca cb, Post C w I μ heap.bl w2 I2 μ2 st2.heap.bl ∧ (∀ v, e = .panic v → VR C w2 I2 μ2 v pv) ∧ w2.heap[L.cb]? = some (.loop lo2) ∧ LR C w2 I2 μ2 l2 lo2 ∧ μ2 b = some L ∧ DR C w2 I2 μ2 st2.defers d2 ∧
        (Instr.yield L.cb vargs.toArray).run C.P w = .ok (.round L.cb f tm ca cb) w ∧ ∀ c cs, Arr C w2 (lone (Frame.round L.cb f tm ca cb .normal) (c :: cs) w) (Frame.round L.cb f tm ca cb .normal) t2 [] d2 (c :: cs) pv e := by
  obtain ⟨q1, n1, r1, h1⟩ := h1
  obtain ⟨q3, n3, r3, h3⟩ := h3
  have hlen1 : (st1.heap.put b (.loop { l1 with st := .busy }) 0 whole).bl.length = st1.heap.bl.length := by simp [Hp.put, length_setAt]
  refine ⟨(q1.trans (.put _ _ _)).trans q3, fun w I μ L vargs hr hf hμ hv => ?_⟩
  obtain ⟨L', g1, lo, g2, g3⟩ := hr.blk b _ hl rfl
  rw [hμ] at g1; cases g1
  have hb0 : b < heap.bl.length := (List.getElem?_eq_some_iff.1 hl).1
  have hy := yield_run (P := C.P) (vargs := vargs) g2 (by rw [← hv.length, hlen, ← g3.params]; simp)
  obtain ⟨z1, z2⟩ := er_zip l.params hv g3.env (fun p hp => Nat.lt_of_lt_of_le (g3.lt p hp) g3.size)
  rw [← g3.params] at z1 z2
  have hf1 : Fresh μ heap.bl.length st1.heap.bl.length := hf.left (by have := q3.len; simp only at this; omega)
  have pre : Pre C w I μ { env := (l.params.zip args).foldl (fun e (t, a) => e.set t a) l.env, nt := l.nt, heap, defers := [], pan := .no, rnd := true }
      (Frame.round L.cb lo.fn ((lo.params.toList.zip vargs).foldl (fun t (x, a) => t.setIfInBounds x a) lo.tmps) lo.assign lo.body .normal) ((lo.params.toList.zip vargs).foldl (fun t (x, a) => t.setIfInBounds x a) lo.tmps) [] none :=
    ⟨hr, by rw [← g3.params]; exact z1, by rw [z2]; exact g3.size, .nil, .inl ⟨by simp [Frame.round], by simp [Frame.round]⟩, rfl⟩
  obtain ⟨w1, I1, μ1, t1, d1, fm1, pv1, p1, e1, s1, dd1, c1, hpv1, a1⟩ := h1 w I μ _ _ [] none pre hf1
  have hfm : fm1 = none ∧ st1.pan = .no := by
    rcases c1 with q | ⟨v, cv, q, _⟩
    · exact q
    · cases q
  obtain ⟨hfm, hpan⟩ := hfm
  subst hfm
  have hμ1 : μ1 b = some L := by rw [p1.mu b (.inl hb0)]; exact hμ
  obtain ⟨L', g4, lo1, g5, g6⟩ := p1.hr.blk b _ hl1 rfl
  rw [hμ1] at g4; cases g4
  have hready : lo1.state = .ready := by rw [g6.st, hst1]; rfl
  let wb : World := { w1 with heap := w1.heap.setIfInBounds L.cb (.loop { lo1 with state := .busy }) }
  have pb : Post C w1 I1 μ1 st1.heap.bl wb I1 μ1 (st1.heap.put b (.loop { l1 with st := .busy }) 0 whole).bl :=
    post_loop p1.hr hl1 hμ1 ⟨rfl, rfl, rfl⟩ rfl ⟨rfl, g6.pending, g6.size, g6.env, g6.params, g6.assign, g6.body, g6.lt⟩
  have hfb : Fresh μ1 st1.heap.bl.length (st1.heap.put b (.loop { l1 with st := .busy }) 0 whole).bl.length := fun i j1 j2 => by omega
  have pre2 : Pre C wb I1 μ1 { st1 with heap := st1.heap.put b (.loop { l1 with st := .busy }) 0 whole } (Frame.round L.cb lo.fn ((lo.params.toList.zip vargs).foldl (fun t (x, a) => t.setIfInBounds x a) lo.tmps) lo.assign lo.body .normal) t1 d1 none :=
    ⟨pb.hr, e1.step p1.hr pb hfb, by rw [n1]; exact s1, dd1.step p1.hr pb hfb, by rw [hpan]; exact .inl ⟨by simp [Frame.round], by simp [Frame.round]⟩, by rw [r1]; rfl⟩
  have hf2 : Fresh μ1 (st1.heap.put b (.loop { l1 with st := .busy }) 0 whole).bl.length st2.heap.bl.length := by rw [hlen1]; exact p1.fresh hf
  obtain ⟨w2, I2, μ2, t2, d2, fm2, pv2, p2, e2, s2, dd2, c2, hpv2, a2⟩ := h3 wb I1 μ1 _ t1 d1 none pre2 hf2
  have hfm2 : fm2 = none := by
    rcases c2 with ⟨q, _⟩ | ⟨v, cv, q, q', _⟩
    · exact q
    · rw [hpan] at q; cases q
  subst hfm2
  have hb1 : b < (st1.heap.put b (.loop { l1 with st := .busy }) 0 whole).bl.length := by rw [hlen1]; exact (List.getElem?_eq_some_iff.1 hl1).1
  have hμ2 : μ2 b = some L := by rw [p2.mu b (.inl hb1)]; exact hμ1
  obtain ⟨L', g7, lo2, g8, g9⟩ := p2.hr.blk b _ hl2 rfl
  rw [hμ2] at g7; cases g7
  refine ⟨w2, I2, μ2, t2, d2, pv2, lo2, _, _, _, _, (p1.trans pb).trans p2, hpv2, g8, g9, hμ2, dd2, hy, fun c cs => ?_⟩
  have hset : ∀ cs, setTop cs none = cs := fun cs => by cases cs <;> rfl
  have a1 := a1 [.beginRound, .code l.body] (c :: cs) (fun m hm => by cases hm)
  have a2 := a2 [] (c :: cs) (fun m hm => by cases hm)
  rw [hset] at a1 a2
  have a1' := Steps.trans a1 (.one (st_begin rfl g5 hready))
  rw [← g3.assign, ← g3.body] at a1'
  rw [← g3.body] at a2
  exact .of_steps a1' a2

theorem sound_round (ih : SoundAt C n) {b : Nat} {args : List AV} {heap : Hp} {R : Type} {k : Res → Option R} {r : R} (h : run C (n + 1) (.round b args heap) k = some r) :
    ∃ o h' p, RoundSim C b args heap o h' ∧ k (.out o h' p) = some r := by
  rw [run_succ] at h; simp only [runS] at h
  split at h
  · rename_i l hl
    split at h
    · rename_i hst
      cases hlen : (args.length == l.params.length) with
      | false => rw [hlen] at h; simp at h
      | true =>
      rw [hlen] at h
      simp only [cond_true] at h
      have hlen : args.length = l.params.length := by simpa using hlen
      obtain ⟨res, h1, h2⟩ := ih _ _ _ _ h
      cases res with
      | ex e st1 =>
        cases e with
        | normal =>
          dsimp only at h2
          split at h2
          · rename_i l1 hl1
            split at h2
            · rename_i hst1
              obtain ⟨res, h3, h4⟩ := ih _ _ _ _ h2
              cases res with
              | ex e st2 =>
                dsimp only at h4
                split at h4
                · rename_i l2 hl2
                  have h1' := h1 l.ok1
                  obtain ⟨lg, key⟩ := round_key hl hlen h1' hl1 hst1 (h3 (by rw [show st1.nt = l.nt from h1'.nt]; exact l.ok2)) hl2
                  have hlen2 : ∀ x, (st2.heap.put b x 0 whole).bl.length = st2.heap.bl.length := fun x => by simp [Hp.put, length_setAt]
                  cases e with
                  | normal =>
                    refine ⟨.ret (.bool true), _, _, ⟨lg.trans (.put _ _ _), fun w I μ L vargs hr hf hμ hv => ?_⟩, h4⟩
                    obtain ⟨w2, I2, μ2, t2, d2, pv, lo2, f, tm, ca, cb, p, hpv, g1, g2, g3, dd, hy, a⟩ := key w I μ L vargs hr (by rw [hlen2] at hf; exact hf) hμ hv
                    exact ⟨{ w2 with heap := w2.heap.setIfInBounds L.cb (.loop { lo2 with state := .ready, pending := none }) }, I2, μ2, .bool true, f, tm, ca, cb, p.trans (post_loop p.hr hl2 g3 ⟨rfl, rfl, rfl⟩ rfl ⟨rfl, rfl, g2.size, g2.env, g2.params, g2.assign, g2.body, g2.lt⟩), .bool _ _, hy, fun c cs => Steps.trans (a c cs) (.one (st_round_normal rfl rfl g1))⟩
                  | exit id =>
                    refine ⟨.ret (.bool false), _, _, ⟨lg.trans (.put _ _ _), fun w I μ L vargs hr hf hμ hv => ?_⟩, h4⟩
                    obtain ⟨w2, I2, μ2, t2, d2, pv, lo2, f, tm, ca, cb, p, hpv, g1, g2, g3, dd, hy, a⟩ := key w I μ L vargs hr (by rw [hlen2] at hf; exact hf) hμ hv
                    refine ⟨{ w2 with heap := w2.heap.setIfInBounds L.cb (.loop { lo2 with state := .done, pending := some (.exit id) }) }, I2, μ2, .bool false, f, tm, ca, cb, p.trans (post_loop p.hr hl2 g3 ⟨rfl, rfl, rfl⟩ rfl ⟨rfl, rfl, g2.size, g2.env, g2.params, g2.assign, g2.body, g2.lt⟩), .bool _ _, hy, fun c cs => ?_⟩
                    obtain ⟨k', x1, x2⟩ := a c cs
                    exact Steps.trans x2 (.one (st_round_exit rfl rfl (by rw [x1]; rfl) g1))
                  | ret =>
                    refine ⟨.ret (.bool false), _, _, ⟨lg.trans (.put _ _ _), fun w I μ L vargs hr hf hμ hv => ?_⟩, h4⟩
                    obtain ⟨w2, I2, μ2, t2, d2, pv, lo2, f, tm, ca, cb, p, hpv, g1, g2, g3, dd, hy, a⟩ := key w I μ L vargs hr (by rw [hlen2] at hf; exact hf) hμ hv
                    refine ⟨{ w2 with heap := w2.heap.setIfInBounds L.cb (.loop { lo2 with state := .done, pending := some .ret }) }, I2, μ2, .bool false, f, tm, ca, cb, p.trans (post_loop p.hr hl2 g3 ⟨rfl, rfl, rfl⟩ rfl ⟨rfl, rfl, g2.size, g2.env, g2.params, g2.assign, g2.body, g2.lt⟩), .bool _ _, hy, fun c cs => ?_⟩
                    obtain ⟨k', x2⟩ := a c cs
                    exact Steps.trans x2 (.one (st_round_ret rfl rfl g1))
                  | panic v =>
                    dsimp only at h4
                    split at h4
                    · rename_i hd
                      refine ⟨.panic v, _, _, ⟨lg, fun w I μ L vargs hr hf hμ hv => ?_⟩, h4⟩
                      obtain ⟨w2, I2, μ2, t2, d2, pv, lo2, f, tm, ca, cb, p, hpv, g1, g2, g3, dd, hy, a⟩ := key w I μ L vargs hr hf hμ hv
                      rw [hd] at dd
                      cases dd
                      refine ⟨w2, I2, μ2, pv, f, tm, ca, cb, p, hpv v rfl, hy, fun c cs => ?_⟩
                      obtain ⟨k', x1, x2⟩ := a c cs
                      exact Steps.trans x2 (.one (st_round_panic x1))
                    · simp at h4
                · simp at h4
              | _ => exact h3.elim
            · simp at h2
          · simp at h2
        | _ => simp at h2
      | _ => exact h1.elim
    · simp [fail] at h
  · simp at h

end
end Go.Ev

/- A range over a function: the evaluator is sound there. -/
namespace Go.Ev
open Go

section
variable {C : Ctx} {n : Nat} {w w' : World} {I I' : Nat → Prop} {μ μ' : Mu} {H H' : List Blk}

/-- the mark and the loop are made -/
theorem range_made {st : St} {b : Frame} {t : Array Value} {d : List Deferred} {fm : Option FrameMode} {params : Array Tmp} {assign body : Code} (hc : codeOk st.nt assign = true ∧ codeOk st.nt body = true) (hp : Pre C w I μ st b t d fm) (hpar : ∀ p, p ∈ params.toList → p < st.nt)
    (hf : Fresh μ st.heap.bl.length (st.heap.bl.length + 2)) :
    ∃ μ2 Ld Lb, Post C w I μ st.heap.bl (rangeW w (rangeL w b t params assign body)) I μ2
        ((st.heap.new .dmark).new (.loop { st := .ready, pending := none, env := st.env, nt := st.nt, params := params.toList, assign, body, fn := 0, ok1 := hc.1, ok2 := hc.2 })).bl ∧
      μ2 st.heap.bl.length = some Ld ∧ μ2 (st.heap.bl.length + 1) = some Lb ∧ Ld.cb = w.heap.size ∧ Lb.cb = w.heap.size + 1 := by
  let Ld : Loc := ⟨w.heap.size, 0, 0, 0⟩
  let Lb : Loc := ⟨w.heap.size + 1, 0, 0, 0⟩
  let w1 : World := { w with heap := w.heap.push (.deferred (some [])) }
  have hf1 : Fresh μ st.heap.bl.length (st.heap.bl.length + 1) := hf.left (by omega)
  have p1 : Post C w I μ st.heap.bl w1 I (μ.upd st.heap.bl.length Ld) (st.heap.bl ++ [.dmark]) :=
    post_new (w' := w1) (o := .deferred (some [])) (x := .dmark) hp.hr hf1 ⟨rfl, rfl, rfl⟩ rfl (L := Ld) rfl rfl (by show w1.heap[w.heap.size]? = _; simp [w1])
  have hlen : (st.heap.bl ++ [Blk.dmark]).length = st.heap.bl.length + 1 := by simp
  have hf1' : Fresh μ st.heap.bl.length (st.heap.bl ++ [Blk.dmark]).length := by rw [hlen]; exact hf1
  have hf2 : Fresh (μ.upd st.heap.bl.length Ld) (st.heap.bl ++ [Blk.dmark]).length ((st.heap.bl ++ [Blk.dmark]).length + 1) := p1.fresh (by rw [hlen]; exact hf)
  have her := hp.er.step hp.hr p1 hf1'
  let lo := rangeL w b t params assign body
  let l : LoopB := { st := .ready, pending := none, env := st.env, nt := st.nt, params := params.toList, assign, body, fn := 0, ok1 := hc.1, ok2 := hc.2 }
  have hw2 : (rangeW w lo).heap = w1.heap.push (.loop lo) := rfl
  have hs1 : w1.heap.size = w.heap.size + 1 := by simp [w1]
  have p2 : Post C w1 I (μ.upd st.heap.bl.length Ld) (st.heap.bl ++ [.dmark]) (rangeW w lo) I ((μ.upd st.heap.bl.length Ld).upd (st.heap.bl ++ [Blk.dmark]).length Lb) (st.heap.bl ++ [.dmark] ++ [.loop l]) := by
    refine post_new (w' := rangeW w lo) (x := .loop l) p1.hr hf2 ⟨rfl, rfl, rfl⟩ hw2 (L := Lb) hs1.symm rfl ⟨lo, ?_, ⟨rfl, rfl, hp.size, ?_, rfl, rfl, rfl, hpar⟩⟩
    · rw [hw2, Array.getElem?_push, if_pos hs1.symm]
    · refine her.mono (fun _ h => h) (fun cb hi => ?_) (fun i L hi => ?_)
      · have := p1.hr.lt cb hi
        rw [hw2, Array.getElem?_push, if_neg (by omega)]
      · unfold Mu.upd
        split
        · rename_i e
          have := hf2 i (by omega) (by omega)
          rw [this] at hi; simp at hi
        · exact hi
  refine ⟨_, Ld, Lb, p1.trans p2, ?_, ?_, rfl, rfl⟩
  · rw [p2.mu _ (.inl (by rw [hlen]; omega))]
    simp [Mu.upd]
  · rw [hlen]
    simp [Mu.upd]

theorem sound_range (ih : SoundAt C n) {f : Operand} {params : Array Tmp} {assign body : Code} {st : St} {R : Type} {k : Res → Option R} {r : R} (h : run C (n + 1) (.code (.rangeFunc f params assign body) st) k = some r) :
    ∃ e st', ExSim C [.code (.rangeFunc f params assign body)] st e st' ∧ k (.ex e st') = some r := by
  rw [run_succ] at h; simp only [runS] at h
  cases hg : (st.rnd || !(params.all fun t => decide (t < st.nt))) with
  | true => rw [hg] at h; simp [fail] at h
  | false =>
  rw [hg] at h
  simp only [cond_false] at h
  simp only [Bool.or_eq_false_iff, Bool.not_eq_false'] at hg
  obtain ⟨hrnd, hpar⟩ := hg
  have hpar : ∀ p, p ∈ params.toList → p < st.nt := fun p hp => by
    rw [Array.all_eq_true'] at hpar
    simpa using hpar p (by simpa using hp)
  split at h
  · rename_i g first cap hf
    by_cases hc : codeOk st.nt assign = true ∧ codeOk st.nt body = true
    rotate_left
    · rw [dif_neg hc] at h; simp at h
    rw [dif_pos hc] at h
    obtain ⟨res, h1, h2⟩ := ih _ _ _ _ h
    cases res with
    | out oc h' p =>
      have hlen0 : ((st.heap.new .dmark).new (.loop { st := .ready, pending := none, env := st.env, nt := st.nt, params := params.toList, assign := assign, body := body, fn := 0, ok1 := hc.1, ok2 := hc.2 })).bl.length = st.heap.bl.length + 2 := by simp [Hp.new]
      have hbb : ∀ {w I μ b t d fm}, Pre C w I μ st b t d fm → b.roundOf = none := fun hp => by have := hp.rnd; rw [hrnd] at this; simpa using this
      have hlenp : ∀ x y, (h'.put x y 0 whole).bl.length = h'.bl.length := fun x y => by simp [Hp.put, length_setAt]
      cases oc with
      | ret v =>
        obtain ⟨lg, h1⟩ := h1
        have lg0 : LogOK st.heap h' := ((LogOK.new _ _).trans (.new _ _)).trans lg
        have hge : st.heap.bl.length + 2 ≤ h'.bl.length := by rw [← hlen0]; exact lg.len
        dsimp only at h2
        split at h2
        · rename_i l' hl'
          have base : ∀ w I μ b t d fm, Pre C w I μ st b t d fm → Fresh μ st.heap.bl.length h'.bl.length → ∃ (w' : World) (I' : Nat → Prop) (μ' : Mu) (d' : List Deferred) (lo : Loop), Post C w I μ st.heap.bl w' I' μ' (h'.put (st.heap.bl.length + 1) .dead 0 whole).bl ∧ ER C w' I' μ' st.env t ∧ DR C w' I' μ' (.mark st.heap.bl.length :: st.defers) d' ∧
              lo.state = l'.st.to ∧ lo.pending = l'.pending ∧ (lo.state ≠ .busy → ∀ k cs, Steps C.P (lone (mk b t (.code (.rangeFunc f params assign body) :: k) d) cs w) (lone (mk b t ((lo.pending.map Item.code).toList ++ k) d') cs w')) := fun w I μ b t d fm hp hf0 => by
            have h3 := er_ev d hp.er f _ hf
            generalize hρ : (⟨t, d⟩ : Act).eval f = u at h3
            cases h3 with
            | func _ _ _ _ v1 v2 q1 q2 =>
              obtain ⟨μ2, Ld, Lb, p1, m1, m2, m3, m4⟩ := range_made (params := params) (assign := assign) (body := body) hc hp hpar (hf0.left hge)
              have hf1 : Fresh μ st.heap.bl.length ((st.heap.new .dmark).new (.loop { st := .ready, pending := none, env := st.env, nt := st.nt, params := params.toList, assign := assign, body := body, fn := 0, ok1 := hc.1, ok2 := hc.2 })).bl.length := by rw [hlen0]; exact hf0.left hge
              have hy : VRs C (rangeW w (rangeL w b t params assign body)) I μ2 [.yield (st.heap.bl.length + 1)] [.func (.yield (w.heap.size + 1)) #[] #[]] := .cons _ _ _ _ _ (by rw [← m4]; exact .yield _ _ _ m2) (.nil _)
              have hv : VRs C (rangeW w (rangeL w b t params assign body)) I μ2 (first ++ [.yield (st.heap.bl.length + 1)] ++ cap) (v1 ++ [.func (.yield (w.heap.size + 1)) #[] #[]] ++ v2) := ((q1.step hp.hr p1 hf1).append hy).append (q2.step hp.hr p1 hf1)
              obtain ⟨w3, I3, μ3, cv, p3, hcv, hcall⟩ := h1 _ I μ2 _ p1.hr (p1.fresh hf0) hv
              have hf3 : Fresh μ2 ((st.heap.new .dmark).new (.loop { st := .ready, pending := none, env := st.env, nt := st.nt, params := params.toList, assign := assign, body := body, fn := 0, ok1 := hc.1, ok2 := hc.2 })).bl.length h'.bl.length := p1.fresh hf0
              have hb3 : μ3 (st.heap.bl.length + 1) = some Lb := by rw [p3.mu _ (.inl (by rw [hlen0]; omega))]; exact m2
              have hd3 : μ3 st.heap.bl.length = some Ld := by rw [p3.mu _ (.inl (by rw [hlen0]; omega))]; exact m1
              obtain ⟨L', e1, lo, e2, e3⟩ := p3.hr.blk _ _ hl' rfl
              rw [hb3] at e1; cases e1
              have p4 := post_dead p3.hr hl' rfl hb3 (w' := { w3 with heap := w3.heap.setIfInBounds Lb.cb (.loop { lo with state := .exhausted }) }) ⟨rfl, rfl, rfl⟩ rfl
              have hlp : (h'.put (st.heap.bl.length + 1) .dead 0 whole).bl.length = h'.bl.length := hlenp _ _
              have hf4 : Fresh μ3 h'.bl.length (h'.put (st.heap.bl.length + 1) .dead 0 whole).bl.length := fun i j1 j2 => by omega
              refine ⟨_, _, _, { target := .collected w.heap.size, args := #[] } :: d, lo, (p1.trans p3).trans p4, ((hp.er.step hp.hr p1 hf1).step p1.hr p3 hf3).step p3.hr p4 hf4, ?_, e3.st, e3.pending, fun hnb k cs => ?_⟩
              · rw [← m3]
                exact .mark _ _ _ _ hd3 (((hp.dr.step hp.hr p1 hf1).step p1.hr p3 hf3).step p3.hr p4 hf4)
              · have fin : Steps C.P (lone (mk b t (.endRangeFunc (w.heap.size + 1) :: k) ({ target := .collected w.heap.size, args := #[] } :: d)) cs w3) (lone (mk b t ((lo.pending.map Item.code).toList ++ k) ({ target := .collected w.heap.size, args := #[] } :: d)) cs { w3 with heap := w3.heap.setIfInBounds Lb.cb (.loop { lo with state := .exhausted }) }) := by
                  rw [m4] at e2 ⊢
                  exact .one (st_endRange e2 hnb)
                rcases hcall with hq | ⟨hq, hcall⟩
                · exact (Steps.one (st_range_value (hbb hp) hρ rfl hq)).trans fin
                · obtain ⟨e, w'', fr, ⟨rfl, rfl⟩, hsteps, _, hleave⟩ := hcall (mk b t (.inRangeFunc (w.heap.size + 1) :: k) ({ target := .collected w.heap.size, args := #[] } :: d) :: cs)
                  exact ((Steps.one (st_range_enter (hbb hp) hρ rfl hq)).trans (Steps.trans hsteps (.one (step_leave_returned hleave)))).trans fin
          have conv : ∀ e, l'.st ≠ .busy → (e = match l'.pending with | none => Ex.normal | some (.exit id) => .exit id | some .ret => .ret | some _ => .panic .nilp) → (∀ v, e ≠ .panic v) →
              ExSim C [.code (.rangeFunc f params assign body)] st e { st with heap := h'.put (st.heap.bl.length + 1) .dead 0 whole, defers := .mark st.heap.bl.length :: st.defers } := fun e hnb he hnp => by
            refine ⟨lg0.trans (.put _ _ _), rfl, rfl, fun w I μ b t d fm hp hf0 => ?_⟩
            obtain ⟨w', I', μ', d', lo, p, g1, g2, g3, g4, g5⟩ := base w I μ b t d fm hp (by rw [hlenp] at hf0; exact hf0)
            have hs : lo.state ≠ .busy := by
              rw [g3]
              cases hq : l'.st <;> first | exact absurd hq hnb | simp [LState.to]
            refine ⟨w', I', μ', t, d', fm, undef, p, g1, hp.size, g2, .refl _ _, fun v hv => absurd hv (hnp v), fun k cs ht => ?_⟩
            rw [setTop_self ht]
            have g5 := g5 hs k cs
            rw [g4] at g5
            cases hpd : l'.pending with
            | none => rw [hpd] at g5 he; subst he; exact g5
            | some c =>
              rw [hpd] at g5 he
              cases c with
              | exit id => subst he; exact ⟨k, rfl, g5⟩
              | ret => subst he; exact ⟨k, g5⟩
              | _ => exact absurd he (hnp _)
          split at h2
          · simp [fail] at h2
          · rename_i hnb
            split at h2
            · rename_i hpd; exact ⟨_, _, conv .normal hnb (by rw [hpd]) (by simp), h2⟩
            · rename_i id hpd; exact ⟨_, _, conv (.exit id) hnb (by rw [hpd]) (by simp), h2⟩
            · rename_i hpd; exact ⟨_, _, conv .ret hnb (by rw [hpd]) (by simp), h2⟩
            · simp at h2
        · simp at h2
      | panic v =>
        obtain ⟨lg, h1⟩ := h1
        have lg0 : LogOK st.heap h' := ((LogOK.new _ _).trans (.new _ _)).trans lg
        have hge : st.heap.bl.length + 2 ≤ h'.bl.length := by rw [← hlen0]; exact lg.len
        dsimp only at h2
        refine ⟨.panic v, { st with heap := h'.put (st.heap.bl.length + 1) .dead 0 whole, defers := .mark st.heap.bl.length :: st.defers }, ⟨lg0.trans (.put _ _ _), rfl, rfl, fun w I μ b t d fm hp hf0 => ?_⟩, h2⟩
        have hf0 : Fresh μ st.heap.bl.length h'.bl.length := by
          have hf0 : Fresh μ st.heap.bl.length (h'.put (st.heap.bl.length + 1) .dead 0 whole).bl.length := hf0
          rw [hlenp] at hf0; exact hf0
        have h3 := er_ev d hp.er f _ hf
        generalize hρ : (⟨t, d⟩ : Act).eval f = u at h3
        cases h3 with
        | func _ _ _ _ v1 v2 q1 q2 =>
          obtain ⟨μ2, Ld, Lb, p1, m1, m2, m3, m4⟩ := range_made (params := params) (assign := assign) (body := body) hc hp hpar (hf0.left hge)
          have hf1 : Fresh μ st.heap.bl.length ((st.heap.new .dmark).new (.loop { st := .ready, pending := none, env := st.env, nt := st.nt, params := params.toList, assign := assign, body := body, fn := 0, ok1 := hc.1, ok2 := hc.2 })).bl.length := by rw [hlen0]; exact hf0.left hge
          have hy : VRs C (rangeW w (rangeL w b t params assign body)) I μ2 [.yield (st.heap.bl.length + 1)] [.func (.yield (w.heap.size + 1)) #[] #[]] := .cons _ _ _ _ _ (by rw [← m4]; exact .yield _ _ _ m2) (.nil _)
          have hv : VRs C (rangeW w (rangeL w b t params assign body)) I μ2 (first ++ [.yield (st.heap.bl.length + 1)] ++ cap) (v1 ++ [.func (.yield (w.heap.size + 1)) #[] #[]] ++ v2) := ((q1.step hp.hr p1 hf1).append hy).append (q2.step hp.hr p1 hf1)
          obtain ⟨w3, I3, μ3, cv, p3, hcv, hq, hcall⟩ := h1 _ I μ2 _ p1.hr (p1.fresh hf0) hv
          have hf3 : Fresh μ2 ((st.heap.new .dmark).new (.loop { st := .ready, pending := none, env := st.env, nt := st.nt, params := params.toList, assign := assign, body := body, fn := 0, ok1 := hc.1, ok2 := hc.2 })).bl.length h'.bl.length := p1.fresh hf0
          have hd3 : μ3 st.heap.bl.length = some Ld := by rw [p3.mu _ (.inl (by rw [hlen0]; omega))]; exact m1
          have p4 := post_kill p3.hr (st.heap.bl.length + 1)
          have hlp : (h'.put (st.heap.bl.length + 1) .dead 0 whole).bl.length = h'.bl.length := hlenp _ _
          have hf4 : Fresh μ3 h'.bl.length (h'.put (st.heap.bl.length + 1) .dead 0 whole).bl.length := fun i j1 j2 => by omega
          refine ⟨w3, I3, μ3, t, { target := .collected w.heap.size, args := #[] } :: d, fm, cv, (p1.trans p3).trans p4, ((hp.er.step hp.hr p1 hf1).step p1.hr p3 hf3).step p3.hr p4 hf4, hp.size, ?_, .refl _ _, fun v' hv' => by cases hv'; exact hcv, fun k cs ht => ?_⟩
          · rw [← m3]
            exact .mark _ _ _ _ hd3 (((hp.dr.step hp.hr p1 hf1).step p1.hr p3 hf3).step p3.hr p4 hf4)
          · rw [setTop_self ht]
            refine ⟨.inRangeFunc (w.heap.size + 1) :: k, fun _ _ _ _ _ h => by simp at h, ?_⟩
            obtain ⟨e, w'', fr, ⟨rfl, rfl⟩, hsteps, _, hleave⟩ := hcall (mk b t (.inRangeFunc (w.heap.size + 1) :: k) ({ target := .collected w.heap.size, args := #[] } :: d) :: cs)
            exact (Steps.one (st_range_enter (hbb hp) hρ rfl hq)).trans (Steps.trans hsteps (.one (step_leave_panicked hleave)))
    | _ => exact h1.elim
  · simp [fail] at h

end
end Go.Ev

/- An operation that was carried out in a part of memory, seen in the whole of it. -/
namespace Go.Ev
open Go

section
variable {C : Ctx} {w0 w w' : World} {I0 I I' : Nat → Prop} {μ0 μ μ' : Mu} {H0 H Hin Hout H' : List Blk} {lo hi N : Nat}

/-- what is hidden asks for nothing -/
theorem HR.mask (h : HR C w I μ H) (hm : ∀ (b : Nat) (x : Blk), Hin[b]? = some x → x.live = true → H[b]? = some x) : HR C w I μ Hin :=
  ⟨fun b x hb hl => h.blk b x (hm b x hb hl) hl, fun b b' x x' L L' hb hb' hl hl' => h.apart b b' x x' L L' (hm b x hb (Blk.live_of_mut hl)) (hm b' x' hb' hl') hl hl',
    fun b x L hb hx => h.mt b x L (hm b x hb (Blk.live_of_mut hx)) hx, fun b x L hb hl hx => h.fro b x L (hm b x hb hl) hl hx, h.lt, h.glob⟩

theorem post_frame (h0 : Post C w0 I0 μ0 H0 w I μ H) (p : Post C w I μ Hin w' I' μ' Hout) (e1 : H.length = N) (e2 : H'.length = N) (e3 : Hin.length = lo) (e4 : Hout.length = hi) (e5 : hi ≤ N) (e6 : H0.length ≤ lo)
    (hin : ∀ (b : Nat) (x : Blk), Hin[b]? = some x → x.live = true → H[b]? = some x) (hout : ∀ (b : Nat) (x : Blk), H'[b]? = some x → x.live = true → (Hout[b]? = some x ∧ ((∃ y, Hin[b]? = some y ∧ y.live = true) ∨ (lo ≤ b ∧ b < hi))) ∨ (H[b]? = some x ∧ ¬ (lo ≤ b ∧ b < hi) ∧ ¬ ∃ y, Hin[b]? = some y ∧ y.live = true))
    (hf : Fresh μ lo hi) : Post C w0 I0 μ0 H0 w' I' μ' H' := by
  have hlo : lo ≤ hi := by rw [← e3, ← e4]; exact p.len
  have hmu : ∀ b, ¬ (lo ≤ b ∧ b < hi) → μ' b = μ b := fun b hb => p.mu b (by rw [e3, e4]; omega)
  have hgrow : ∀ b L, μ b = some L → μ' b = some L := fun b L hb => by
    by_cases hc : lo ≤ b ∧ b < hi
    · rw [hf b hc.1 hc.2] at hb; simp at hb
    · rw [hmu b hc]; exact hb
  have hownin : ∀ cb, Own μ Hin cb → Own μ H cb := fun cb ⟨b, x, L, h1, h2, h3, h4⟩ => ⟨b, x, L, hin b x h1 (Blk.live_of_mut h2), h2, h3, h4⟩
  have hrin : HR C w I μ Hin := h0.hr.mask hin
  have himm : ∀ cb, I cb → w'.heap[cb]? = w.heap[cb]? := fun cb hi => p.imm hrin hi
  -- a block that is not touched is not written
  have hout1 : ∀ b x L, H[b]? = some x → x.live = true → μ b = some L → (¬ ∃ y, Hin[b]? = some y ∧ y.live = true) → ¬ Own μ Hin L.cb := fun b x L hb hl hL hn => by
    rintro ⟨b2, x2, L2, g1, g2, g3, g4⟩
    have := h0.hr.apart b2 b x2 x L2 L (hin b2 x2 g1 (Blk.live_of_mut g2)) hb g2 hl g3 hL g4
    subst this
    exact hn ⟨x2, g1, Blk.live_of_mut g2⟩
  have hlt : ∀ b x L, H[b]? = some x → x.live = true → μ b = some L → L.cb < w.heap.size := fun b x L hb hl hL => by
    obtain ⟨L', g1, g2⟩ := h0.hr.blk b x hb hl
    rw [hL] at g1; cases g1
    exact g2.lt hl
  refine ⟨⟨p.keep.os.trans h0.keep.os, p.keep.tape.trans h0.keep.tape, p.keep.output.trans h0.keep.output, Nat.le_trans h0.keep.size p.keep.size, fun cb hc ho => ?_⟩, fun cb hi => p.sub cb (h0.sub cb hi), fun cb hi => ?_, fun b hb => ?_, by rw [e2, ← e1]; exact h0.len, ⟨?_, ?_, ?_, ?_, p.hr.lt, p.hr.glob⟩, ?_⟩
  · have : ¬ Own μ Hin cb := fun h => by
      rcases h0.own cb (hownin cb h) with h | h
      · exact ho h
      · omega
    rw [p.keep.blk cb (Nat.lt_of_lt_of_le hc h0.keep.size) this, h0.keep.blk cb hc ho]
  · rcases p.new cb hi with h | h | h
    · exact h0.new cb h
    · rcases h0.own cb (hownin cb h) with h | h
      · exact .inr (.inl h)
      · exact .inr (.inr h)
    · exact .inr (.inr (Nat.le_trans h0.keep.size h))
  · rw [hmu b (by omega)]
    exact h0.mu b (by omega)
  · intro b x hb hl
    rcases hout b x hb hl with ⟨g1, g2⟩ | ⟨g1, g2, g3⟩
    · exact p.hr.blk b x g1 hl
    · obtain ⟨L, q1, q2⟩ := h0.hr.blk b x g1 hl
      refine ⟨L, hgrow b L q1, q2.mono p.sub himm hgrow (p.keep.blk _ (q2.lt hl) (hout1 b x L g1 hl q1 g3))⟩
  · intro b b' x x' L L' hb hb' hm hl' hL hL' e
    rcases hout b x hb (Blk.live_of_mut hm) with ⟨g1, g2⟩ | ⟨g1, g2, g3⟩ <;> rcases hout b' x' hb' hl' with ⟨k1, k2⟩ | ⟨k1, k2, k3⟩
    · exact p.hr.apart b b' x x' L L' g1 k1 hm hl' hL hL' e
    · rw [hmu b' k2] at hL'
      rcases p.own L.cb ⟨b, x, L, g1, hm, hL, rfl⟩ with h | h
      · rw [e] at h
        exact absurd h (hout1 b' x' L' k1 hl' hL' k3)
      · have := hlt b' x' L' k1 hl' hL'
        omega
    · rw [hmu b g2] at hL
      have hno := hout1 b x L g1 (Blk.live_of_mut hm) hL g3
      have hlt1 := hlt b x L g1 (Blk.live_of_mut hm) hL
      cases hm' : x'.mut with
      | true =>
        rcases p.own L'.cb ⟨b', x', L', k1, hm', hL', rfl⟩ with h | h
        · rw [← e] at h; exact absurd h hno
        · omega
      | false =>
        have hI := p.hr.fro b' x' L' k1 hl' hm' hL'
        rw [← e] at hI
        rcases p.new L.cb hI with h | h | h
        · exact absurd h (h0.hr.mt b x L g1 hm hL)
        · exact absurd h hno
        · omega
    · rw [hmu b g2] at hL; rw [hmu b' k2] at hL'
      exact h0.hr.apart b b' x x' L L' g1 k1 hm hl' hL hL' e
  · intro b x L hb hm hL hI
    rcases hout b x hb (Blk.live_of_mut hm) with ⟨g1, g2⟩ | ⟨g1, g2, g3⟩
    · exact p.hr.mt b x L g1 hm hL hI
    · rw [hmu b g2] at hL
      rcases p.new L.cb hI with h | h | h
      · exact h0.hr.mt b x L g1 hm hL h
      · exact hout1 b x L g1 (Blk.live_of_mut hm) hL g3 h
      · have := hlt b x L g1 (Blk.live_of_mut hm) hL
        omega
  · intro b x L hb hl hm hL
    rcases hout b x hb hl with ⟨g1, g2⟩ | ⟨g1, g2, g3⟩
    · exact p.hr.fro b x L g1 hl hm hL
    · rw [hmu b g2] at hL
      exact p.sub _ (h0.hr.fro b x L g1 hl hm hL)
  · rintro cb ⟨b, x, L, hb, hm, hL, rfl⟩
    rcases hout b x hb (Blk.live_of_mut hm) with ⟨g1, g2⟩ | ⟨g1, g2, g3⟩
    · rcases p.own L.cb ⟨b, x, L, g1, hm, hL, rfl⟩ with h | h
      · exact h0.own _ (hownin _ h)
      · exact .inr (Nat.le_trans h0.keep.size h)
    · rw [hmu b g2] at hL
      exact h0.own _ ⟨b, x, L, g1, hm, hL, rfl⟩

/-- the cells that a load reads -/
theorem getCells_congr {H1 H2 : Hp} {b p m : Nat} {l : List AV} (hg : getCells C H1 (.ptr b p) m = some l) (hm : 0 < m) (hc : ∀ o, p ≤ o → o < p + m → cellOf H2.bl b o = cellOf H1.bl b o) : getCells C H2 (.ptr b p) m = some l := by
  have len_cut : ∀ {cs : List (Option AV)} {r : List (Option AV)}, cut cs p m = some r → r = (cs.drop p).take m ∧ r.length = m := fun {cs r} h => by
    unfold cut at h
    simp only at h
    cases hb : ((List.take m (List.drop p cs)).length == m) with
    | true => rw [hb] at h; cases h; exact ⟨rfl, by simpa using hb⟩
    | false => rw [hb] at h; simp at h
  have allSome_spec : ∀ (r : List (Option AV)) (l : List AV), allSome r = some l ↔ r = l.map some := fun r => by
    induction r with
    | nil => intro l; cases l <;> simp [allSome]
    | cons x xs ih =>
      intro l
      cases x with
      | none => cases l <;> simp [allSome]
      | some x =>
        simp only [allSome]
        cases hx : allSome xs with
        | none =>
          cases l with
          | nil => simp
          | cons y ys =>
            simp only [List.map_cons]
            constructor
            · intro h; simp at h
            · intro h
              simp only [List.cons.injEq] at h
              have := (ih ys).2 h.2
              rw [hx] at this; simp at this
        | some zs =>
          have hz := (ih zs).1 hx
          subst hz
          cases l with
          | nil => simp
          | cons y ys =>
            simp only [List.map_cons, Option.some.injEq, List.cons.injEq]
            constructor
            · rintro ⟨rfl, rfl⟩; exact ⟨rfl, rfl⟩
            · rintro ⟨rfl, h⟩
              exact ⟨rfl, by
                have := (ih ys).2 h
                rw [(ih zs).2 rfl] at this
                exact Option.some.inj this⟩
  simp only [getCells] at hg
  split at hg
  · rename_i e cs t f hb
    split at hg
    · rename_i r hr
      obtain ⟨r1, r2⟩ := len_cut hr
      have hrl := (allSome_spec r l).1 hg
      have hll : l.length = m := by rw [hrl] at r2; simpa using r2
      have hcell : ∀ i, i < m → cs[p + i]? = some (l[i]?) := fun i hi => by
        have h1 : r[i]? = (cs.drop p)[i]? := by rw [r1, List.getElem?_take, if_pos hi]
        rw [List.getElem?_drop] at h1
        rw [← h1, hrl, List.getElem?_map, List.getElem?_eq_getElem (by omega)]
        rfl
      have hcell2 : ∀ i, i < m → ∃ x, l[i]? = some x ∧ cellOf H1.bl b (p + i) = some x := fun i hi => by
        refine ⟨l[i]'(by omega), List.getElem?_eq_getElem (by omega), ?_⟩
        unfold cellOf
        rw [hb]
        simp only
        rw [hcell i hi, List.getElem?_eq_getElem (by omega)]
      have hb2 : ∃ e2 cs2 t2 f2, H2.bl[b]? = some (.cells e2 cs2 t2 f2) := by
        obtain ⟨x, q1, q2⟩ := hcell2 0 hm
        rw [← hc (p + 0) (by omega) (by omega)] at q2
        unfold cellOf at q2
        split at q2
        · rename_i e2 cs2 t2 f2 hb2; exact ⟨e2, cs2, t2, f2, hb2⟩
        · simp at q2
      obtain ⟨e2, cs2, t2, f2, hb2⟩ := hb2
      have hcs2 : ∀ i, i < m → cs2[p + i]? = some (l[i]?) := fun i hi => by
        obtain ⟨x, q1, q2⟩ := hcell2 i hi
        rw [← hc (p + i) (by omega) (by omega)] at q2
        unfold cellOf at q2
        rw [hb2] at q2
        simp only at q2
        split at q2
        · rename_i y hy; rw [hy, q2, q1]
        · simp at q2
      have hdrop : (cs2.drop p).take m = l.map some := by
        apply List.ext_getElem?
        intro i
        rw [List.getElem?_take, List.getElem?_drop, List.getElem?_map]
        split
        · rename_i hi
          rw [hcs2 i hi, List.getElem?_eq_getElem (by omega)]
          rfl
        · rename_i hi
          rw [List.getElem?_eq_none (by omega)]
          rfl
      have hcut2 : cut cs2 p m = some (l.map some) := by
        unfold cut
        simp only
        rw [hdrop]
        simp [hll]
      simp only [getCells, hb2, hcut2]
      exact (allSome_spec _ _).2 rfl
    · simp at hg
  · simp at hg

end
end Go.Ev

/- The order that a region leaves open. -/
namespace Go.Ev
open Go

section
variable {all : Array Oper}

/-- i is ordered ahead of j -/
def Ah (all : Array Oper) (i j : Nat) : Prop := ((Region.before all).getD j 0).testBit i = true

theorem foldl_push_pre {α β : Type} (f : Array β → α → β) (l : List α) (acc : Array β) : ∀ i, i < acc.size → (l.foldl (fun acc a => acc.push (f acc a)) acc)[i]? = acc[i]? := by
  induction l generalizing acc with
  | nil => intro i _; rfl
  | cons a l ih =>
    intro i hi
    simp only [List.foldl_cons]
    rw [ih _ i (by simp; omega), Array.getElem?_push, if_neg (by omega)]

theorem foldl_push_get {α β : Type} (f : Array β → α → β) (l : List α) (acc : Array β) (k : Nat) (a : α) (hk : l[k]? = some a) :
    ∃ acc' : Array β, acc'.size = acc.size + k ∧ (∀ i, i < acc'.size → acc'[i]? = (l.foldl (fun acc a => acc.push (f acc a)) acc)[i]?) ∧ (l.foldl (fun acc a => acc.push (f acc a)) acc)[acc.size + k]? = some (f acc' a) := by
  induction l generalizing acc k with
  | nil => simp at hk
  | cons x l ih =>
    cases k with
    | zero =>
      simp at hk
      subst hk
      refine ⟨acc, rfl, fun i hi => ?_, ?_⟩
      · simp only [List.foldl_cons]
        rw [foldl_push_pre f l _ i (by simp; omega), Array.getElem?_push, if_neg (by omega)]
      · simp only [List.foldl_cons]
        rw [foldl_push_pre f l _ _ (by simp)]
        simp
    | succ k =>
      simp only [List.foldl_cons]
      obtain ⟨acc', h1, h2, h3⟩ := ih (acc.push (f acc x)) k (by simpa using hk)
      refine ⟨acc', by rw [h1]; simp; omega, h2, ?_⟩
      rw [Array.size_push] at h3
      rw [show acc.size + (k + 1) = acc.size + 1 + k by omega]
      exact h3

theorem foldl_push_size {α β : Type} (f : Array β → α → β) (l : List α) (acc : Array β) : (l.foldl (fun acc a => acc.push (f acc a)) acc).size = acc.size + l.length := by
  induction l generalizing acc with
  | nil => simp
  | cons x l ih => simp only [List.foldl_cons]; rw [ih]; simp; omega

theorem foldl_bits {E : Type} (p : E → Bool) (on : E → Nat) (g : E → Nat) (l : List E) (s0 i : Nat) (h : (l.foldl (fun s e => if p e then s ||| 2 ^ on e ||| g e else s) s0).testBit i = true) :
    s0.testBit i = true ∨ ∃ e, e ∈ l ∧ p e = true ∧ (i = on e ∨ (g e).testBit i = true) := by
  induction l generalizing s0 with
  | nil => exact .inl h
  | cons e l ih =>
    simp only [List.foldl_cons] at h
    rcases ih _ h with h1 | ⟨e', h1, h2⟩
    · cases hp : p e with
      | false => rw [hp] at h1; exact .inl (by simpa using h1)
      | true =>
        rw [hp] at h1
        simp only [if_true, Nat.testBit_or, Bool.or_eq_true, Nat.testBit_two_pow] at h1
        rcases h1 with (h1 | h1) | h1
        · exact .inl h1
        · exact .inr ⟨e, by simp, hp, .inl (Eq.symm (by simpa using h1))⟩
        · exact .inr ⟨e, by simp, hp, .inr h1⟩
    · exact .inr ⟨e', by simp [h1], h2⟩

theorem ah_edge {i j : Nat} (h : Ah all i j) : ∃ o e, all[j]? = some o ∧ e ∈ o.after.toList ∧ Region.binds .any e = true ∧ (i = e.on ∨ (e.on < j ∧ Ah all i e.on)) := by
  unfold Ah at h
  cases ho : all[j]? with
  | none =>
    exfalso
    have hsz : (Region.before all).size = all.size := by
      unfold Region.before
      rw [← Array.foldl_toList]
      rw [foldl_push_size]; simp
    have hj : all.size ≤ j := by simpa using ho
    have hj' : (Region.before all)[j]? = none := Array.getElem?_eq_none (by omega)
    rw [Array.getD_eq_getD_getElem?, hj'] at h
    simp at h
  | some o =>
    have hl : all.toList[j]? = some o := by simpa using ho
    obtain ⟨acc, h1, h2, h3⟩ := foldl_push_get (fun (acc : Array Nat) (o : Oper) => o.after.foldl (fun s e => if Region.binds .any e then s ||| 2 ^ e.on ||| acc.getD e.on 0 else s) 0) all.toList #[] j o hl
    have hb : Region.before all = all.toList.foldl (fun acc o => acc.push (o.after.foldl (fun s e => if Region.binds .any e then s ||| 2 ^ e.on ||| acc.getD e.on 0 else s) 0)) #[] := by
      unfold Region.before
      rw [← Array.foldl_toList]
    rw [← hb] at h2 h3
    simp only [Array.size_empty, Nat.zero_add] at h1 h3
    rw [Array.getD_eq_getD_getElem?, h3, Option.getD_some, ← Array.foldl_toList] at h
    rcases foldl_bits (fun e => Region.binds .any e) (fun e => e.on) (fun e => acc.getD e.on 0) o.after.toList 0 i h with h | ⟨e, q1, q2, q3⟩
    · simp at h
    · refine ⟨o, e, rfl, q1, q2, ?_⟩
      rcases q3 with q3 | q3
      · exact .inl q3
      · refine .inr ?_
        by_cases hlt : e.on < acc.size
        · refine ⟨by omega, ?_⟩
          unfold Ah
          rw [Array.getD_eq_getD_getElem?, h2 _ hlt] at q3
          rw [Array.getD_eq_getD_getElem?]
          exact q3
        · have : acc[e.on]? = none := Array.getElem?_eq_none (by omega)
          rw [Array.getD_eq_getD_getElem?, this] at q3
          simp at q3

/-- what a region's check says -/
structure Stat (all : Array Oper) : Prop where
  back : ∀ j o e, all[j]? = some o → e ∈ o.after.toList → Region.binds .any e = true → e.on < j
  tmp : ∀ i j oi oj d, all[i]? = some oi → all[j]? = some oj → oi.dst = some d → i ≠ j → d ∈ namesOf all oj → Ah all (min i j) (max i j)

theorem stat_of (h : regionOk all (Region.before all) = true) : Stat all := by
  unfold regionOk at h
  rw [List.all_eq_true] at h
  have hz : ∀ (j : Nat) (o : Oper), all[j]? = some o → (o, j) ∈ all.toList.zipIdx := fun j o ho => by
    rw [List.mem_zipIdx_iff_getElem?]
    simpa using ho
  refine ⟨fun j o e ho he hb => ?_, fun i j oi oj d hi hj hd hne hm => ?_⟩
  · have := h _ (hz j o ho)
    simp only [Bool.and_eq_true, Array.all_eq_true'] at this
    have := this.1 e (by simpa using he)
    simpa [hb] using this
  · have := h _ (hz j oj hj)
    simp only [Bool.and_eq_true, List.all_eq_true] at this
    have := this.2 d hm _ (hz i oi hi)
    simp only [hd, Bool.or_eq_true, beq_iff_eq, Bool.not_eq_true', beq_eq_false_iff_ne, ne_eq, not_true_eq_false, or_false] at this
    rcases this with h | h
    · exact absurd h hne
    · exact h

theorem Stat.lt (hs : Stat all) {i j : Nat} (h : Ah all i j) : i < j := by
  induction j using Nat.strongRecOn generalizing i with
  | _ j ih =>
    obtain ⟨o, e, ho, he, hb, h1⟩ := ah_edge h
    have := hs.back j o e ho he hb
    rcases h1 with rfl | ⟨_, h1⟩
    · exact this
    · exact Nat.lt_trans (ih _ this h1) this

/-- closed under the edges: closed under what is ahead -/
theorem Stat.down (hs : Stat all) {S : Nat → Bool} {j : Nat} (hc : ∀ k o e, k < j → S k = true → all[k]? = some o → e ∈ o.after.toList → Region.binds .any e = true → S e.on = true)
    (hj : ∀ o e, all[j]? = some o → e ∈ o.after.toList → Region.binds .any e = true → S e.on = true) : ∀ i, Ah all i j → S i = true := by
  induction j using Nat.strongRecOn with
  | _ j ih =>
    intro i h
    obtain ⟨o, e, ho, he, hb, h1⟩ := ah_edge h
    have hlt := hs.back j o e ho he hb
    have hSe := hj o e ho he hb
    rcases h1 with rfl | ⟨_, h1⟩
    · exact hSe
    · exact ih e.on hlt (fun k o' e' hk => hc k o' e' (by omega)) (fun o' e' ho' he' hb' => hc e.on o' e' hlt hSe ho' he' hb') i h1

end
end Go.Ev

/- A region that draws its order: one operation of it, when those of S have been carried out. -/
namespace Go.Ev
open Go

/-- an operation that the run in the text's order carried out: its value, and what it left in which blocks -/
structure PR where
  j : Nat
  o : Oper
  v : AV
  out : Nat → Option Blk
  lo : Nat
  hi : Nat
  wr : List (Nat × Nat × Nat)
  rd : Option (Nat × Nat × Nat)
  /-- it panicked, with the value v -/
  fell : Bool

def envF (e0 : Nat → Option AV) (S : Nat → Bool) : List PR → Nat → Option AV
  | [], x => e0 x
  | r :: L, x => if S r.j = true ∧ r.o.dst = some x then some r.v else envF e0 S L x

def heapF (h0 : Nat → Blk) (S : Nat → Bool) : List PR → Nat → Blk
  | [], b => h0 b
  | r :: L, b => if S r.j = true then (r.out b).getD (heapF h0 S L b) else heapF h0 S L b

def all1 : Nat → Bool := fun _ => true

def heapL (h0 : Nat → Blk) (S : Nat → Bool) (L : List PR) (N : Nat) : List Blk := (List.range N).map (heapF h0 S L)

def lenF (n : Nat) : List PR → Nat
  | [] => n
  | r :: _ => r.hi

def liveAt (H : List Blk) (b : Nat) : Bool := match H[b]? with
  | some x => x.live
  | none => false

/-- how many cells a load of this type reads -/
def cellsOf (C : Ctx) (t : TypeId) : Option Nat := match C.isAgg t, C.size t with
  | some true, some (n + 1) => some (n + 1)
  | some false, some _ => some 1
  | _, _ => none

section
variable {C : Ctx} {all : Array Oper} {st0 : St}

theorem heapL_get {h0 : Nat → Blk} {S : Nat → Bool} {L : List PR} {N b : Nat} : (heapL h0 S L N)[b]? = if b < N then some (heapF h0 S L b) else none := by
  simp only [heapL, List.getElem?_map]
  split
  · rename_i h; rw [List.getElem?_range h]; rfl
  · rename_i h; rw [List.getElem?_eq_none (by simpa using h)]; rfl

theorem loadT_congr {H1 H2 : Hp} {t : TypeId} {b p m : Nat} {v : AV} (hg : loadT C H1 t (.ptr b p) = some v) (hm : cellsOf C t = some m) (hc : ∀ o, p ≤ o → o < p + m → cellOf H2.bl b o = cellOf H1.bl b o) : loadT C H2 t (.ptr b p) = some v := by
  unfold loadT at hg ⊢
  unfold cellsOf at hm
  split at hg
  · rename_i n ha hs
    rw [ha, hs] at hm
    cases n with
    | zero => simp at hm
    | succ n =>
      simp at hm
      subst hm
      split at hg
      · rename_i l hl
        rw [getCells_congr hl (by omega) hc]
        exact hg
      · simp at hg
  · rename_i n ha hs
    rw [ha, hs] at hm
    simp at hm
    subst hm
    split at hg
    · rename_i x hx
      rw [getCells_congr hx (by omega) hc]
      exact hg
    · simp at hg
  · simp at hg

inductive Kind (C : Ctx) (all : Array Oper) (st0 : St) (h0 : Nat → Blk) (r : PR) (B : List PR) (E : Tr) : Prop
  | skip : r.fell = false → (∀ w I μ t, ER C w I μ E t → Region.wanted r.o (yielded all t) = false) → r.v = undefA → r.hi = r.lo → (∀ b, r.out b = none) → Kind C all st0 h0 r B E
  | ld (t : TypeId) (a : Operand) (b p m : Nat) (Ht : Hp) : r.fell = false → (∀ w I μ t, ER C w I μ E t → Region.wanted r.o (yielded all t) = true) → r.o.op = .load t a → { st0 with env := E }.ev a = some (.ptr b p) → cellsOf C t = some m →
      (∀ i, i < r.lo → Ht.bl[i]? = some (heapF h0 all1 B i)) → Ht.bl.length = r.lo → loadT C Ht t (.ptr b p) = some r.v → r.hi = r.lo → (∀ b, r.out b = none) → r.rd = some (b, p, m) →
      (∀ q, q ∈ B → Ah all q.j r.j ∨ q.out b = none ∨ (b < q.lo ∧ ∀ o, p ≤ o → o < p + m → ∀ x, x ∈ q.wr → ¬ covers x b o)) → Kind C all st0 h0 r B E
  | run (hid : List Blk) (h' : Hp) : r.fell = false → (∀ w I μ t, ER C w I μ E t → Region.wanted r.o (yielded all t) = true) → hid.length = r.lo → OpRun C r.o { st0 with env := E, heap := ⟨hid, []⟩ } (.val r.v { st0 with env := E, heap := h' }) → r.hi = h'.bl.length → r.wr = h'.log →
      (∀ b, r.out b = if b < r.lo ∧ liveAt hid b = false then none else h'.bl[b]?) → (∀ b x, hid[b]? = some x → x.live = true → heapF h0 all1 B b = x) → Kind C all st0 h0 r B E
  | fell (hid : List Blk) (h' : Hp) : r.fell = true → (∀ w I μ t, ER C w I μ E t → Region.wanted r.o (yielded all t) = true) → hid.length = r.lo → OpRun C r.o { st0 with env := E, heap := ⟨hid, []⟩ } (.pan r.v { st0 with env := E, heap := h' }) → r.hi = h'.bl.length → r.wr = h'.log →
      (∀ b, r.out b = if b < r.lo ∧ liveAt hid b = false then none else h'.bl[b]?) → (∀ b x, hid[b]? = some x → x.live = true → heapF h0 all1 B b = x) → Kind C all st0 h0 r B E

def Looks (all : Array Oper) (o : Oper) (x : Nat) : Prop := x ∈ namesOf all o

structure Fact (C : Ctx) (all : Array Oper) (st0 : St) (h0 : Nat → Blk) (r : PR) (B : List PR) : Prop where
  at_ : all[r.j]? = some r.o
  dst : ∀ x, r.o.dst = some x → x < st0.nt
  lt : ∀ q, q ∈ B → q.j < r.j
  lo : r.lo = lenF st0.heap.bl.length B
  hi : r.lo ≤ r.hi
  outhi : ∀ b, r.hi ≤ b → r.out b = none
  kind : ∃ E, (∀ x a, E.get x = some a → envF st0.env.get all1 B x = some a ∧ Looks all r.o x) ∧ Kind C all st0 h0 r B E
  rdlt : ∀ b p m, r.rd = some (b, p, m) → b < r.lo
  touch : ∀ q, q ∈ B → ∀ b, q.out b ≠ none → r.out b ≠ none → Ah all q.j r.j
  rdok : ∀ q, q ∈ B → ∀ b p m, q.rd = some (b, p, m) → Ah all q.j r.j ∨ r.out b = none ∨ ∀ o, p ≤ o → o < p + m → ∀ x, x ∈ r.wr → ¬ covers x b o

inductive Facts (C : Ctx) (all : Array Oper) (st0 : St) (h0 : Nat → Blk) : List PR → Prop
  | nil : Facts C all st0 h0 []
  | cons (r : PR) (B : List PR) : Fact C all st0 h0 r B → Facts C all st0 h0 B → Facts C all st0 h0 (r :: B)

variable {h0 : Nat → Blk}

theorem Facts.tail {A B : List PR} (h : Facts C all st0 h0 (A ++ B)) : Facts C all st0 h0 B := by
  induction A with
  | nil => exact h
  | cons a A ih => cases h with | cons _ _ h1 h2 => exact ih h2

theorem Facts.at {A B : List PR} {r : PR} (h : Facts C all st0 h0 (A ++ r :: B)) : Fact C all st0 h0 r B := by
  have := h.tail
  cases this with | cons _ _ h1 h2 => exact h1

theorem Facts.later {A B : List PR} {r : PR} (h : Facts C all st0 h0 (A ++ r :: B)) {q : PR} (hq : q ∈ A) : ∃ B', Fact C all st0 h0 q B' ∧ r ∈ B' := by
  induction A with
  | nil => simp at hq
  | cons a A ih =>
    cases h with
    | cons _ _ h1 h2 =>
      rcases List.mem_cons.1 hq with rfl | hq
      · exact ⟨_, h1, by simp⟩
      · exact ih h2 hq

theorem Facts.later2 {A B : List PR} {r : PR} (h : Facts C all st0 h0 (A ++ r :: B)) {q : PR} (hq : q ∈ A) : ∃ B', Fact C all st0 h0 q B' ∧ r ∈ B' ∧ Facts C all st0 h0 B' := by
  induction A with
  | nil => simp at hq
  | cons a A ih =>
    cases h with
    | cons _ _ h1 h2 =>
      rcases List.mem_cons.1 hq with rfl | hq
      · exact ⟨_, h1, by simp, h2⟩
      · exact ih h2 hq

theorem Facts.mem {L : List PR} (h : Facts C all st0 h0 L) {q : PR} (hq : q ∈ L) : ∃ B', Fact C all st0 h0 q B' := by
  obtain ⟨A, B, rfl⟩ := List.append_of_mem hq
  exact ⟨B, h.at⟩

theorem Facts.hi_le {L : List PR} (h : Facts C all st0 h0 L) : st0.heap.bl.length ≤ lenF st0.heap.bl.length L ∧ ∀ q, q ∈ L → q.hi ≤ lenF st0.heap.bl.length L := by
  induction h with
  | nil => exact ⟨Nat.le_refl _, fun q hq => by simp at hq⟩
  | cons r B h1 h2 ih =>
    have e1 := h1.lo
    have e2 := h1.hi
    refine ⟨by show _ ≤ r.hi; omega, fun q hq => ?_⟩
    show q.hi ≤ r.hi
    rcases List.mem_cons.1 hq with rfl | hq
    · exact Nat.le_refl _
    · have := ih.2 q hq; omega

/- ## what S's operations left -/

theorem envF_split {e0 : Nat → Option AV} {S : Nat → Bool} {A B : List PR} {x : Nat} (h : ∀ q, q ∈ A → q.o.dst = some x → S q.j = false) : envF e0 S (A ++ B) x = envF e0 S B x := by
  induction A with
  | nil => rfl
  | cons a A ih =>
    simp only [List.cons_append, envF]
    rw [if_neg (fun hc => by rw [h a (by simp) hc.2] at hc; simp at hc)]
    exact ih fun q hq => h q (by simp [hq])

theorem envF_congr {e0 : Nat → Option AV} {S S' : Nat → Bool} {L : List PR} {x : Nat} (h : ∀ q, q ∈ L → q.o.dst = some x → S q.j = S' q.j) : envF e0 S L x = envF e0 S' L x := by
  induction L with
  | nil => rfl
  | cons a A ih =>
    simp only [envF]
    rw [ih fun q hq => h q (by simp [hq])]
    by_cases hd : a.o.dst = some x
    · rw [h a (by simp) hd]
    · simp [hd]

theorem heapF_split {S : Nat → Bool} {A B : List PR} {b : Nat} (h : ∀ q, q ∈ A → q.out b ≠ none → S q.j = false) : heapF h0 S (A ++ B) b = heapF h0 S B b := by
  induction A with
  | nil => rfl
  | cons a A ih =>
    simp only [List.cons_append, heapF]
    rw [ih fun q hq => h q (by simp [hq])]
    split
    · rename_i hs
      cases ho : a.out b with
      | none => rfl
      | some y =>
        have := h a (by simp) (by rw [ho]; simp)
        rw [hs] at this; simp at this
    · rfl

theorem heapF_congr {S S' : Nat → Bool} {L : List PR} {b : Nat} (h : ∀ q, q ∈ L → q.out b ≠ none → S q.j = S' q.j) : heapF h0 S L b = heapF h0 S' L b := by
  induction L with
  | nil => rfl
  | cons a A ih =>
    simp only [heapF]
    rw [ih fun q hq => h q (by simp [hq])]
    cases ho : a.out b with
    | none => simp
    | some y => rw [h a (by simp) (by rw [ho]; simp)]

/-- S with one more -/
def andS (S : Nat → Bool) (j : Nat) : Nat → Bool := fun i => S i || i == j

/-- what holds when the operations of S have been carried out -/
structure MInv (C : Ctx) (st0 : St) (h0 : Nat → Blk) (L : List PR) (N : Nat) (w0 : World) (I0 : Nat → Prop) (μ0 : Mu) (S : Nat → Bool) (w : World) (I : Nat → Prop) (μ : Mu) (b : Frame) (t : Array Value) (d : List Deferred) (fm : Option FrameMode) : Prop where
  post : Post C w0 I0 μ0 st0.heap.bl w I μ (heapL h0 S L N)
  er : ∀ x a, envF st0.env.get S L x = some a → ∃ v, t[x]? = some v ∧ VR C w I μ a v
  size : st0.nt ≤ t.size
  fresh : ∀ r, r ∈ L → S r.j = false → Fresh μ r.lo r.hi
  dr : DR C w I μ st0.defers d
  pan : PanR C w I μ b.kind fm st0.pan
  rnd : b.roundOf.isSome = st0.rnd

section step
variable {A B L : List PR} {r : PR} {N : Nat} {S : Nat → Bool}

/-- S, of which r is the next -/
structure Next1 (all : Array Oper) (S : Nat → Bool) (r : PR) : Prop where
  down : ∀ i j, S j = true → Ah all i j → S i = true
  out : S r.j = false
  pre : ∀ i, Ah all i r.j → S i = true

theorem env_agree (hs : Stat all) (hf : Facts C all st0 h0 (A ++ r :: B)) (hn : Next1 all S r) {x : Nat} (hx : Looks all r.o x) : envF st0.env.get S (A ++ r :: B) x = envF st0.env.get all1 B x := by
  have hr := hf.at
  have h1 : envF st0.env.get S (A ++ r :: B) x = envF st0.env.get S (r :: B) x := envF_split fun q hq hd => by
    obtain ⟨B', hq1, hq2⟩ := hf.later hq
    have hlt := hq1.lt r hq2
    have := hs.tmp q.j r.j q.o r.o x hq1.at_ hr.at_ hd (by omega) hx
    rw [Nat.min_eq_right (by omega), Nat.max_eq_left (by omega)] at this
    cases hS : S q.j with
    | false => rfl
    | true => have := hn.down _ _ hS this; rw [hn.out] at this; simp at this
  rw [h1]
  simp only [envF]
  rw [if_neg (fun hc => by rw [hn.out] at hc; simp at hc)]
  refine envF_congr fun q hq hd => ?_
  have hlt := hr.lt q hq
  have hfB : Facts C all st0 h0 B := by have := hf.tail; cases this with | cons _ _ _ h2 => exact h2
  obtain ⟨B', hq1⟩ := hfB.mem hq
  have := hs.tmp q.j r.j q.o r.o x hq1.at_ hr.at_ hd (by omega) hx
  rw [Nat.min_eq_left (by omega), Nat.max_eq_right (by omega)] at this
  rw [hn.pre _ this]; rfl

theorem env_after (hs : Stat all) (hf : Facts C all st0 h0 (A ++ r :: B)) (hn : Next1 all S r) (x : Nat) : envF st0.env.get (andS S r.j) (A ++ r :: B) x = if r.o.dst = some x then some r.v else envF st0.env.get S (A ++ r :: B) x := by
  have hr := hf.at
  have hne : ∀ q, q ∈ A ∨ q ∈ B → andS S r.j q.j = S q.j := fun q hq => by
    have : q.j ≠ r.j := by
      rcases hq with hq | hq
      · obtain ⟨B', hq1, hq2⟩ := hf.later hq
        have := hq1.lt r hq2; omega
      · have := hr.lt q hq; omega
    simp [andS, this]
  split
  · rename_i hd
    rw [envF_split (fun q hq hd' => ?_)]
    · simp only [envF]
      rw [if_pos ⟨by simp [andS], hd⟩]
    · rw [hne q (.inl hq)]
      obtain ⟨B', hq1, hq2⟩ := hf.later hq
      have hlt := hq1.lt r hq2
      have hx : Looks all r.o x := by unfold Looks namesOf; simp [hd]
      have := hs.tmp q.j r.j q.o r.o x hq1.at_ hr.at_ hd' (by omega) hx
      rw [Nat.min_eq_right (by omega), Nat.max_eq_left (by omega)] at this
      cases hS : S q.j with
      | false => rfl
      | true => have := hn.down _ _ hS this; rw [hn.out] at this; simp at this
  · rename_i hd
    refine envF_congr fun q hq hd' => ?_
    rcases List.mem_append.1 hq with hq | hq
    · exact hne q (.inl hq)
    · rcases List.mem_cons.1 hq with rfl | hq
      · exact absurd hd' hd
      · exact hne q (.inr hq)

/-- a later operation that touches a block that r touches is not among S -/
theorem later_out (hf : Facts C all st0 h0 (A ++ r :: B)) (hn : Next1 all S r) {b : Nat} (hb : r.out b ≠ none) {q : PR} (hq : q ∈ A) (ho : q.out b ≠ none) : S q.j = false := by
  obtain ⟨B', hq1, hq2⟩ := hf.later hq
  have := hq1.touch r hq2 b hb ho
  cases hS : S q.j with
  | false => rfl
  | true => have := hn.down _ _ hS this; rw [hn.out] at this; simp at this

theorem heap_agree (hf : Facts C all st0 h0 (A ++ r :: B)) (hn : Next1 all S r) {b : Nat} (hb : r.out b ≠ none) : heapF h0 S (A ++ r :: B) b = heapF h0 all1 B b := by
  rw [heapF_split fun q hq ho => later_out hf hn hb hq ho]
  simp only [heapF]
  rw [if_neg (by rw [hn.out]; simp)]
  refine heapF_congr fun q hq ho => ?_
  rw [hn.pre _ (hf.at.touch q hq b ho hb)]; rfl

theorem heap_after (hf : Facts C all st0 h0 (A ++ r :: B)) (hn : Next1 all S r) (b : Nat) : heapF h0 (andS S r.j) (A ++ r :: B) b = (r.out b).getD (heapF h0 S (A ++ r :: B) b) := by
  have hr := hf.at
  have hne : ∀ q, q ∈ A ∨ q ∈ B → andS S r.j q.j = S q.j := fun q hq => by
    have : q.j ≠ r.j := by
      rcases hq with hq | hq
      · obtain ⟨B', hq1, hq2⟩ := hf.later hq
        have := hq1.lt r hq2; omega
      · have := hr.lt q hq; omega
    simp [andS, this]
  cases ho : r.out b with
  | some y =>
    rw [heapF_split (fun q hq hq' => by rw [hne q (.inl hq)]; exact later_out hf hn (by rw [ho]; simp) hq hq')]
    simp only [heapF]
    rw [if_pos (by simp [andS]), ho]
    rfl
  | none =>
    refine heapF_congr fun q hq hq' => ?_
    rcases List.mem_append.1 hq with hq | hq
    · exact hne q (.inl hq)
    · rcases List.mem_cons.1 hq with rfl | hq
      · exact absurd ho hq'
      · exact hne q (.inr hq)

/-- r's new blocks are not there ahead of it -/
theorem heap_new (hh0 : ∀ b, st0.heap.bl.length ≤ b → (h0 b).live = false) (hf : Facts C all st0 h0 (A ++ r :: B)) (hn : Next1 all S r) {b : Nat} (hb : r.out b ≠ none) (h1 : r.lo ≤ b) : (heapF h0 S (A ++ r :: B) b).live = false := by
  have hr := hf.at
  have hfB : Facts C all st0 h0 B := by have := hf.tail; cases this with | cons _ _ _ h2 => exact h2
  have hle := hfB.hi_le
  have hlo := hr.lo
  rw [heap_agree hf hn hb]
  have key : ∀ B', (∀ q, q ∈ B' → q.out b = none) → heapF h0 all1 B' b = h0 b := fun B' => by
    induction B' with
    | nil => intro _; rfl
    | cons a B' ih =>
      intro h
      simp only [heapF, all1, if_true]
      rw [h a (by simp)]
      exact ih fun q hq => h q (by simp [hq])
  rw [key B fun q hq => ?_]
  · exact hh0 b (by omega)
  · obtain ⟨A2, B2, rfl⟩ := List.append_of_mem hq
    have hq1 := hfB.at
    exact hq1.outhi b (by have := hle.2 q hq; omega)

end step
end
end Go.Ev

