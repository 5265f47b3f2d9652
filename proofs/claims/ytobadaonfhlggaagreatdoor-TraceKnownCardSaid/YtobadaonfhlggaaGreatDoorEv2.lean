/- A part of the proof that a law returns true: EvDrawStep EvDrawLoop EvDrawText EvDrawMain EvDrawRun EvSound EvTab EvCtx EvSeg EvPiece EvMore EvPieceH EvMemo. -/
import Derived.Test.YtobadaonfhlggaaGreatDoorEv1
import GoSem.Claims
set_option linter.all false
set_option linter.unusedVariables false
set_option linter.unusedSimpArgs false
set_option linter.unnecessarySimpa false
/- A region that draws its order: one operation, in the machine. -/
namespace Go.Ev
open Go

def cellB (x : Blk) (o : Nat) : Option AV := match x with
  | .cells _ cs _ _ => match cs[o]? with
    | some y => y
    | none => none
  | _ => none

section
variable {C : Ctx} {all : Array Oper} {st0 : St} {h0 : Nat → Blk}

theorem cellOf_some {bl : List Blk} {b o : Nat} {x : Blk} (h : bl[b]? = some x) : cellOf bl b o = cellB x o := by
  unfold cellOf cellB
  rw [h]
  cases x <;> rfl

theorem liveAt_true {H : List Blk} {b : Nat} (h : liveAt H b = true) : ∃ x, H[b]? = some x ∧ x.live = true := by
  unfold liveAt at h
  split at h
  · rename_i x hx; exact ⟨x, hx, h⟩
  · simp at h

theorem liveAt_of {H : List Blk} {b : Nat} {x : Blk} (h : H[b]? = some x) (hl : x.live = true) : liveAt H b = true := by
  unfold liveAt; rw [h]; exact hl

/-- an operation leaves a cell that its record does not name -/
theorem fact_keeps {q : PR} {B : List PR} (hq : Fact C all st0 h0 q B) {b o : Nat} (hb : q.out b ≠ none) (hlt : b < q.lo) (hc : ∀ x, x ∈ q.wr → ¬ covers x b o) :
    cellB ((q.out b).getD (heapF h0 all1 B b)) o = cellB (heapF h0 all1 B b) o := by
  obtain ⟨E, _, hk⟩ := hq.kind
  cases hk with
  | skip _ _ _ _ ho => exact absurd (ho b) hb
  | ld _ _ _ _ _ _ _ _ _ _ _ _ _ _ _ ho _ _ => exact absurd (ho b) hb
  | run hid h' _ _ hl hop hhi hwr ho hh =>
    have hlv : liveAt hid b = true := by
      cases h : liveAt hid b with
      | true => rfl
      | false =>
        rw [ho, if_pos ⟨hlt, h⟩] at hb
        exact absurd rfl hb
    obtain ⟨x, hx, hxl⟩ := liveAt_true hlv
    rw [hh b x hx hxl, ho, if_neg (by rw [hlv]; simp)]
    obtain ⟨new, l1, l2, l3⟩ := hop.1
    simp only [List.append_nil] at l1
    have hbl : b < h'.bl.length := by
      have := (List.getElem?_eq_some_iff.1 hx).1
      simp only at l2; omega
    have := l3 b o (by simp only; omega) (fun y hy => hc y (by rw [hwr, l1]; exact hy))
    rw [List.getElem?_eq_getElem hbl, Option.getD_some]
    rw [← cellOf_some (List.getElem?_eq_getElem hbl), ← cellOf_some hx]
    exact this
  | fell hid h' _ _ hl hop hhi hwr ho hh =>
    have hlv : liveAt hid b = true := by
      cases h : liveAt hid b with
      | true => rfl
      | false =>
        rw [ho, if_pos ⟨hlt, h⟩] at hb
        exact absurd rfl hb
    obtain ⟨x, hx, hxl⟩ := liveAt_true hlv
    rw [hh b x hx hxl, ho, if_neg (by rw [hlv]; simp)]
    obtain ⟨new, l1, l2, l3⟩ := hop.1
    simp only [List.append_nil] at l1
    have hbl : b < h'.bl.length := by
      have := (List.getElem?_eq_some_iff.1 hx).1
      simp only at l2; omega
    have := l3 b o (by simp only; omega) (fun y hy => hc y (by rw [hwr, l1]; exact hy))
    rw [List.getElem?_eq_getElem hbl, Option.getD_some]
    rw [← cellOf_some (List.getElem?_eq_getElem hbl), ← cellOf_some hx]
    exact this

theorem chain_keeps {A B : List PR} {b o : Nat} (hf : Facts C all st0 h0 (A ++ B)) (hc : ∀ q, q ∈ A → q.out b ≠ none → b < q.lo ∧ ∀ x, x ∈ q.wr → ¬ covers x b o) :
    cellB (heapF h0 all1 (A ++ B) b) o = cellB (heapF h0 all1 B b) o := by
  induction A with
  | nil => rfl
  | cons a A ih =>
    have hf2 : Facts C all st0 h0 (A ++ B) := by cases hf with | cons _ _ _ h2 => exact h2
    have ha : Fact C all st0 h0 a (A ++ B) := by cases hf with | cons _ _ h1 _ => exact h1
    have := ih hf2 fun q hq => hc q (by simp [hq])
    simp only [List.cons_append, heapF, all1, if_true]
    rw [← this]
    cases ho : a.out b with
    | none => rfl
    | some y =>
      obtain ⟨c1, c2⟩ := hc a (by simp) (by rw [ho]; simp)
      have := fact_keeps ha (by rw [ho]; simp) c1 c2
      rw [ho] at this
      exact this

theorem prefix_split {L : List PR} {S : Nat → Bool} (hf : Facts C all st0 h0 L) (hd : ∀ i j, S j = true → Ah all i j → S i = true) (b : Nat) :
    ∃ A1 B1, L = A1 ++ B1 ∧ (∀ q, q ∈ A1 → q.out b ≠ none → S q.j = false) ∧ (∀ q, q ∈ B1 → q.out b ≠ none → S q.j = true) := by
  induction hf with
  | nil => exact ⟨[], [], rfl, fun q hq => by simp at hq, fun q hq => by simp at hq⟩
  | cons r B h1 h2 ih =>
    obtain ⟨A1, B1, e, g1, g2⟩ := ih
    by_cases hr : r.out b ≠ none ∧ S r.j = true
    · refine ⟨[], r :: B, rfl, fun q hq => by simp at hq, fun q hq ho => ?_⟩
      rcases List.mem_cons.1 hq with rfl | hq
      · exact hr.2
      · exact hd _ _ hr.2 (h1.touch q hq b ho hr.1)
    · refine ⟨r :: A1, B1, by rw [e]; rfl, fun q hq ho => ?_, g2⟩
      rcases List.mem_cons.1 hq with rfl | hq
      · cases hS : S q.j with
        | false => rfl
        | true => exact absurd ⟨ho, hS⟩ hr
      · exact g1 q hq ho

/-- the cells that a load reads are what they were in the text's run -/
theorem ld_cells {A B : List PR} {r : PR} {S : Nat → Bool} (hf : Facts C all st0 h0 (A ++ r :: B)) (hn : Next1 all S r) {b p m : Nat} (hb : b < r.lo) (hrd : r.rd = some (b, p, m)) (hout : ∀ b, r.out b = none)
    (hck : ∀ q, q ∈ B → Ah all q.j r.j ∨ q.out b = none ∨ (b < q.lo ∧ ∀ o, p ≤ o → o < p + m → ∀ x, x ∈ q.wr → ¬ covers x b o)) {o : Nat} (h1 : p ≤ o) (h2 : o < p + m) :
    cellB (heapF h0 S (A ++ r :: B) b) o = cellB (heapF h0 all1 B b) o := by
  obtain ⟨A1, B1, e, g1, g2⟩ := prefix_split hf hn.down b
  have hS : heapF h0 S (A ++ r :: B) b = heapF h0 all1 B1 b := by
    rw [e, heapF_split g1]
    exact heapF_congr fun q hq ho => by rw [g2 q hq ho]; rfl
  rw [hS]
  have hr := hf.at
  have skip : heapF h0 all1 (r :: B) b = heapF h0 all1 B b := by simp [heapF, all1, hout b]
  have back : ∀ A3, B = A3 ++ B1 → (∀ q, q ∈ A3 → q.out b ≠ none → S q.j = false) → cellB (heapF h0 all1 B1 b) o = cellB (heapF h0 all1 B b) o := fun A3 hB hq3 => by
    have hfB : Facts C all st0 h0 B := by have := hf.tail; cases this with | cons _ _ _ h2 => exact h2
    rw [hB] at hfB ⊢
    refine (chain_keeps hfB fun q hq ho => ?_).symm
    rcases hck q (by rw [hB]; simp [hq]) with h | h | h
    · have := hn.pre _ h
      rw [hq3 q hq ho] at this; simp at this
    · exact absurd h ho
    · exact ⟨h.1, h.2 o h1 h2⟩
  rcases List.append_eq_append_iff.1 e with ⟨a', e1, e2⟩ | ⟨c', e1, e2⟩
  · cases a' with
    | nil =>
      simp only [List.nil_append] at e2
      rw [← e2, skip]
    | cons x A3 =>
      simp only [List.cons_append, List.cons.injEq] at e2
      obtain ⟨rfl, e2⟩ := e2
      exact back A3 e2 fun q hq ho => g1 q (by rw [e1]; simp [hq]) ho
  · have hB1 : Facts C all st0 h0 (c' ++ r :: B) := by rw [← e2]; rw [e] at hf; exact hf.tail
    rw [e2, chain_keeps hB1 fun q hq ho => ?_, skip]
    obtain ⟨B', k1, k2, k3⟩ := hB1.later2 hq
    have hSq := g2 q (by rw [e2]; simp [hq]) ho
    refine ⟨?_, ?_⟩
    · have := k3
      have := this.hi_le.2 r k2
      have := k1.lo
      have := hr.hi
      omega
    · rcases k1.rdok r k2 b p m hrd with h | h | h
      · have := hn.down _ _ hSq h
        rw [hn.out] at this; simp at this
      · exact absurd h ho
      · exact h o h1 h2

section step
variable {w0 : World} {I0 : Nat → Prop} {μ0 : Mu} {A B : List PR} {r : PR} {N : Nat} {S : Nat → Bool} {w : World} {I : Nat → Prop} {μ : Mu} {b : Frame} {t : Array Value} {d : List Deferred} {fm : Option FrameMode}

theorem MInv.envR (M : MInv C st0 h0 (A ++ r :: B) N w0 I0 μ0 S w I μ b t d fm) (hs : Stat all) (hf : Facts C all st0 h0 (A ++ r :: B)) (hn : Next1 all S r) {E : Tr} (hE : ∀ x a, E.get x = some a → envF st0.env.get all1 B x = some a ∧ Looks all r.o x) : ER C w I μ E t := fun x a hx => by
  obtain ⟨h1, h2⟩ := hE x a hx
  rw [← env_agree hs hf hn h2] at h1
  exact M.er x a h1

/-- other operations' blocks are others -/
theorem disjoint (hf : Facts C all st0 h0 (A ++ r :: B)) {q : PR} (hq : q ∈ A ++ r :: B) (hne : q.j ≠ r.j) : r.hi ≤ q.lo ∨ q.hi ≤ r.lo := by
  rcases List.mem_append.1 hq with hq | hq
  · obtain ⟨B', k1, k2, k3⟩ := hf.later2 hq
    have := k3.hi_le.2 r k2
    have := k1.lo
    exact .inl (by omega)
  · rcases List.mem_cons.1 hq with rfl | hq
    · exact absurd rfl hne
    · have hfB : Facts C all st0 h0 B := by have := hf.tail; cases this with | cons _ _ _ h2 => exact h2
      have := hfB.hi_le.2 q hq
      have := hf.at.lo
      exact .inr (by omega)

/-- the memory behind an operation of which the memory ahead is known -/
theorem merge_post (hle : r.hi ≤ N) (M : Post C w0 I0 μ0 st0.heap.bl w I μ (heapL h0 S (A ++ r :: B) N)) (hf : Facts C all st0 h0 (A ++ r :: B)) (hn : Next1 all S r)
    {hid : List Blk} {Hout : List Blk} {w' : World} {I' : Nat → Prop} {μ' : Mu} (hl : hid.length = r.lo) (hhi : r.hi = Hout.length) (ho : ∀ b, r.out b = if b < r.lo ∧ liveAt hid b = false then none else Hout[b]?)
    (hh : ∀ b x, hid[b]? = some x → x.live = true → heapF h0 all1 B b = x) (hlen : r.lo ≤ r.hi) (p : Post C w I μ hid w' I' μ' Hout) (hfr : Fresh μ r.lo r.hi) :
    Post C w0 I0 μ0 st0.heap.bl w' I' μ' (heapL h0 (andS S r.j) (A ++ r :: B) N) ∧ HR C w I μ hid := by
  have hfB : Facts C all st0 h0 B := by have := hf.tail; cases this with | cons _ _ _ h2 => exact h2
  have hlo := hf.at.lo
  have hle0 := hfB.hi_le.1
  have hout1 : ∀ b, b < r.hi → (r.out b ≠ none ↔ ¬ (b < r.lo ∧ liveAt hid b = false)) := fun b hb => by
    rw [ho]
    split
    · rename_i h; simp [h]
    · rename_i h; rw [List.getElem?_eq_getElem (by omega)]; simp [h]
  have hin : ∀ (b : Nat) (x : Blk), hid[b]? = some x → x.live = true → (heapL h0 S (A ++ r :: B) N)[b]? = some x := fun b x hb hx => by
    have hbl := (List.getElem?_eq_some_iff.1 hb).1
    rw [heapL_get, if_pos (by omega), heap_agree hf hn ((hout1 b (by omega)).2 (by rw [liveAt_of hb hx]; simp)), hh b x hb hx]
  refine ⟨post_frame M p (by simp [heapL]) (by simp [heapL]) hl hhi.symm hle (by omega) hin (fun b x hb hx => ?_) hfr, M.hr.mask hin⟩
  rw [heapL_get] at hb
  split at hb
  · rename_i hbN
    rw [heap_after hf hn] at hb
    cases hro : r.out b with
    | some y =>
      rw [hro] at hb
      have hy := Option.some.inj hb
      simp only [Option.getD_some] at hy
      subst hy
      rw [ho] at hro
      split at hro
      · simp at hro
      · rename_i hc
        have hbl := (List.getElem?_eq_some_iff.1 hro).1
        refine .inl ⟨hro, ?_⟩
        by_cases hb2 : b < r.lo
        · refine .inl ?_
          cases hv : liveAt hid b with
          | true => exact liveAt_true hv
          | false => exact absurd ⟨hb2, hv⟩ hc
        · exact .inr (by omega)
    | none =>
      rw [hro] at hb
      simp only [Option.getD_none] at hb
      refine .inr ⟨by rw [heapL_get, if_pos hbN]; exact hb, fun hc => ?_, ?_⟩
      · have := (hout1 b hc.2).2 (by omega)
        exact this hro
      · rintro ⟨y, hy1, hy2⟩
        have hbl := (List.getElem?_eq_some_iff.1 hy1).1
        exact (hout1 b (by omega)).2 (by rw [liveAt_of hy1 hy2]; simp) hro
  · simp at hb

theorem draw_step (hs : Stat all) (hf : Facts C all st0 h0 (A ++ r :: B)) (hn : Next1 all S r) (hnf : r.fell = false) (hN : r.hi ≤ N) (M : MInv C st0 h0 (A ++ r :: B) N w0 I0 μ0 S w I μ b t d fm) :
    ∃ w' I' μ' cv d', MInv C st0 h0 (A ++ r :: B) N w0 I0 μ0 (andS S r.j) w' I' μ' b (putT t r.o.dst cv) d' fm ∧
      ∀ rest k cs, Top cs fm → Steps C.P (lone (mk b t (.inRegion all (r.j :: rest) :: k) d) cs w) (lone (mk b (putT t r.o.dst cv) (.inRegion all rest :: k) d') cs w') := by
  have hr := hf.at
  obtain ⟨E, hE, hk⟩ := hr.kind
  have hER := M.envR hs hf hn hE
  -- the temporaries behind it
  have env' : ∀ {w' : World} {I' : Nat → Prop} {μ' : Mu} {cv : Value}, (∀ cb, I cb → I' cb) → (∀ cb, I cb → w'.heap[cb]? = w.heap[cb]?) → (∀ b L, μ b = some L → μ' b = some L) → VR C w' I' μ' r.v cv →
      ∀ x a, envF st0.env.get (andS S r.j) (A ++ r :: B) x = some a → ∃ v, (putT t r.o.dst cv)[x]? = some v ∧ VR C w' I' μ' a v := fun {w' I' μ' cv} m1 m2 m3 hv x a hx => by
    rw [env_after hs hf hn] at hx
    split at hx
    · rename_i hd
      cases hx
      have hxt : x < t.size := Nat.lt_of_lt_of_le (hr.dst x hd) M.size
      refine ⟨cv, ?_, hv⟩
      rw [hd]
      simp only [putT]
      rw [Array.getElem?_setIfInBounds_self_of_lt hxt]
    · rename_i hd
      obtain ⟨u, h1, h2⟩ := M.er x a hx
      refine ⟨u, ?_, h2.mono m1 m2 m3⟩
      cases hdd : r.o.dst with
      | none => exact h1
      | some y =>
        simp only [putT]
        rw [Array.getElem?_setIfInBounds_ne (fun e => hd (by rw [hdd, e]))]
        exact h1
  have fresh' : ∀ {μ' : Mu}, (∀ b, ¬ (r.lo ≤ b ∧ b < r.hi) → μ' b = μ b) → ∀ q, q ∈ A ++ r :: B → andS S r.j q.j = false → Fresh μ' q.lo q.hi := fun {μ'} hμ q hq hS i h1 h2 => by
    simp only [andS, Bool.or_eq_false_iff, beq_eq_false_iff_ne] at hS
    have := disjoint hf hq hS.2
    rw [hμ i (by omega)]
    exact M.fresh q hq hS.1 i h1 h2
  have same : (∀ b, r.out b = none) → heapL h0 (andS S r.j) (A ++ r :: B) N = heapL h0 S (A ++ r :: B) N := fun ho => by
    unfold heapL
    apply List.map_congr_left
    intro b _
    rw [heap_after hf hn, ho b]
    rfl
  cases hk with
  | fell _ _ hfl => rw [hnf] at hfl; simp at hfl
  | skip _ hw hv hhi ho =>
    refine ⟨w, I, μ, undef, d, ⟨by rw [same ho]; exact M.post, env' (fun _ h => h) (fun _ _ => rfl) (fun _ _ h => h) (by rw [hv]; exact .tuple _ _ _ (.nil _)), by rw [putT_size]; exact M.size, fresh' (fun _ _ => rfl), M.dr, M.pan, M.rnd⟩, fun rest k cs ht => ?_⟩
    have hst := st_op_skip (P := C.P) (b := b) (t := t) (d := d) (k := k) (cs := cs) (w := w) (ops := all) (i := r.j) (rest := rest) (by rw [hr.at_]; simp [hw w I μ t hER])
    rw [hr.at_] at hst
    exact .one hst
  | ld ty a bb p m Ht _ hw hop ha hm hH hHl hld hhi ho hrd hck =>
    have hbl : bb < r.lo := by
      rw [← hHl]
      unfold loadT at hld
      have key : ∀ n, getCells C Ht (.ptr bb p) n ≠ none → bb < Ht.bl.length := fun n h => by
        simp only [getCells] at h
        split at h
        · rename_i hb; exact (List.getElem?_eq_some_iff.1 hb).1
        · exact absurd rfl h
      split at hld
      · split at hld
        · rename_i hl; exact key _ (by rw [hl]; simp)
        · simp at hld
      · split at hld
        · rename_i hl; exact key _ (by rw [hl]; simp)
        · simp at hld
      · simp at hld
    have hcells : ∀ o, p ≤ o → o < p + m → cellOf (⟨heapL h0 S (A ++ r :: B) N, []⟩ : Hp).bl bb o = cellOf Ht.bl bb o := fun o h1 h2 => by
      have e1 : (heapL h0 S (A ++ r :: B) N)[bb]? = some (heapF h0 S (A ++ r :: B) bb) := by
        rw [heapL_get, if_pos]
        have := hr.hi; omega
      rw [cellOf_some e1, cellOf_some (hH bb hbl)]
      exact ld_cells hf hn hbl hrd ho hck h1 h2
    have hld2 := loadT_congr hld hm hcells
    obtain ⟨ad, u, q1, q2, q3⟩ := loadT_rel (H := ⟨heapL h0 S (A ++ r :: B) N, []⟩) M.post.hr hld2 (er_ev (st := { st0 with env := E }) d hER a _ ha)
    have hx : (execOp (⟨t, d⟩ : Act).eval r.o).run C.P w = .ok (.value u) w := by simp [execOp, hop, Instr.loadAt, q1, Instr.sureAddr, q2]
    refine ⟨w, I, μ, u, d, ⟨by rw [same ho]; exact M.post, env' (fun _ h => h) (fun _ _ => rfl) (fun _ _ h => h) q3, by rw [putT_size]; exact M.size, fresh' (fun _ _ => rfl), M.dr, M.pan, M.rnd⟩, fun rest k cs ht => ?_⟩
    exact .one (st_op_value hr.at_ (hw w I μ t hER) (.inr (no_defer hx (by simp))) hx (.inl rfl))
  | run hid h' _ hw hl hop hhi hwr ho hh =>
    obtain ⟨_, _, _, _, hop⟩ := hop
    have hfr := M.fresh r (by simp) hn.out
    have hfr' : Fresh μ hid.length h'.bl.length := by rw [hl, ← hhi]; exact hfr
    have hfB : Facts C all st0 h0 B := by have := hf.tail; cases this with | cons _ _ _ h2 => exact h2
    have hin : HR C w I μ hid := by
      refine M.post.hr.mask fun i x hb hx => ?_
      have hbl := (List.getElem?_eq_some_iff.1 hb).1
      have hrh := hr.hi
      rw [heapL_get, if_pos (by omega), heap_agree hf hn, hh i x hb hx]
      rw [ho, if_neg (by rw [liveAt_of hb hx]; simp), List.getElem?_eq_getElem (by omega)]
      simp
    obtain ⟨w', I', μ', cv, d', fm', p, hv, hd', hc, hst⟩ := hop w I μ b t d fm ⟨hin, er_ev d hER, M.dr, M.pan, M.rnd⟩ hfr'
    have hfm : fm' = fm := by
      rcases hc with ⟨q, _⟩ | ⟨v, cv, q1, q2, _⟩
      · exact q
      · have q1 : st0.pan = .live v := q1
        have q2 : st0.pan = .done := q2
        rw [q1] at q2; simp at q2
    subst hfm
    obtain ⟨pm, _⟩ := merge_post hN M.post hf hn hl hhi ho hh hr.hi p hfr
    have hμ : ∀ i, ¬ (r.lo ≤ i ∧ i < r.hi) → μ' i = μ i := fun i hi => p.mu i (by rw [hl, ← hhi]; omega)
    refine ⟨w', I', μ', cv, d', ⟨pm, env' p.sub (fun cb hi => p.imm hin hi) (p.grows hfr') hv, by rw [putT_size]; exact M.size, fresh' hμ, hd', M.pan.step hin p hfr' hc, M.rnd⟩, fun rest k cs ht => ?_⟩
    have := hst all r.j rest k cs ht hr.at_ (hw w I μ t hER)
    rw [setTop_self ht] at this
    exact this

/-- the operation that panics -/
theorem draw_fall (hs : Stat all) (hf : Facts C all st0 h0 (A ++ r :: B)) (hn : Next1 all S r) (hfl : r.fell = true) (hN : r.hi ≤ N) (M : MInv C st0 h0 (A ++ r :: B) N w0 I0 μ0 S w I μ b t d fm) :
    ∃ w' I' μ' cv, Post C w0 I0 μ0 st0.heap.bl w' I' μ' (heapL h0 (andS S r.j) (A ++ r :: B) N) ∧ (∀ x a, envF st0.env.get S (A ++ r :: B) x = some a → ∃ v, t[x]? = some v ∧ VR C w' I' μ' a v) ∧ DR C w' I' μ' st0.defers d ∧ VR C w' I' μ' r.v cv ∧
      ∀ rest k cs, Steps C.P (lone (mk b t (.inRegion all (r.j :: rest) :: k) d) cs w) (lone { mk b t (.inRegion all (r.j :: rest) :: k) d with mode := .panicking [live cv] } cs w') := by
  have hr := hf.at
  obtain ⟨E, hE, hk⟩ := hr.kind
  have hER := M.envR hs hf hn hE
  cases hk with
  | skip h => rw [hfl] at h; simp at h
  | ld _ _ _ _ _ _ h => rw [hfl] at h; simp at h
  | run _ _ h => rw [hfl] at h; simp at h
  | fell hid h' _ hw hl hop hhi hwr ho hh =>
    obtain ⟨_, _, _, _, hop⟩ := hop
    have hfr := M.fresh r (by simp) hn.out
    have hfr' : Fresh μ hid.length h'.bl.length := by rw [hl, ← hhi]; exact hfr
    have hin : HR C w I μ hid := by
      refine M.post.hr.mask fun i x hb hx => ?_
      have hbl := (List.getElem?_eq_some_iff.1 hb).1
      have hrh := hr.hi
      rw [heapL_get, if_pos (by omega), heap_agree hf hn, hh i x hb hx]
      rw [ho, if_neg (by rw [liveAt_of hb hx]; simp), List.getElem?_eq_getElem (by omega)]
      simp
    obtain ⟨w', I', μ', cv, p, hv, _, _, hst⟩ := hop w I μ b t d fm ⟨hin, er_ev d hER, M.dr, M.pan, M.rnd⟩ hfr'
    obtain ⟨pm, _⟩ := merge_post hN M.post hf hn hl hhi ho hh hr.hi p hfr
    refine ⟨w', I', μ', cv, pm, fun x a hx => ?_, M.dr.step hin p hfr', hv, fun rest k cs => hst all r.j rest k cs hr.at_ (hw w I μ t hER)⟩
    obtain ⟨u, h1, h2⟩ := M.er x a hx
    exact ⟨u, h1, h2.mono p.sub (fun cb hi => p.imm hin hi) (p.grows hfr')⟩

end step
end
end Go.Ev

/- A region that draws its order: every order of it, in the machine. -/
namespace Go.Ev
open Go

section
variable {C : Ctx} {all : Array Oper} {st0 : St} {h0 : Nat → Blk}

/-- where every order comes to: the end, or the panic of the one that panics -/
def Outcome (C : Ctx) (all : Array Oper) (st0 : St) (h0 : Nat → Blk) (L : List PR) (N : Nat) (w0 : World) (I0 : Nat → Prop) (μ0 : Mu) (w : World) (b : Frame) (t : Array Value) (d : List Deferred) (fm : Option FrameMode) (order : List Nat) : Prop :=
  (∃ S w' I' μ' t' d', MInv C st0 h0 L N w0 I0 μ0 S w' I' μ' b t' d' fm ∧ (∀ i, i < all.size → S i = true) ∧ (∀ F, F ∈ L → F.fell = false) ∧
    ∀ k cs, Top cs fm → Steps C.P (lone (mk b t (.inRegion all order :: k) d) cs w) (lone (mk b t' (.inRegion all [] :: k) d') cs w')) ∨
  (∃ S w' I' μ' t' d' A F B cv, L = A ++ F :: B ∧ F.fell = true ∧ Next1 all S F ∧ Post C w0 I0 μ0 st0.heap.bl w' I' μ' (heapL h0 (andS S F.j) L N) ∧ (∀ x a, envF st0.env.get S L x = some a → ∃ v, t'[x]? = some v ∧ VR C w' I' μ' a v) ∧
    st0.nt ≤ t'.size ∧ DR C w' I' μ' st0.defers d' ∧ VR C w' I' μ' F.v cv ∧
    ∀ k cs, Top cs fm → ∃ k', NoCall k' ∧ Steps C.P (lone (mk b t (.inRegion all order :: k) d) cs w) (lone { mk b t' k' d' with mode := .panicking [live cv] } cs w'))

theorem Outcome.step {L : List PR} {N : Nat} {w0 : World} {I0 : Nat → Prop} {μ0 : Mu} {w w1 : World} {b : Frame} {t t1 : Array Value} {d d1 : List Deferred} {fm : Option FrameMode} {i : Nat} {order : List Nat}
    (h : Outcome C all st0 h0 L N w0 I0 μ0 w1 b t1 d1 fm order)
    (hs : ∀ k cs, Top cs fm → Steps C.P (lone (mk b t (.inRegion all (i :: order) :: k) d) cs w) (lone (mk b t1 (.inRegion all order :: k) d1) cs w1)) : Outcome C all st0 h0 L N w0 I0 μ0 w b t d fm (i :: order) := by
  rcases h with ⟨S, w', I', μ', t', d', h1, h2, h3, h4⟩ | ⟨S, w', I', μ', t', d', A, F, B, cv, e1, e2, e3, e4, e5, e6, e7, e8, h4⟩
  · exact .inl ⟨S, w', I', μ', t', d', h1, h2, h3, fun k cs ht => (hs k cs ht).trans (h4 k cs ht)⟩
  · refine .inr ⟨S, w', I', μ', t', d', A, F, B, cv, e1, e2, e3, e4, e5, e6, e7, e8, fun k cs ht => ?_⟩
    obtain ⟨k', q1, q2⟩ := h4 k cs ht
    exact ⟨k', q1, (hs k cs ht).trans q2⟩

theorem filter_less {n i : Nat} {p q : Nat → Bool} (hi : i < n) (hp : p i = true) (hq : ∀ j, q j = (p j && !(j == i))) : ((List.range n).filter q).length + 1 = ((List.range n).filter p).length := by
  induction n with
  | zero => omega
  | succ n ih =>
    rw [List.range_succ, List.filter_append, List.filter_append, List.length_append, List.length_append]
    by_cases h : i = n
    · subst h
      have h1 : (List.range i).filter q = (List.range i).filter p := List.filter_congr fun x hx => by
        have : x < i := by simpa using hx
        rw [hq]
        have : (x == i) = false := by simp; omega
        simp [this]
      have hqi : q i = false := by rw [hq]; simp
      simp [List.filter_cons, h1, hqi, hp]
    · have := ih (by omega)
      have hqn : q n = p n := by
        rw [hq]
        have : (n == i) = false := by simp; omega
        simp [this]
      simp only [List.filter_cons, hqn, List.filter_nil]
      omega

theorem draw_loop (hs : Stat all) {L : List PR} {N : Nat} {w0 : World} {I0 : Nat → Prop} {μ0 : Mu} {b : Frame} {fm : Option FrameMode} (hf : Facts C all st0 h0 L) (hN : lenF st0.heap.bl.length L ≤ N) {dead : Nat → Prop}
    (hdead : ∀ i, dead i → ∃ d, Ah all d i ∧ (dead d ∨ ∃ F, F ∈ L ∧ F.fell = true ∧ F.j = d)) (cover : ∀ i, i < all.size → (∃ r, r ∈ L ∧ r.j = i) ∨ dead i) :
    ∀ (fuel tape : Nat) (listed : Array Bool) (w : World) (I : Nat → Prop) (μ : Mu) (t : Array Value) (d : List Deferred), listed.size = all.size →
      (∀ k o e, listed.getD k false = true → all[k]? = some o → e ∈ o.after.toList → Region.binds .any e = true → listed.getD e.on false = true) →
      (∀ i, listed.getD i false = true → ¬ dead i) → (∀ F, F ∈ L → F.fell = true → listed.getD F.j false = false) →
      ((List.range all.size).filter fun i => !listed.getD i false).length = fuel → MInv C st0 h0 L N w0 I0 μ0 (fun i => listed.getD i false) w I μ b t d fm →
      Outcome C all st0 h0 L N w0 I0 μ0 w b t d fm (Region.linearise.go .any all fuel tape listed []) := by
  intro fuel
  induction fuel with
  | zero =>
    intro tape listed w I μ t d hsz hcl hnd hnf hlen M
    have hall : ∀ i, i < all.size → listed.getD i false = true := fun i hi => by
      have hnil := List.length_eq_zero_iff.1 hlen
      rw [List.filter_eq_nil_iff] at hnil
      have := hnil i (by simpa using hi)
      simpa using this
    refine .inl ⟨_, w, I, μ, t, d, M, hall, fun F hF => ?_, fun k cs ht => .refl _ _⟩
    cases hfl : F.fell with
    | false => rfl
    | true =>
      obtain ⟨B', hFf⟩ := hf.mem hF
      have := hall F.j (Array.getElem?_eq_some_iff.1 hFf.at_).1
      rw [hnf F hF hfl] at this
      simp at this
  | succ fuel ih =>
    intro tape listed w I μ t d hsz hcl hnd hnf hlen M
    simp only [Region.linearise.go]
    change Outcome C all st0 h0 L N w0 I0 μ0 w b t d fm (match (Region.ready .any all listed)[tape % (Region.ready .any all listed).length]? with
      | some i => Region.linearise.go .any all fuel (tape / (Region.ready .any all listed).length) (listed.setIfInBounds i true) [i]
      | none => [].reverse)
    have hready : Region.ready .any all listed ≠ [] := by
      -- the first that is not listed
      have hex : ∃ i, i < all.size ∧ listed.getD i false = false := by
        have hne : ((List.range all.size).filter fun i => !listed.getD i false) ≠ [] := fun h => by rw [h] at hlen; simp at hlen
        obtain ⟨i, hi⟩ := List.exists_mem_of_ne_nil _ hne
        rw [List.mem_filter] at hi
        exact ⟨i, by simpa using hi.1, by simpa using hi.2⟩
      have hmin : ∃ i, (i < all.size ∧ listed.getD i false = false) ∧ ∀ j, j < i → ¬ (j < all.size ∧ listed.getD j false = false) := by
        obtain ⟨i, hi⟩ := hex
        induction i using Nat.strongRecOn with
        | _ i ih2 =>
          by_cases h : ∃ j, j < i ∧ (j < all.size ∧ listed.getD j false = false)
          · obtain ⟨j, h1, h2⟩ := h
            exact ih2 j h1 h2
          · exact ⟨i, hi, fun j hj hc => h ⟨j, hj, hc⟩⟩
      obtain ⟨i, ⟨hi1, hi2⟩, hi3⟩ := hmin
      have hmem : i ∈ Region.ready .any all listed := by
        rw [mem_ready]
        refine ⟨?_, all[i], Array.getElem?_eq_getElem hi1, fun e he hb => ?_⟩
        · have hil : i < listed.size := by omega
          rw [Array.getD_eq_getD_getElem?, Array.getElem?_eq_getElem hil] at hi2 ⊢
          exact hi2
        · have hlt := hs.back i all[i] e (Array.getElem?_eq_getElem hi1) (by simpa using he) hb
          cases hc : listed.getD e.on false with
          | true => rfl
          | false => exact absurd ⟨by omega, hc⟩ (hi3 e.on hlt)
      intro h
      rw [h] at hmem
      simp at hmem
    cases hi : (Region.ready .any all listed)[tape % (Region.ready .any all listed).length]? with
    | none =>
      exfalso
      have hpos : 0 < (Region.ready .any all listed).length := List.length_pos_iff.2 hready
      have hlt : tape % (Region.ready .any all listed).length < (Region.ready .any all listed).length := Nat.mod_lt _ hpos
      rw [List.getElem?_eq_getElem hlt] at hi
      simp at hi
    | some i =>
      simp only []
      rw [linearise_go_acc, List.reverse_singleton, List.singleton_append]
      obtain ⟨g1, o, g2, g3⟩ := mem_ready.1 (List.mem_of_getElem? hi)
      have hisz : i < all.size := (Array.getElem?_eq_some_iff.1 g2).1
      have hil : i < listed.size := by omega
      have hout : listed.getD i false = false := by
        rw [Array.getD_eq_getD_getElem?, Array.getElem?_eq_getElem hil] at g1 ⊢
        exact g1
      have hpre : ∀ x, Ah all x i → listed.getD x false = true := hs.down (S := fun i => listed.getD i false) (fun k o' e _ hk ho he hb => hcl k o' e hk ho he hb) (fun o' e ho he hb => by
        rw [g2] at ho; cases ho
        exact g3 e (by simpa using he) hb)
      have hdown : ∀ x j, listed.getD j false = true → Ah all x j → listed.getD x false = true := fun x j hj hx =>
        hs.down (S := fun i => listed.getD i false) (j := j) (fun k o' e _ hk ho he hb => hcl k o' e hk ho he hb) (fun o' e ho he hb => hcl j o' e hj ho he hb) x hx
      have hnd' : ¬ dead i := fun hdi => by
        obtain ⟨x, hx1, hx2⟩ := hdead i hdi
        have := hpre x hx1
        rcases hx2 with hx2 | ⟨F, hF1, hF2, hF3⟩
        · exact hnd x this hx2
        · rw [← hF3, hnf F hF1 hF2] at this; simp at this
      obtain ⟨r, hr1, hr2⟩ := (cover i hisz).resolve_right hnd'
      subst hr2
      obtain ⟨A, B, hL⟩ := List.append_of_mem hr1
      subst hL
      have hn : Next1 all (fun i => listed.getD i false) r := ⟨fun x j hj hx => hdown x j hj hx, hout, fun x hx => hpre x hx⟩
      have hrN : r.hi ≤ N := Nat.le_trans (hf.hi_le.2 r hr1) hN
      cases hfl : r.fell with
      | true =>
        obtain ⟨w', I', μ', cv, p, he, hdr, hv, hst⟩ := draw_fall hs hf hn hfl hrN M
        exact .inr ⟨_, w', I', μ', t, d, A, r, B, cv, rfl, hfl, hn, p, he, M.size, hdr, hv, fun k cs ht => ⟨_, fun _ _ _ _ _ h => by simp at h, hst _ k cs⟩⟩
      | false =>
        obtain ⟨w', I', μ', cv, d', M', hst⟩ := draw_step hs hf hn hfl hrN M
        have hS : andS (fun i => listed.getD i false) r.j = fun i => (listed.setIfInBounds r.j true).getD i false := by
          funext x
          simp only [andS]
          by_cases hx : r.j = x
          · subst hx
            simp [hil]
          · rw [getD_set_ne false hx]
            have : (x == r.j) = false := by simp; omega
            simp [this]
        rw [hS] at M'
        have hget : ∀ x, (listed.setIfInBounds r.j true).getD x false = (listed.getD x false || x == r.j) := fun x => (congrFun hS x).symm
        refine Outcome.step (ih _ _ w' I' μ' _ d' (by simpa using hsz) (fun k o' e hk ho he hb => ?_) (fun x hx => ?_) (fun F hF hFf => ?_) ?_ M') (fun k cs ht => hst _ k cs ht)
        · rw [hget] at hk ⊢
          simp only [Bool.or_eq_true, beq_iff_eq] at hk ⊢
          rcases hk with hk | rfl
          · exact .inl (hcl k o' e hk ho he hb)
          · rw [g2] at ho; cases ho
            exact .inl (g3 e (by simpa using he) hb)
        · rw [hget] at hx
          simp only [Bool.or_eq_true, beq_iff_eq] at hx
          rcases hx with hx | rfl
          · exact hnd x hx
          · exact hnd'
        · rw [hget, hnf F hF hFf]
          simp only [Bool.false_or, beq_eq_false_iff_ne]
          intro e
          -- the indices of the list's operations differ
          have : F = r := by
            rcases List.mem_append.1 hF with hF | hF
            · obtain ⟨B', q1, q2⟩ := hf.later hF
              have := q1.lt r q2; omega
            · rcases List.mem_cons.1 hF with rfl | hF
              · rfl
              · have := hf.at.lt F hF; omega
          subst this
          rw [hfl] at hFf; simp at hFf
        · have := filter_less (n := all.size) (i := r.j) (p := fun i => !listed.getD i false) (q := fun i => !(listed.setIfInBounds r.j true).getD i false) hisz (by simp only [hout]; rfl) (fun x => by
            simp only [hget]
            cases listed.getD x false <;> simp)
          omega

end
end Go.Ev

/- A region that draws its order: what the run in the text's order gathers. -/
namespace Go.Ev
open Go

section
variable {C : Ctx} {all : Array Oper} {st0 : St} {h0 : Nat → Blk}

/- ## small things -/

theorem hide_get (lo hi : Nat) : ∀ (H : List Blk) (i b : Nat), (hide lo hi i H)[b]? = if lo ≤ i + b ∧ i + b < hi then (H[b]?).map (fun _ => .dead) else H[b]? := fun H => by
  induction H with
  | nil => intro i b; simp [hide]
  | cons x xs ih =>
    intro i b
    cases b with
    | zero =>
      simp only [hide, List.getElem?_cons_zero, Nat.add_zero]
      by_cases h1 : lo ≤ i <;> by_cases h2 : i < hi <;> simp [h1, h2]
    | succ b =>
      simp only [hide, List.getElem?_cons_succ]
      rw [ih, show i + 1 + b = i + (b + 1) by omega]

theorem hide_length (lo hi : Nat) : ∀ (H : List Blk) (i : Nat), (hide lo hi i H).length = H.length := fun H => by
  induction H with
  | nil => intro i; rfl
  | cons x xs ih => intro i; simp [hide, ih]

theorem hideAll_length (s : Nat) (recs : List Rec) (H : List Blk) : (hideAll s recs H).length = H.length := by
  unfold hideAll
  induction recs generalizing H with
  | nil => rfl
  | cons r recs ih =>
    simp only [List.foldl_cons]
    rw [ih]
    cases (ahead s r.j || r.lo == r.hi) <;> simp [hide_length]

theorem hideAll_live {s : Nat} {recs : List Rec} {H : List Blk} {b : Nat} {x : Blk} (h : (hideAll s recs H)[b]? = some x) (hx : x.live = true) : H[b]? = some x ∧ ∀ r, r ∈ recs → ahead s r.j = false → ¬ (r.lo ≤ b ∧ b < r.hi) := by
  unfold hideAll at h
  induction recs generalizing H with
  | nil => exact ⟨h, fun r hr => by simp at hr⟩
  | cons r recs ih =>
    simp only [List.foldl_cons] at h
    obtain ⟨h1, h2⟩ := ih h
    cases hc : (ahead s r.j || r.lo == r.hi) with
    | true =>
      rw [hc] at h1
      refine ⟨h1, fun q hq ha => ?_⟩
      rcases List.mem_cons.1 hq with rfl | hq
      · rw [ha] at hc
        simp at hc
        omega
      · exact h2 q hq ha
    | false =>
      rw [hc] at h1
      simp only [cond_false] at h1
      rw [hide_get] at h1
      simp only [Nat.zero_add] at h1
      split at h1
      · cases hH : H[b]? with
        | none => rw [hH] at h1; simp at h1
        | some y => rw [hH] at h1; simp at h1; subst h1; simp [Blk.live] at hx
      · rename_i hn
        refine ⟨h1, fun q hq ha => ?_⟩
        rcases List.mem_cons.1 hq with rfl | hq
        · exact hn
        · exact h2 q hq ha

theorem hideAll_out {s : Nat} {recs : List Rec} {H : List Blk} {b : Nat} (h : ∀ r, r ∈ recs → b < r.lo) : (hideAll s recs H)[b]? = H[b]? := by
  unfold hideAll
  induction recs generalizing H with
  | nil => rfl
  | cons r recs ih =>
    simp only [List.foldl_cons]
    rw [ih (fun q hq => h q (by simp [hq]))]
    have := h r (by simp)
    cases (ahead s r.j || r.lo == r.hi) with
    | true => rfl
    | false =>
      simp only [cond_false]
      rw [hide_get, if_neg (by omega)]

theorem unhide_get (H : List Blk) : ∀ (hid Hn : List Blk) (b : Nat), hid.length = H.length → H.length ≤ Hn.length → (unhide H hid Hn)[b]? = if b < H.length ∧ liveAt hid b = false then H[b]? else Hn[b]? := by
  induction H with
  | nil =>
    intro hid Hn b h1 h2
    cases hid with
    | nil => cases Hn <;> simp [unhide]
    | cons => simp at h1
  | cons x xs ih =>
    intro hid Hn b h1 h2
    cases hid with
    | nil => simp at h1
    | cons y ys =>
      cases Hn with
      | nil => simp at h2
      | cons z zs =>
        have ih := fun b => ih ys zs b (by simpa using h1) (by simpa using h2)
        cases b with
        | zero => cases y <;> simp [unhide, liveAt, Blk.live]
        | succ b =>
          have e : liveAt (y :: ys) (b + 1) = liveAt ys b := by simp [liveAt]
          cases y <;> simp only [unhide, List.getElem?_cons_succ, List.length_cons, e, Nat.add_lt_add_iff_right] <;> exact ih b

theorem unhide_length (H : List Blk) : ∀ (hid Hn : List Blk), H.length ≤ Hn.length → (unhide H hid Hn).length = Hn.length := by
  induction H with
  | nil => intro hid Hn h; cases hid <;> cases Hn <;> rfl
  | cons x xs ih =>
    intro hid Hn h
    cases Hn with
    | nil => simp at h
    | cons z zs =>
      cases hid with
      | nil => rfl
      | cons y ys =>
        have := ih ys zs (by simpa using h)
        cases y <;> simp [unhide, this]

theorem apart_un {b p m : Nat} {wr : List (Nat × Nat × Nat)} (h : apartAll (b, p, m) wr = true) : ∀ o, p ≤ o → o < p + m → ∀ x, x ∈ wr → ¬ covers x b o := fun o h1 h2 x hx hc => by
  unfold apartAll at h
  rw [List.all_eq_true] at h
  have := h x hx
  unfold apartW at this
  obtain ⟨c1, c2⟩ := hc
  simp only [Bool.or_eq_true, Bool.not_eq_true', beq_eq_false_iff_ne, Bool.and_eq_true, decide_eq_true_eq] at this
  rcases this with h3 | ⟨h3, h4⟩
  · exact h3 c1.symm
  · rcases c2 with c2 | c2
    · exact h3 c2
    · omega

theorem envOf_get {t : Tr} {o : Oper} {x : Nat} {a : AV} (h : (envOf all t o).get x = some a) : t.get x = some a ∧ Looks all o x := by
  have hput : ∀ (e : Tr) (i : Nat), (putIf t e i).get x = some a → e.get x = some a ∨ (i = x ∧ t.get x = some a) := fun e i h => by
    unfold putIf at h
    split at h
    · rename_i v hv
      rw [Tr.get_set] at h
      split at h
      · rename_i e'; exact .inr ⟨e', by rw [← e', hv]; exact h⟩
      · exact .inl h
    · exact .inl h
  have hops : ∀ (l : List Operand) (e : Tr), (l.foldl (fun e x => match x with | .tmp i => putIf t e i | _ => e) e).get x = some a → e.get x = some a ∨ (.tmp x ∈ l ∧ t.get x = some a) := fun l => by
    induction l with
    | nil => intro e h; exact .inl h
    | cons y l ih =>
      intro e h
      simp only [List.foldl_cons] at h
      rcases ih _ h with h1 | ⟨h1, h2⟩
      · cases y with
        | tmp i =>
          rcases hput e i h1 with h2 | ⟨rfl, h2⟩
          · exact .inl h2
          · exact .inr ⟨by simp, h2⟩
        | _ => exact .inl h1
      · exact .inr ⟨by simp [h1], h2⟩
  have hops' : ∀ (e : Tr), (o.op.operands.foldl (fun e x => match x with | .tmp i => putIf t e i | _ => e) e).get x = some a → e.get x = some a ∨ (.tmp x ∈ o.op.operands.toList ∧ t.get x = some a) := fun e h => by
    rw [← Array.foldl_toList] at h
    exact hops _ e h
  have hlook : .tmp x ∈ o.op.operands.toList → Looks all o x := fun h => by
    unfold Looks namesOf
    simp only [List.mem_append, List.mem_filterMap]
    exact .inl (.inr ⟨.tmp x, h, rfl⟩)
  have hnil : (Tr.nil).get x = none := rfl
  unfold envOf at h
  simp only at h
  split at h
  · rename_i g want hg
    split at h
    · rename_i d hd
      rcases hput _ d h with h1 | ⟨rfl, h1⟩
      · rcases hops' _ h1 with h2 | ⟨h2, h3⟩
        · rw [hnil] at h2; simp at h2
        · exact ⟨h3, hlook h2⟩
      · refine ⟨h1, ?_⟩
        unfold Looks namesOf
        simp [hg, hd]
    · rcases hops' _ h with h2 | ⟨h2, h3⟩
      · rw [hnil] at h2; simp at h2
      · exact ⟨h3, hlook h2⟩
  · rcases hops' _ h with h2 | ⟨h2, h3⟩
    · rw [hnil] at h2; simp at h2
    · exact ⟨h3, hlook h2⟩

/- ## the run in the text's order -/

/-- the evaluator's record and the proof's -/
structure RR (q : Rec) (r : PR) : Prop where
  j : q.j = r.j
  lo : q.lo = r.lo
  hi : q.hi = r.hi
  rd : q.rd = r.rd
  wr : q.heavy = true → q.wr = r.wr
  pl : q.heavy = false → ∀ b, b < r.lo → r.out b = none

inductive RRs : List Rec → List PR → Prop
  | nil : RRs [] []
  | cons (q : Rec) (r : PR) (qs : List Rec) (rs : List PR) : RR q r → RRs qs rs → RRs (q :: qs) (r :: rs)

theorem RRs.of {qs : List Rec} {rs : List PR} (h : RRs qs rs) {r : PR} (hr : r ∈ rs) : ∃ q, q ∈ qs ∧ RR q r := by
  induction h with
  | nil => simp at hr
  | cons q r' qs rs h1 _ ih =>
    rcases List.mem_cons.1 hr with rfl | hr
    · exact ⟨q, by simp, h1⟩
    · obtain ⟨q', k1, k2⟩ := ih hr; exact ⟨q', by simp [k1], k2⟩

theorem RRs.to {qs : List Rec} {rs : List PR} (h : RRs qs rs) {q : Rec} (hq : q ∈ qs) : ∃ r, r ∈ rs ∧ RR q r := by
  induction h with
  | nil => simp at hq
  | cons q' r' qs rs h1 _ ih =>
    rcases List.mem_cons.1 hq with rfl | hq
    · exact ⟨r', by simp, h1⟩
    · obtain ⟨r, k1, k2⟩ := ih hq; exact ⟨r, by simp [k1], k2⟩

structure TInv (C : Ctx) (all : Array Oper) (st0 : St) (h0 : Nat → Blk) (L : List PR) (j : Nat) (st : St) (recs : List Rec) (dead : Nat) (pn : Option (AV × Nat)) : Prop where
  facts : Facts C all st0 h0 L
  lt : ∀ r, r ∈ L → r.j < j
  same : st = { st0 with env := st.env, heap := st.heap }
  env : ∀ x, (∀ F, F ∈ L → F.fell = true → F.o.dst ≠ some x) → st.env.get x = envF st0.env.get all1 L x
  len : st.heap.bl.length = lenF st0.heap.bl.length L
  heap : ∀ b, b < st.heap.bl.length → st.heap.bl[b]? = some (heapF h0 all1 L b)
  log : LogOK st0.heap st.heap
  recs : RRs recs L
  bit : ∀ d, dead.testBit d = true → d < j ∧ ((∃ F, F ∈ L ∧ F.fell = true ∧ F.j = d) ∨ ((¬ ∃ r, r ∈ L ∧ r.j = d) ∧ ∃ d', Ah all d' d ∧ dead.testBit d' = true))
  fbit : ∀ F, F ∈ L → F.fell = true → dead.testBit F.j = true
  cover : ∀ i, i < j → (∃ r, r ∈ L ∧ r.j = i) ∨ dead.testBit i = true
  nofall : pn = none → dead = 0
  fall : ∀ v jf, pn = some (v, jf) → ∃ F, F ∈ L ∧ F.fell = true ∧ F.j = jf ∧ F.v = v ∧ (∀ F', F' ∈ L → F'.fell = true → F' = F) ∧ ∀ q, q ∈ L → q ≠ F → ∀ b, b < q.lo → q.out b ≠ none → Ah all q.j jf

end
end Go.Ev

/- A region that draws its order: the evaluator is sound there. -/
namespace Go.Ev
open Go

section
variable {C : Ctx} {all : Array Oper} {st0 : St} {h0 : Nat → Blk} {L : List PR} {j : Nat} {st : St} {recs : List Rec} {dead : Nat} {pn : Option (AV × Nat)}

theorem bit_or {d s i : Nat} : (d ||| 2 ^ s).testBit i = true ↔ d.testBit i = true ∨ i = s := by
  rw [Nat.testBit_or, Bool.or_eq_true, Nat.testBit_two_pow, decide_eq_true_eq]
  constructor <;> rintro (h | h) <;> first | exact .inl h | exact .inr h.symm

theorem and_bit {a b : Nat} (h : a &&& b ≠ 0) : ∃ i, a.testBit i = true ∧ b.testBit i = true := by
  apply Classical.byContradiction
  intro hn
  apply h
  apply Nat.eq_of_testBit_eq
  intro i
  rw [Nat.testBit_and, Nat.zero_testBit]
  cases ha : a.testBit i <;> cases hb : b.testBit i <;> simp
  exact hn ⟨i, ha, hb⟩

theorem TInv.skipped (T : TInv C all st0 h0 L j st recs dead pn) (h : (Region.before all).getD j 0 &&& dead ≠ 0) : TInv C all st0 h0 L (j + 1) st recs (dead ||| 2 ^ j) pn := by
  obtain ⟨d, hd1, hd2⟩ := and_bit h
  refine ⟨T.facts, fun r hr => by have := T.lt r hr; omega, T.same, T.env, T.len, T.heap, T.log, T.recs, fun x hx => ?_, fun F hF hf => bit_or.2 (.inl (T.fbit F hF hf)), fun i hi => ?_, fun hp => ?_, T.fall⟩
  · rcases bit_or.1 hx with hx | rfl
    · obtain ⟨h1, h2⟩ := T.bit x hx
      refine ⟨by omega, h2.imp id fun ⟨h3, d', h4, h5⟩ => ⟨h3, d', h4, bit_or.2 (.inl h5)⟩⟩
    · refine ⟨by omega, .inr ⟨fun ⟨r, hr, e⟩ => ?_, d, hd1, bit_or.2 (.inl hd2)⟩⟩
      have := T.lt r hr; omega
  · by_cases hij : i = j
    · exact .inr (bit_or.2 (.inr hij))
    · exact (T.cover i (by omega)).imp id fun h => bit_or.2 (.inl h)
  · rw [T.nofall hp] at hd2; simp at hd2

theorem put_env (st : St) (dst : Option Tmp) (v : AV) (x : Nat) : (st.put dst v).env.get x = if dst = some x then some v else st.env.get x := by
  cases dst with
  | none => simp [St.put]
  | some d =>
    simp only [St.put, Tr.get_set, Option.some.injEq]

theorem TInv.add (T : TInv C all st0 h0 L j st recs dead pn) {r : PR} {q : Rec} {h' : Hp} (hr : Fact C all st0 h0 r L) (hj : r.j = j) (hq : RR q r) (hfl : r.fell = false) (hlen : h'.bl.length = r.hi) (hh : ∀ b, b < h'.bl.length → h'.bl[b]? = some ((r.out b).getD (heapF h0 all1 L b)))
    (hlog : LogOK st.heap h') (hpn : pn = none ∨ ∀ b, b < r.lo → r.out b = none) : TInv C all st0 h0 (r :: L) (j + 1) ({ st with heap := h' }.put r.o.dst r.v) (q :: recs) dead pn := by
  have hp := put_eq { st with heap := h' } r.o.dst r.v
  obtain ⟨p1, p2, p3, p4, p5, p6⟩ := hp
  refine ⟨.cons _ _ hr T.facts, fun x hx => ?_, ?_, fun x hx => ?_, by rw [p2]; exact hlen, fun b hb => ?_, by rw [p2]; exact T.log.trans hlog, .cons _ _ _ _ hq T.recs, fun d hd => ?_, fun F hF hf => ?_, fun i hi => ?_, T.nofall, fun v jf hv => ?_⟩
  · rcases List.mem_cons.1 hx with rfl | hx
    · omega
    · have := T.lt x hx; omega
  · have := T.same
    generalize hs2 : ({ st with heap := h' }.put r.o.dst r.v) = s2 at *
    cases s2
    simp only at p1 p2 p3 p4 p5 p6
    rw [this] at p3 p4 p5 p6
    simp only at p3 p4 p5 p6
    subst p3 p4 p5 p6
    rfl
  · rw [put_env]
    simp only [envF, all1, true_and]
    split
    · rfl
    · exact T.env x fun F hF hf => hx F (by simp [hF]) hf
  · rw [p2] at hb ⊢
    rw [hh b hb]
    simp [heapF, all1]
  · obtain ⟨h1, h2⟩ := T.bit d hd
    refine ⟨by omega, ?_⟩
    rcases h2 with ⟨F, k1, k2, k3⟩ | ⟨k1, k2⟩
    · exact .inl ⟨F, by simp [k1], k2, k3⟩
    · refine .inr ⟨fun ⟨x, hx, e⟩ => ?_, k2⟩
      rcases List.mem_cons.1 hx with rfl | hx
      · omega
      · exact k1 ⟨x, hx, e⟩
  · rcases List.mem_cons.1 hF with rfl | hF
    · rw [hfl] at hf; simp at hf
    · exact T.fbit F hF hf
  · by_cases hij : i = j
    · exact .inl ⟨r, by simp, by omega⟩
    · exact (T.cover i (by omega)).imp (fun ⟨x, hx, e⟩ => ⟨x, by simp [hx], e⟩) id
  · obtain ⟨F, k1, k2, k3, k4, k5, k6⟩ := T.fall v jf hv
    refine ⟨F, by simp [k1], k2, k3, k4, fun F' hF' hf' => ?_, fun x hx hne b hb ho => ?_⟩
    · rcases List.mem_cons.1 hF' with rfl | hF'
      · rw [hfl] at hf'; simp at hf'
      · exact k5 F' hF' hf'
    · rcases List.mem_cons.1 hx with rfl | hx
      · rcases hpn with hpn | hpn
        · rw [hpn] at hv; simp at hv
        · exact absurd (hpn b hb) ho
      · exact k6 x hx hne b hb ho

theorem TInv.drop (T : TInv C all st0 h0 L j st recs dead none) {r : PR} {q : Rec} {h' : Hp} (hr : Fact C all st0 h0 r L) (hj : r.j = j) (hq : RR q r) (hfl : r.fell = true) (hlen : h'.bl.length = r.hi) (hh : ∀ b, b < h'.bl.length → h'.bl[b]? = some ((r.out b).getD (heapF h0 all1 L b)))
    (hlog : LogOK st.heap h') (hah : ∀ x, x ∈ L → ∀ b, b < x.lo → x.out b ≠ none → Ah all x.j j) : TInv C all st0 h0 (r :: L) (j + 1) { st with heap := h' } (q :: recs) (dead ||| 2 ^ j) (some (r.v, j)) := by
  have hd0 := T.nofall rfl
  subst hd0
  have hno : ∀ F, F ∈ L → F.fell = true → False := fun F hF hf => by
    have := T.fbit F hF hf
    simp at this
  refine ⟨.cons _ _ hr T.facts, fun x hx => ?_, ?_, fun x hx => ?_, hlen, fun b hb => ?_, T.log.trans hlog, .cons _ _ _ _ hq T.recs, fun d hd => ?_, fun F hF hf => ?_, fun i hi => ?_, fun h => by simp at h, fun v jf hv => ?_⟩
  · rcases List.mem_cons.1 hx with rfl | hx
    · omega
    · have := T.lt x hx; omega
  · have := T.same
    rw [this]
  · have h1 := hx r (by simp) hfl
    show st.env.get x = _
    simp only [envF]
    rw [if_neg (fun h => h1 h.2)]
    exact T.env x fun F hF hf => (hno F hF hf).elim
  · rw [hh b hb]
    simp [heapF, all1]
  · rcases bit_or.1 hd with hd | rfl
    · simp at hd
    · exact ⟨by omega, .inl ⟨r, by simp, hfl, hj⟩⟩
  · rcases List.mem_cons.1 hF with rfl | hF
    · exact bit_or.2 (.inr hj)
    · exact (hno F hF hf).elim
  · by_cases hij : i = j
    · exact .inl ⟨r, by simp, by omega⟩
    · rcases T.cover i (by omega) with ⟨x, hx, e⟩ | h
      · exact .inl ⟨x, by simp [hx], e⟩
      · simp at h
  · simp only [Option.some.injEq, Prod.mk.injEq] at hv
    obtain ⟨rfl, rfl⟩ := hv
    refine ⟨r, by simp, hfl, hj, rfl, fun F' hF' hf' => ?_, fun x hx hne b hb ho => ?_⟩
    · rcases List.mem_cons.1 hF' with rfl | hF'
      · rfl
      · exact (hno F' hF' hf').elim
    · rcases List.mem_cons.1 hx with rfl | hx
      · exact absurd rfl hne
      · exact hah x hx b hb ho

end
end Go.Ev

/- A region that draws its order: from the evaluator's run to what it gathers. -/
namespace Go.Ev
open Go

section
variable {C : Ctx} {all : Array Oper} {st0 : St} {h0 : Nat → Blk} {L : List PR} {j : Nat} {st : St} {recs : List Rec} {dead : Nat} {pn : Option (AV × Nat)}

theorem cls_ld {o : Oper} {t : TypeId} {b p m : Nat} (h : cls C st o = .ld t b p m) : ∃ a, o.op = .load t a ∧ st.ev a = some (.ptr b p) ∧ cellsOf C t = some m := by
  unfold cls at h
  split at h <;> try (simp at h; done)
  · rename_i t' a hop
    split at h
    · rename_i b' p' he
      split at h
      · rename_i n h1 h2
        simp only [Cls.ld.injEq] at h
        obtain ⟨rfl, rfl, rfl, rfl⟩ := h
        exact ⟨a, hop, he, by simp [cellsOf, h1, h2]⟩
      · rename_i n h1 h2
        simp only [Cls.ld.injEq] at h
        obtain ⟨rfl, rfl, rfl, rfl⟩ := h
        exact ⟨a, hop, he, by simp [cellsOf, h1, h2]⟩
      · simp at h
    · simp at h
    · simp at h
    · simp at h
  all_goals (repeat' split at h) <;> try (simp at h; done)
  all_goals (rw [cond_eq_ite] at h; split at h <;> simp at h)

theorem liveAt_rep (n b : Nat) : liveAt (List.replicate n Blk.dead) b = false := by
  unfold liveAt
  rw [List.getElem?_replicate]
  by_cases h : b < n
  · rw [if_pos h]; rfl
  · rw [if_neg h]

theorem TInv.hiLe (T : TInv C all st0 h0 L j st recs dead pn) {q : PR} (hq : q ∈ L) : q.hi ≤ st.heap.bl.length := by
  rw [T.len]; exact T.facts.hi_le.2 q hq

theorem TInv.loLe (T : TInv C all st0 h0 L j st recs dead pn) {q : PR} (hq : q ∈ L) : q.lo ≤ st.heap.bl.length := by
  obtain ⟨B', h⟩ := T.facts.mem hq
  have := h.hi
  have := T.hiLe hq
  omega

theorem TInv.hE (T : TInv C all st0 h0 L j st recs dead pn) (hs : Stat all) {o : Oper} (ho : all[j]? = some o) (hnd : (Region.before all).getD j 0 &&& dead = 0) : ∀ x a, (envOf all st.env o).get x = some a → envF st0.env.get all1 L x = some a ∧ Looks all o x := fun x a hx => by
  obtain ⟨h1, h2⟩ := envOf_get hx
  refine ⟨?_, h2⟩
  rw [← T.env x fun F hF hf hd => ?_]
  · exact h1
  · obtain ⟨B', hFf⟩ := T.facts.mem hF
    have hlt := T.lt F hF
    have := hs.tmp F.j j F.o o x hFf.at_ ho hd (by omega) h2
    rw [Nat.min_eq_left (by omega), Nat.max_eq_right (by omega)] at this
    have hb := T.fbit F hF hf
    have hz : ((Region.before all).getD j 0 &&& dead).testBit F.j = true := by
      rw [Nat.testBit_and, Bool.and_eq_true]; exact ⟨this, hb⟩
    rw [hnd] at hz
    simp at hz

/-- what a new record needs beside its kind -/
theorem TInv.fact (T : TInv C all st0 h0 L j st recs dead pn) {r : PR} (ho : all[j]? = some r.o) (hj : r.j = j) (hdst : ∀ x, r.o.dst = some x → x < st0.nt) (hlo : r.lo = st.heap.bl.length) (hhi : r.lo ≤ r.hi) (hout : ∀ b, r.hi ≤ b → r.out b = none)
    (hk : ∃ E, (∀ x a, E.get x = some a → envF st0.env.get all1 L x = some a ∧ Looks all r.o x) ∧ Kind C all st0 h0 r L E) (hrd : ∀ b p m, r.rd = some (b, p, m) → b < r.lo)
    (htouch : ∀ q, q ∈ L → ∀ b, b < r.lo → q.out b ≠ none → r.out b ≠ none → Ah all q.j r.j) (hrdok : ∀ q, q ∈ L → ∀ b p m, q.rd = some (b, p, m) → Ah all q.j r.j ∨ r.out b = none ∨ ∀ o, p ≤ o → o < p + m → ∀ x, x ∈ r.wr → ¬ covers x b o) :
    Fact C all st0 h0 r L := by
  refine ⟨by rw [hj]; exact ho, hdst, fun q hq => by rw [hj]; exact T.lt q hq, by rw [hlo, T.len], hhi, hout, hk, hrd, fun q hq b h1 h2 => ?_, hrdok⟩
  by_cases hb : b < r.lo
  · exact htouch q hq b hb h1 h2
  · obtain ⟨B', hf⟩ := T.facts.mem hq
    have := T.hiLe hq
    exact absurd (hf.outhi b (by omega)) h1

theorem ahead_of {i jj : Nat} (h : ahead ((Region.before all).getD jj 0) i = true) : Ah all i jj := h

theorem heavy_ahead (T : TInv C all st0 h0 L j st recs dead pn) (h : recs.all (fun r => !r.heavy || ahead ((Region.before all).getD j 0) r.j) = true) {q : PR} (hq : q ∈ L) {b : Nat} (hb : b < q.lo) (ho : q.out b ≠ none) : Ah all q.j j := by
  obtain ⟨e, he, hr⟩ := T.recs.of hq
  rw [List.all_eq_true] at h
  have := h e he
  cases hh : e.heavy with
  | false => exact absurd (hr.pl hh b hb) ho
  | true =>
    rw [hh] at this
    rw [← hr.j]
    simp only [Bool.not_true, Bool.false_or] at this
    exact this

theorem draw_text (hs : Stat all) (hdst : dstOk st0.nt all = true) {M : Nat} (ih : ∀ m, m ≤ M → SoundAt C m) {R : Type} {k : Res → Option R} {r : R} :
    ∀ (n : Nat), n ≤ M + 1 → ∀ (j : Nat) (rest : List Oper) (st : St) (recs : List Rec) (dead : Nat) (pn : Option (AV × Nat)) (L : List PR), run C n (.draw all (Region.before all) j rest st recs dead pn) k = some r →
      TInv C all st0 h0 L j st recs dead pn → rest = all.toList.drop j → j ≤ all.size →
      ∃ L' st' recs' dead' pn', TInv C all st0 h0 L' all.size st' recs' dead' pn' ∧ (match pn' with
        | none => k (.ex .normal st')
        | some (v, jf) => k (.ex (.panic v) { st' with env := delDst all.toList st'.env, heap := { st'.heap with bl := hideAll ((Region.before all).getD jf 0) (recs'.filter fun x => !(x.j == jf)) st'.heap.bl } })) = some r := by
  intro n
  induction n with
  | zero => intro _ j rest st recs dead pn L h; simp [run_zero] at h
  | succ n ihn =>
    intro hn j rest st recs dead pn L h T hrest hj
    cases rest with
    | nil =>
      have hjs : j = all.size := by
        have := congrArg List.length hrest
        simp at this; omega
      subst hjs
      rw [run_succ] at h; simp only [runS] at h
      exact ⟨L, st, recs, dead, pn, T, h⟩
    | cons o rest =>
      obtain ⟨d1, d2, d3⟩ := drop_cons hrest
      have hat : all[j]? = some o := by simpa using d1
      have hjl : j < all.size := by simpa using d3
      have hdst1 : ∀ x, o.dst = some x → x < st0.nt := fun x hx => by
        unfold dstOk at hdst
        rw [Array.all_eq_true] at hdst
        have := hdst j hjl
        have he : all[j] = o := by rw [Array.getElem?_eq_getElem hjl] at hat; exact Option.some.inj hat
        rw [he, hx] at this
        simpa using this
      rw [run_succ] at h; simp only [runS] at h
      cases hdd : ((Region.before all).getD j 0 &&& dead == 0) with
      | false =>
        rw [hdd] at h
        simp only [Bool.not_false, cond_true] at h
        exact ihn (by omega) (j + 1) rest st recs _ pn L h (T.skipped (by simpa using hdd)) d2 (by omega)
      | true =>
        rw [hdd] at h
        simp only [Bool.not_true, cond_false] at h
        have hnd : (Region.before all).getD j 0 &&& dead = 0 := by simpa using hdd
        have hE := T.hE hs hat hnd
        have hst := T.same
        have go := ihn (by omega) (j + 1) rest
        rcases wantedA_spec h with ⟨h, hw⟩ | ⟨h, hw⟩
        · -- carried out
          dsimp only at h hw
          split at h
          · -- a plain one
            rename_i hcls
            obtain ⟨res, h1, h2⟩ := ih n (by omega) _ _ _ _ h
            obtain ⟨h1, h1s⟩ := h1
            cases res with
            | val v st' =>
              dsimp only at h1s h2
              let q : PR := { j, o, v, out := fun b => if b < st.heap.bl.length then none else st'.heap.bl[b]?, lo := st.heap.bl.length, hi := st'.heap.bl.length, wr := st'.heap.log, rd := none, fell := false }
              have hlen : st.heap.bl.length ≤ st'.heap.bl.length := by
                have := h1.1.len; simp only [List.length_replicate] at this; exact this
              have hrep : ∀ b, liveAt (List.replicate st.heap.bl.length Blk.dead) b = false := liveAt_rep _
              have hfact : Fact C all st0 h0 q L := T.fact (r := q) hat rfl hdst1 rfl hlen (fun b hb => by
                have : st'.heap.bl.length ≤ b := hb
                simp only [q]
                rw [if_neg (by omega), List.getElem?_eq_none this]) ⟨envOf all st.env o, hE, .run (List.replicate st.heap.bl.length Blk.dead) st'.heap rfl hw (by simp [q]) (by
                  have e1 : { st0 with env := envOf all st.env o, heap := ⟨List.replicate st.heap.bl.length Blk.dead, []⟩ } = ({ st with env := envOf all st.env o, heap := ⟨List.replicate st.heap.bl.length Blk.dead, []⟩ } : St) := by rw [hst]
                  have e2 : { st0 with env := envOf all st.env o, heap := st'.heap } = st' := by rw [h1s, hst]
                  rw [e1, e2]; exact h1) rfl rfl (fun b => by simp [q, hrep]) (fun b x hb hx => by
                  rw [List.getElem?_replicate] at hb
                  split at hb
                  · cases hb; simp [Blk.live] at hx
                  · simp at hb)⟩ (fun b p m h => by simp [q] at h) (fun q' hq' b hb h1 h2 => by
                  have : b < st.heap.bl.length := hb
                  simp [q, this] at h2) (fun q' hq' b p m h => by
                  obtain ⟨B', hf⟩ := T.facts.mem hq'
                  have h1 := hf.rdlt b p m h
                  have h2 := T.loLe hq'
                  refine .inr (.inl ?_)
                  simp only [q]
                  rw [if_pos (by omega)])
              refine go _ _ dead pn (q :: L) h2 (T.add hfact rfl ⟨rfl, rfl, rfl, rfl, fun h => by simp at h, fun _ b hb => ?_⟩ rfl ?_ (fun b hb => ?_) ?_ (.inr fun b hb => ?_)) d2 (by omega)
              · have : b < st.heap.bl.length := hb
                simp [q, this]
              · simp [q]; omega
              · simp only [List.length_append, List.length_drop] at hb
                simp only [q]
                by_cases hb2 : b < st.heap.bl.length
                · rw [List.getElem?_append_left hb2, T.heap b hb2, if_pos hb2]; rfl
                · rw [List.getElem?_append_right (by omega), List.getElem?_drop, show st.heap.bl.length + (b - st.heap.bl.length) = b by omega, if_neg hb2, List.getElem?_eq_getElem (by omega)]; rfl
              · exact ⟨[], rfl, by simp, fun b o hb _ => by simp [cellOf, List.getElem?_append_left hb]⟩
              · have : b < st.heap.bl.length := hb
                simp [q, this]
            | pan v st' =>
              dsimp only at h1s h2
              split at h2
              · simp [fail] at h2
              · rename_i hpn
                cases hall : recs.all (fun r => !r.heavy || ahead ((Region.before all).getD j 0) r.j) with
                | false => rw [hall] at h2; simp [fail] at h2
                | true =>
                rw [hall] at h2
                simp only [cond_true] at h2
                let q : PR := { j, o, v, out := fun b => if b < st.heap.bl.length then none else st'.heap.bl[b]?, lo := st.heap.bl.length, hi := st'.heap.bl.length, wr := st'.heap.log, rd := none, fell := true }
                have hlen : st.heap.bl.length ≤ st'.heap.bl.length := by
                  have := h1.1.len; simp only [List.length_replicate] at this; exact this
                have hrep : ∀ b, liveAt (List.replicate st.heap.bl.length Blk.dead) b = false := liveAt_rep _
                have hfact : Fact C all st0 h0 q L := T.fact (r := q) hat rfl hdst1 rfl hlen (fun b hb => by
                  have : st'.heap.bl.length ≤ b := hb
                  simp only [q]
                  rw [if_neg (by omega), List.getElem?_eq_none this]) ⟨envOf all st.env o, hE, .fell (List.replicate st.heap.bl.length Blk.dead) st'.heap rfl hw (by simp [q]) (by
                    have e1 : { st0 with env := envOf all st.env o, heap := ⟨List.replicate st.heap.bl.length Blk.dead, []⟩ } = ({ st with env := envOf all st.env o, heap := ⟨List.replicate st.heap.bl.length Blk.dead, []⟩ } : St) := by rw [hst]
                    have e2 : { st0 with env := envOf all st.env o, heap := st'.heap } = st' := by rw [h1s, hst]
                    rw [e1, e2]; exact h1) rfl rfl (fun b => by simp [q, hrep]) (fun b x hb hx => by
                    rw [List.getElem?_replicate] at hb
                    split at hb
                    · cases hb; simp [Blk.live] at hx
                    · simp at hb)⟩ (fun b p m h => by simp [q] at h) (fun q' hq' b hb h1 h2 => by
                    have : b < st.heap.bl.length := hb
                    simp [q, this] at h2) (fun q' hq' b p m h => by
                    obtain ⟨B', hf⟩ := T.facts.mem hq'
                    have h1 := hf.rdlt b p m h
                    have h2 := T.loLe hq'
                    refine .inr (.inl ?_)
                    simp only [q]
                    rw [if_pos (by omega)])
                refine go _ _ _ _ (q :: L) h2 (T.drop hfact rfl ⟨rfl, rfl, rfl, rfl, fun h => by simp at h, fun _ b hb => ?_⟩ rfl ?_ (fun b hb => ?_) ?_ (fun x hx b hb hb2 => heavy_ahead T hall hx hb hb2)) d2 (by omega)
                · have : b < st.heap.bl.length := hb
                  simp [q, this]
                · simp [q]; omega
                · simp only [List.length_append, List.length_drop] at hb
                  simp only [q]
                  by_cases hb2 : b < st.heap.bl.length
                  · rw [List.getElem?_append_left hb2, T.heap b hb2, if_pos hb2]; rfl
                  · rw [List.getElem?_append_right (by omega), List.getElem?_drop, show st.heap.bl.length + (b - st.heap.bl.length) = b by omega, if_neg hb2, List.getElem?_eq_getElem (by omega)]; rfl
                · exact ⟨[], rfl, by simp, fun b o hb _ => by simp [cellOf, List.getElem?_append_left hb]⟩
            | _ => exact h1.elim
          · -- a load
            rename_i t b p m hcls
            obtain ⟨a, hop, hev, hcells⟩ := cls_ld hcls
            cases hall : recs.all (fun r => ahead ((Region.before all).getD j 0) r.j || ((decide (b < r.lo) || decide (r.hi ≤ b)) && (!r.heavy || apartAll (b, p, m) r.wr))) with
            | false => rw [hall] at h; simp [fail] at h
            | true =>
            rw [hall] at h
            simp only [cond_true] at h
            split at h
            · rename_i v hld
              let q : PR := { j, o, v, out := fun _ => none, lo := st.heap.bl.length, hi := st.heap.bl.length, wr := [], rd := some (b, p, m), fell := false }
              have hbl : b < st.heap.bl.length := by
                unfold loadT at hld
                have key : ∀ n, getCells C st.heap (.ptr b p) n ≠ none → b < st.heap.bl.length := fun n h => by
                  simp only [getCells] at h
                  split at h
                  · rename_i hb; exact (List.getElem?_eq_some_iff.1 hb).1
                  · exact absurd rfl h
                split at hld
                · split at hld
                  · rename_i hl; exact key _ (by rw [hl]; simp)
                  · simp at hld
                · split at hld
                  · rename_i hl; exact key _ (by rw [hl]; simp)
                  · simp at hld
                · simp at hld
              have hfact : Fact C all st0 h0 q L := T.fact (r := q) hat rfl hdst1 rfl (Nat.le_refl _) (fun _ _ => rfl) ⟨envOf all st.env o, hE, .ld t a b p m st.heap rfl hw hop (by
                  have e1 : { st0 with env := envOf all st.env o } = ({ st with env := envOf all st.env o, heap := st0.heap } : St) := by rw [hst]
                  rw [e1]
                  rw [← hev]; cases a <;> rfl) hcells (fun i hi => T.heap i hi) rfl hld rfl (fun _ => rfl) rfl (fun q' hq' => by
                  obtain ⟨e, he, hr⟩ := T.recs.of hq'
                  rw [List.all_eq_true] at hall
                  have := hall e he
                  simp only [Bool.or_eq_true, Bool.and_eq_true, decide_eq_true_eq, Bool.not_eq_true'] at this
                  rcases this with h1 | ⟨h1, h2⟩
                  · exact .inl (by rw [← hr.j]; exact h1)
                  · obtain ⟨B', hf⟩ := T.facts.mem hq'
                    refine .inr ?_
                    rcases h1 with h1 | h1
                    · rw [hr.lo] at h1
                      rcases h2 with h2 | h2
                      · exact .inl (hr.pl h2 b h1)
                      · cases hh : e.heavy with
                        | false => exact .inl (hr.pl hh b h1)
                        | true =>
                          rw [hr.wr hh] at h2
                          exact .inr ⟨h1, apart_un h2⟩
                    · exact .inl (hf.outhi b (by rw [← hr.hi]; exact h1)))⟩ (fun b' p' m' h => by simp only [q, Option.some.injEq, Prod.mk.injEq] at h; obtain ⟨rfl, rfl, rfl⟩ := h; exact hbl) (fun _ _ _ _ _ h => absurd rfl h) (fun _ _ _ _ _ _ => .inr (.inl rfl))
              exact go _ _ dead pn (q :: L) h (T.add (h' := st.heap) hfact rfl ⟨rfl, rfl, rfl, rfl, fun h => by simp at h, fun _ _ _ => rfl⟩ rfl rfl (fun b hb => T.heap b hb) (.refl _) (.inr fun _ _ => rfl)) d2 (by omega)
            · simp [fail] at h
          · -- a heavy one
            rename_i hcls
            split at h
            · simp [fail] at h
            · cases hall : recs.all (fun r => !r.heavy || ahead ((Region.before all).getD j 0) r.j) with
              | false => rw [hall] at h; simp [fail] at h
              | true =>
              rw [hall] at h
              simp only [cond_true] at h
              obtain ⟨res, h1, h2⟩ := ih n (by omega) _ _ _ _ h
              obtain ⟨h1, h1s⟩ := h1
              have hhl : (hideAll ((Region.before all).getD j 0) recs st.heap.bl).length = st.heap.bl.length := hideAll_length _ _ _
              have hagree : ∀ b x, (hideAll ((Region.before all).getD j 0) recs st.heap.bl)[b]? = some x → x.live = true → heapF h0 all1 L b = x := fun b x hb hx => by
                have h3 := (hideAll_live hb hx).1
                rw [T.heap b (List.getElem?_eq_some_iff.1 h3).1] at h3
                exact Option.some.inj h3
              have htouch : ∀ q', q' ∈ L → ∀ b, b < st.heap.bl.length → q'.out b ≠ none → liveAt (hideAll ((Region.before all).getD j 0) recs st.heap.bl) b = true → Ah all q'.j j := fun q' hq' b hb h1 h2 => by
                obtain ⟨x, hx1, hx2⟩ := liveAt_true h2
                obtain ⟨_, hno⟩ := hideAll_live hx1 hx2
                obtain ⟨e, he, hr⟩ := T.recs.of hq'
                cases ha : ahead ((Region.before all).getD j 0) e.j with
                | true => rw [← hr.j]; exact ha
                | false =>
                  obtain ⟨B', hf⟩ := T.facts.mem hq'
                  have hno := hno e he ha
                  rw [hr.lo, hr.hi] at hno
                  by_cases hblo : b < q'.lo
                  · exact heavy_ahead T hall hq' hblo h1
                  · exact absurd (hf.outhi b (by omega)) h1
              cases res with
              | val v st' =>
                dsimp only at h1s h2
                rw [cond_eq_ite] at h2
                split at h2
                rotate_left
                · simp [fail] at h2
                rename_i hall2
                let q : PR := { j, o, v, out := fun b => if b < st.heap.bl.length ∧ liveAt (hideAll ((Region.before all).getD j 0) recs st.heap.bl) b = false then none else st'.heap.bl[b]?, lo := st.heap.bl.length, hi := st'.heap.bl.length, wr := st'.heap.log, rd := none, fell := false }
                have hlen : st.heap.bl.length ≤ st'.heap.bl.length := by
                  have := h1.1.len; simp only [hhl] at this; exact this
                have hfact : Fact C all st0 h0 q L := T.fact (r := q) hat rfl hdst1 rfl hlen (fun b hb => by
                  have : st'.heap.bl.length ≤ b := hb
                  simp only [q]
                  rw [List.getElem?_eq_none this]; simp) ⟨envOf all st.env o, hE, .run _ st'.heap rfl hw hhl (by
                    have e1 : { st0 with env := envOf all st.env o, heap := ⟨hideAll ((Region.before all).getD j 0) recs st.heap.bl, []⟩ } = ({ st with env := envOf all st.env o, heap := ⟨hideAll ((Region.before all).getD j 0) recs st.heap.bl, []⟩ } : St) := by rw [hst]
                    have e2 : { st0 with env := envOf all st.env o, heap := st'.heap } = st' := by rw [h1s, hst]
                    rw [e1, e2]; exact h1) rfl rfl (fun b => rfl) hagree⟩ (fun b p m h => by simp [q] at h) (fun q' hq' b hb h1 h2 => by
                    refine htouch q' hq' b hb h1 ?_
                    cases hlv : liveAt (hideAll ((Region.before all).getD j 0) recs st.heap.bl) b with
                    | true => rfl
                    | false =>
                      have hb : b < st.heap.bl.length := hb
                      exact absurd (show (if b < st.heap.bl.length ∧ liveAt (hideAll ((Region.before all).getD j 0) recs st.heap.bl) b = false then none else st'.heap.bl[b]?) = none by rw [if_pos ⟨hb, hlv⟩]) h2) (fun q' hq' b p m h => by
                    obtain ⟨e, he, hr⟩ := T.recs.of hq'
                    rw [List.all_eq_true] at hall2
                    have := hall2 e he
                    rw [hr.rd, h] at this
                    simp only [Bool.or_eq_true] at this
                    rcases this with h1 | h1
                    · exact .inl (by rw [← hr.j]; exact h1)
                    · exact .inr (.inr (apart_un h1)))
                refine go _ _ dead _ (q :: L) h2 (T.add (h' := ⟨unhide st.heap.bl (hideAll ((Region.before all).getD j 0) recs st.heap.bl) st'.heap.bl, st'.heap.log ++ st.heap.log⟩) hfact rfl ⟨rfl, rfl, rfl, rfl, fun _ => rfl, fun h => by simp at h⟩ rfl ?_ (fun b hb => ?_) ?_ (.inl rfl)) d2 (by omega)
                · exact unhide_length _ _ _ hlen
                · have hb : b < (unhide st.heap.bl (hideAll ((Region.before all).getD j 0) recs st.heap.bl) st'.heap.bl).length := hb
                  rw [unhide_length _ _ _ hlen] at hb
                  show (unhide st.heap.bl (hideAll ((Region.before all).getD j 0) recs st.heap.bl) st'.heap.bl)[b]? = _
                  rw [unhide_get _ _ _ _ hhl hlen]
                  simp only [q]
                  split
                  · rename_i hc; rw [T.heap b hc.1]; rfl
                  · rw [List.getElem?_eq_getElem hb]; rfl
                · obtain ⟨new, l1, l2, l3⟩ := h1.1
                  simp only [List.append_nil] at l1
                  refine ⟨st'.heap.log, rfl, by show _ ≤ (unhide _ _ _).length; rw [unhide_length _ _ _ hlen]; exact hlen, fun b o hb hno => ?_⟩
                  have hb' : b < st'.heap.bl.length := by omega
                  by_cases hlv : liveAt (hideAll ((Region.before all).getD j 0) recs st.heap.bl) b = false
                  · have e1 : (unhide st.heap.bl (hideAll ((Region.before all).getD j 0) recs st.heap.bl) st'.heap.bl)[b]? = st.heap.bl[b]? := by rw [unhide_get _ _ _ _ hhl hlen, if_pos ⟨hb, hlv⟩]
                    show cellOf (unhide _ _ _) b o = _
                    unfold cellOf
                    rw [e1]
                  · have hlv : liveAt (hideAll ((Region.before all).getD j 0) recs st.heap.bl) b = true := by simpa using hlv
                    have e1 : (unhide st.heap.bl (hideAll ((Region.before all).getD j 0) recs st.heap.bl) st'.heap.bl)[b]? = st'.heap.bl[b]? := by rw [unhide_get _ _ _ _ hhl hlen, if_neg (by rw [hlv]; simp)]
                    obtain ⟨x, hx1, hx2⟩ := liveAt_true hlv
                    have hx3 := (hideAll_live hx1 hx2).1
                    have := l3 b o (by simp only [hhl]; exact hb) (fun y hy => hno y (by rw [l1]; exact hy))
                    show cellOf (unhide _ _ _) b o = _
                    rw [show cellOf (unhide st.heap.bl (hideAll ((Region.before all).getD j 0) recs st.heap.bl) st'.heap.bl) b o = cellOf st'.heap.bl b o by unfold cellOf; rw [e1], this, cellOf_some hx1, cellOf_some hx3]
              | pan v st' =>
                dsimp only at h1s h2
                rw [cond_eq_ite] at h2
                split at h2
                rotate_left
                · simp [fail] at h2
                rename_i hall2
                let q : PR := { j, o, v, out := fun b => if b < st.heap.bl.length ∧ liveAt (hideAll ((Region.before all).getD j 0) recs st.heap.bl) b = false then none else st'.heap.bl[b]?, lo := st.heap.bl.length, hi := st'.heap.bl.length, wr := st'.heap.log, rd := none, fell := true }
                have hlen : st.heap.bl.length ≤ st'.heap.bl.length := by
                  have := h1.1.len; simp only [hhl] at this; exact this
                have hfact : Fact C all st0 h0 q L := T.fact (r := q) hat rfl hdst1 rfl hlen (fun b hb => by
                  have : st'.heap.bl.length ≤ b := hb
                  simp only [q]
                  rw [List.getElem?_eq_none this]; simp) ⟨envOf all st.env o, hE, .fell _ st'.heap rfl hw hhl (by
                    have e1 : { st0 with env := envOf all st.env o, heap := ⟨hideAll ((Region.before all).getD j 0) recs st.heap.bl, []⟩ } = ({ st with env := envOf all st.env o, heap := ⟨hideAll ((Region.before all).getD j 0) recs st.heap.bl, []⟩ } : St) := by rw [hst]
                    have e2 : { st0 with env := envOf all st.env o, heap := st'.heap } = st' := by rw [h1s, hst]
                    rw [e1, e2]; exact h1) rfl rfl (fun b => rfl) hagree⟩ (fun b p m h => by simp [q] at h) (fun q' hq' b hb h1 h2 => by
                    refine htouch q' hq' b hb h1 ?_
                    cases hlv : liveAt (hideAll ((Region.before all).getD j 0) recs st.heap.bl) b with
                    | true => rfl
                    | false =>
                      have hb : b < st.heap.bl.length := hb
                      exact absurd (show (if b < st.heap.bl.length ∧ liveAt (hideAll ((Region.before all).getD j 0) recs st.heap.bl) b = false then none else st'.heap.bl[b]?) = none by rw [if_pos ⟨hb, hlv⟩]) h2) (fun q' hq' b p m h => by
                    obtain ⟨e, he, hr⟩ := T.recs.of hq'
                    rw [List.all_eq_true] at hall2
                    have := hall2 e he
                    rw [hr.rd, h] at this
                    simp only [Bool.or_eq_true] at this
                    rcases this with h1 | h1
                    · exact .inl (by rw [← hr.j]; exact h1)
                    · exact .inr (.inr (apart_un h1)))
                refine go _ _ _ _ (q :: L) h2 (T.drop (h' := ⟨unhide st.heap.bl (hideAll ((Region.before all).getD j 0) recs st.heap.bl) st'.heap.bl, st'.heap.log ++ st.heap.log⟩) hfact rfl ⟨rfl, rfl, rfl, rfl, fun _ => rfl, fun h => by simp at h⟩ rfl ?_ (fun b hb => ?_) ?_ (fun x hx b hb hb2 => heavy_ahead T hall hx hb hb2)) d2 (by omega)
                · exact unhide_length _ _ _ hlen
                · have hb : b < (unhide st.heap.bl (hideAll ((Region.before all).getD j 0) recs st.heap.bl) st'.heap.bl).length := hb
                  rw [unhide_length _ _ _ hlen] at hb
                  show (unhide st.heap.bl (hideAll ((Region.before all).getD j 0) recs st.heap.bl) st'.heap.bl)[b]? = _
                  rw [unhide_get _ _ _ _ hhl hlen]
                  simp only [q]
                  split
                  · rename_i hc; rw [T.heap b hc.1]; rfl
                  · rw [List.getElem?_eq_getElem hb]; rfl
                · obtain ⟨new, l1, l2, l3⟩ := h1.1
                  simp only [List.append_nil] at l1
                  refine ⟨st'.heap.log, rfl, by show _ ≤ (unhide _ _ _).length; rw [unhide_length _ _ _ hlen]; exact hlen, fun b o hb hno => ?_⟩
                  by_cases hlv : liveAt (hideAll ((Region.before all).getD j 0) recs st.heap.bl) b = false
                  · have e1 : (unhide st.heap.bl (hideAll ((Region.before all).getD j 0) recs st.heap.bl) st'.heap.bl)[b]? = st.heap.bl[b]? := by rw [unhide_get _ _ _ _ hhl hlen, if_pos ⟨hb, hlv⟩]
                    show cellOf (unhide _ _ _) b o = _
                    unfold cellOf
                    rw [e1]
                  · have hlv : liveAt (hideAll ((Region.before all).getD j 0) recs st.heap.bl) b = true := by simpa using hlv
                    have e1 : (unhide st.heap.bl (hideAll ((Region.before all).getD j 0) recs st.heap.bl) st'.heap.bl)[b]? = st'.heap.bl[b]? := by rw [unhide_get _ _ _ _ hhl hlen, if_neg (by rw [hlv]; simp)]
                    obtain ⟨x, hx1, hx2⟩ := liveAt_true hlv
                    have hx3 := (hideAll_live hx1 hx2).1
                    have := l3 b o (by simp only [hhl]; exact hb) (fun y hy => hno y (by rw [l1]; exact hy))
                    show cellOf (unhide _ _ _) b o = _
                    rw [show cellOf (unhide st.heap.bl (hideAll ((Region.before all).getD j 0) recs st.heap.bl) st'.heap.bl) b o = cellOf st'.heap.bl b o by unfold cellOf; rw [e1], this, cellOf_some hx1, cellOf_some hx3]
              | _ => exact h1.elim
        · -- not wanted
          let q : PR := { j, o, v := undefA, out := fun _ => none, lo := st.heap.bl.length, hi := st.heap.bl.length, wr := [], rd := none, fell := false }
          have hfact : Fact C all st0 h0 q L := T.fact (r := q) hat rfl hdst1 rfl (Nat.le_refl _) (fun _ _ => rfl) ⟨envOf all st.env o, hE, .skip rfl hw rfl rfl (fun _ => rfl)⟩ (fun b p m h => by simp [q] at h) (fun _ _ _ _ _ h => absurd rfl h) (fun _ _ _ _ _ _ => .inr (.inl rfl))
          exact go _ _ dead pn (q :: L) h (T.add (h' := st.heap) hfact rfl ⟨rfl, rfl, rfl, rfl, fun h => by simp at h, fun _ _ _ => rfl⟩ rfl rfl (fun b hb => T.heap b hb) (.refl _) (.inr fun _ _ => rfl)) d2 (by omega)

end
end Go.Ev

/- The evaluator is sound. -/
namespace Go.Ev
open Go

section
variable {C : Ctx} {all : Array Oper} {st0 : St}

def h0Of (st0 : St) (b : Nat) : Blk := (st0.heap.bl[b]?).getD .dead

theorem heapF_none {h0 : Nat → Blk} (L : List PR) (b : Nat) : heapF h0 (fun _ => false) L b = h0 b := by
  induction L with
  | nil => rfl
  | cons r L ih => simp [heapF, ih]

theorem envF_none {e0 : Nat → Option AV} (L : List PR) (x : Nat) : envF e0 (fun _ => false) L x = e0 x := by
  induction L with
  | nil => rfl
  | cons r L ih => simp [envF, ih]

theorem post_mask {w w' : World} {I I' : Nat → Prop} {μ μ' : Mu} {H H1 H2 : List Blk} (p : Post C w I μ H w' I' μ' H1) (hl : H2.length = H1.length) (hm : ∀ (b : Nat) (x : Blk), H2[b]? = some x → x.live = true → H1[b]? = some x) : Post C w I μ H w' I' μ' H2 :=
  ⟨p.keep, p.sub, p.new, fun b hb => p.mu b (by rw [← hl]; exact hb), by rw [hl]; exact p.len, p.hr.mask hm, fun cb ⟨b, x, L, h1, h2, h3, h4⟩ => p.own cb ⟨b, x, L, hm b x h1 (Blk.live_of_mut h2), h2, h3, h4⟩⟩

theorem post_pad {w w' : World} {I : Nat → Prop} {μ : Mu} {H H2 : List Blk} (h : HR C w I μ H) (hs : Beside w w') (hh : w'.heap = w.heap) (hl : H.length ≤ H2.length) (hm : ∀ (b : Nat) (x : Blk), H2[b]? = some x → x.live = true → H[b]? = some x) : Post C w I μ H w' I μ H2 := by
  have p := post_same h hs hh
  exact ⟨p.keep, p.sub, p.new, fun _ _ => rfl, hl, p.hr.mask hm, fun cb ⟨b, x, L, h1, h2, h3, h4⟩ => p.own cb ⟨b, x, L, hm b x h1 (Blk.live_of_mut h2), h2, h3, h4⟩⟩

theorem delDst_get (l : List Oper) (t : Tr) (x : Nat) {a : AV} (h : (delDst l t).get x = some a) : t.get x = some a ∧ ∀ o, o ∈ l → o.dst ≠ some x := by
  unfold delDst at h
  induction l generalizing t with
  | nil => exact ⟨h, fun o ho => by simp at ho⟩
  | cons o l ih =>
    simp only [List.foldl_cons] at h
    obtain ⟨h1, h2⟩ := ih _ h
    cases hd : o.dst with
    | none =>
      rw [hd] at h1
      refine ⟨h1, fun o' ho' => ?_⟩
      rcases List.mem_cons.1 ho' with rfl | ho'
      · rw [hd]; simp
      · exact h2 o' ho'
    | some d =>
      rw [hd] at h1
      simp only [Tr.get_del] at h1
      split at h1
      · simp at h1
      · rename_i hne
        refine ⟨h1, fun o' ho' => ?_⟩
        rcases List.mem_cons.1 ho' with rfl | ho'
        · rw [hd]; simpa using hne
        · exact h2 o' ho'

theorem tinv0 (all : Array Oper) (st0 : St) : TInv C all st0 (h0Of st0) [] 0 st0 [] 0 none :=
  ⟨.nil, fun r hr => by simp at hr, rfl, fun x _ => rfl, rfl, fun b hb => by simp [h0Of, heapF, hb], .refl _, .nil, fun d hd => by simp at hd, fun F hF => by simp at hF, fun i hi => by omega, fun _ => rfl, fun v jf h => by simp at h⟩

theorem uniq {h0 : Nat → Blk} {L : List PR} (hf : Facts C all st0 h0 L) {q r : PR} (hq : q ∈ L) (hr : r ∈ L) (e : q.j = r.j) : q = r := by
  obtain ⟨A, B, rfl⟩ := List.append_of_mem hr
  rcases List.mem_append.1 hq with hq | hq
  · obtain ⟨B', k1, k2⟩ := hf.later hq
    have := k1.lt r k2; omega
  · rcases List.mem_cons.1 hq with rfl | hq
    · rfl
    · have := hf.at.lt q hq; omega

theorem draw_core (hC : CtxOK C) (hs : Stat all) {L : List PR} {st' : St} {recs : List Rec} {dead : Nat} {pn : Option (AV × Nat)} (T : TInv C all st0 (h0Of st0) L all.size st' recs dead pn) {id : Nat}
    {w : World} {I : Nat → Prop} {μ : Mu} {b : Frame} {t : Array Value} {d : List Deferred} {fm : Option FrameMode} (hp : Pre C w I μ st0 b t d fm) (hf : Fresh μ st0.heap.bl.length st'.heap.bl.length) :
    ∃ order, Outcome C all st0 (h0Of st0) L st'.heap.bl.length w I μ { w with drawn := w.drawn + 1 } b t d fm order ∧
      ∀ k cs, Steps C.P (lone (mk b t (.code (.region id all true) :: k) d) cs w) (lone (mk b t (.inRegion all order :: k) d) cs { w with drawn := w.drawn + 1 }) := by
  have hle := T.facts.hi_le
  have hlen := T.len
  have hS : (fun i => (Array.replicate all.size false).getD i false) = fun _ => false := by
    funext i
    rw [Array.getD_eq_getD_getElem?, Array.getElem?_replicate]
    split <;> rfl
  have hpad : ∀ (bb : Nat) (x : Blk), (heapL (h0Of st0) (fun _ => false) L st'.heap.bl.length)[bb]? = some x → x.live = true → st0.heap.bl[bb]? = some x := fun bb x hb hx => by
    rw [heapL_get] at hb
    split at hb
    · rw [heapF_none] at hb
      have hb := Option.some.inj hb
      unfold h0Of at hb
      cases hg : st0.heap.bl[bb]? with
      | none => rw [hg] at hb; simp at hb; subst hb; simp [Blk.live] at hx
      | some y => rw [hg] at hb; simp at hb; rw [hb]
    · simp at hb
  have p0 : Post C w I μ st0.heap.bl { w with drawn := w.drawn + 1 } I μ (heapL (h0Of st0) (fun _ => false) L st'.heap.bl.length) :=
    post_pad hp.hr ⟨rfl, rfl, rfl⟩ rfl (by simp [heapL]; omega) hpad
  have her : ∀ cb, I cb → ({ w with drawn := w.drawn + 1 } : World).heap[cb]? = w.heap[cb]? := fun _ _ => rfl
  have M0 : MInv C st0 (h0Of st0) L st'.heap.bl.length w I μ (fun i => (Array.replicate all.size false).getD i false) { w with drawn := w.drawn + 1 } I μ b t d fm := by
    rw [hS]
    refine ⟨p0, fun x a hx => ?_, hp.size, fun r hr _ i h1 h2 => hf i ?_ ?_, hp.dr.mono (fun _ h => h) her (fun _ _ h => h), ?_, hp.rnd⟩
    · rw [envF_none] at hx
      obtain ⟨v, h1, h2⟩ := hp.er x a hx
      exact ⟨v, h1, h2.mono (fun _ h => h) her (fun _ _ h => h)⟩
    · obtain ⟨A, B, rfl⟩ := List.append_of_mem hr
      have hfB : Facts C all st0 (h0Of st0) B := by have := T.facts.tail; cases this with | cons _ _ _ h2 => exact h2
      have := hfB.hi_le.1
      have := T.facts.at.lo
      omega
    · have := hle.2 r hr
      omega
    · have h1 := hp.pan
      cases hpan : st0.pan with
      | no => rw [hpan] at h1; exact h1
      | live v =>
        rw [hpan] at h1
        obtain ⟨q1, cv, q2, q3⟩ := h1
        exact ⟨q1, cv, q2, q3.mono (fun _ h => h) her (fun _ _ h => h)⟩
      | done => rw [hpan] at h1; exact h1
  have hl := draw_loop hs T.facts (N := st'.heap.bl.length) (by omega) (dead := fun i => i < all.size ∧ ¬ ∃ r, r ∈ L ∧ r.j = i) (fun i hi => ?_) (fun i hi => ?_) all.size (w.tape w.drawn (.order b.fn id)) (Array.replicate all.size false) { w with drawn := w.drawn + 1 } I μ t d (by simp)
    (fun k o e hk => by rw [congrFun hS k] at hk; simp at hk) (fun i hi => by rw [congrFun hS i] at hi; simp at hi) (fun F _ _ => congrFun hS F.j) ?_ M0
  · refine ⟨_, hl, fun k cs => .one ?_⟩
    have := st_region_draw (P := C.P) (b := b) (t := t) (d := d) (k := k) (cs := cs) (w := w) (id := id) (ops := all)
    rw [this]
    simp only [Region.schedule, hC.mixed, Bool.true_or, if_true, Region.linearise]
  · rcases T.cover i hi.1 with h | h
    · exact absurd h hi.2
    · obtain ⟨h1, h2⟩ := T.bit i h
      rcases h2 with ⟨F, k1, k2, k3⟩ | ⟨k1, d', k2, k3⟩
      · exact absurd ⟨F, k1, k3⟩ hi.2
      · refine ⟨d', k2, ?_⟩
        obtain ⟨h3, h4⟩ := T.bit d' k3
        rcases h4 with h4 | ⟨h4, _⟩
        · exact .inr h4
        · exact .inl ⟨h3, h4⟩
  · by_cases h : ∃ r, r ∈ L ∧ r.j = i
    · exact .inl h
    · exact .inr ⟨hi, h⟩
  · have : ((List.range all.size).filter fun i => !(Array.replicate all.size false).getD i false) = List.range all.size := by
      apply List.filter_eq_self.2
      intro i _
      rw [congrFun hS i]; rfl
    rw [this]; simp

theorem draw_sim (hC : CtxOK C) (hs : Stat all) {L : List PR} {st' : St} {recs : List Rec} {dead : Nat} (T : TInv C all st0 (h0Of st0) L all.size st' recs dead none) {id : Nat} : ExSim C [.code (.region id all true)] st0 .normal st' := by
  have hno : ∀ F, F ∈ L → F.fell = true → False := fun F hF hf => by
    have := T.fbit F hF hf
    rw [T.nofall rfl] at this
    simp at this
  have hsame := T.same
  refine ⟨T.log, by rw [hsame], by rw [hsame], fun w I μ b t d fm hp hf => ?_⟩
  obtain ⟨order, ho, hst⟩ := draw_core hC hs T (id := id) hp hf
  rcases ho with ⟨S, w', I', μ', t', d', M, hS, hnf, h4⟩ | ⟨S, w', I', μ', t', d', A, F, B, cv, e1, e2, _⟩
  · have hin : ∀ q, q ∈ L → S q.j = all1 q.j := fun q hq => by
      rw [hS q.j (T.lt q hq)]; rfl
    have hheap : heapL (h0Of st0) S L st'.heap.bl.length = st'.heap.bl := by
      apply List.ext_getElem?
      intro i
      rw [heapL_get]
      split
      · rename_i hi
        rw [T.heap i hi, heapF_congr fun q hq _ => hin q hq]
      · rename_i hi
        rw [List.getElem?_eq_none (by omega)]
    have pp := M.post
    rw [hheap] at pp
    refine ⟨w', I', μ', t', d', fm, undef, pp, fun x a hx => ?_, M.size, by rw [hsame]; exact M.dr, by rw [hsame]; exact .refl _ _, fun v hv => (by cases hv), fun k cs ht => ?_⟩
    · rw [T.env x (fun F hF hf => (hno F hF hf).elim), ← envF_congr fun q hq _ => hin q hq] at hx
      exact M.er x a hx
    · rw [setTop_self ht]
      exact ((hst k cs).trans (h4 k cs ht)).trans (.one st_region_end)
  · exact (hno F (by rw [e1]; simp) e2).elim

theorem draw_simp (hC : CtxOK C) (hs : Stat all) {L : List PR} {st' : St} {recs : List Rec} {dead : Nat} {v : AV} {jf : Nat} (T : TInv C all st0 (h0Of st0) L all.size st' recs dead (some (v, jf))) {id : Nat} :
    ExSim C [.code (.region id all true)] st0 (.panic v) { st' with env := delDst all.toList st'.env, heap := { st'.heap with bl := hideAll ((Region.before all).getD jf 0) (recs.filter fun x => !(x.j == jf)) st'.heap.bl } } := by
  obtain ⟨F, f1, f2, f3, f4, f5, f6⟩ := T.fall v jf rfl
  have hsame := T.same
  have hlen : (hideAll ((Region.before all).getD jf 0) (recs.filter fun x => !(x.j == jf)) st'.heap.bl).length = st'.heap.bl.length := hideAll_length _ _ _
  have hlo : ∀ q, q ∈ L → st0.heap.bl.length ≤ q.lo := fun q hq => by
    obtain ⟨A, B, rfl⟩ := List.append_of_mem hq
    have hfB : Facts C all st0 (h0Of st0) B := by have := T.facts.tail; cases this with | cons _ _ _ h2 => exact h2
    have := hfB.hi_le.1
    have := T.facts.at.lo
    omega
  have hlog : LogOK st0.heap { st'.heap with bl := hideAll ((Region.before all).getD jf 0) (recs.filter fun x => !(x.j == jf)) st'.heap.bl } := by
    obtain ⟨new, l1, l2, l3⟩ := T.log
    refine ⟨new, l1, by simp only [hlen]; exact l2, fun b o hb hn => ?_⟩
    rw [← l3 b o hb hn]
    unfold cellOf
    rw [hideAll_out fun r hr => ?_]
    rw [List.mem_filter] at hr
    obtain ⟨q, hq, hr2⟩ := T.recs.to hr.1
    have := hlo q hq
    have := hr2.lo
    omega
  refine ⟨hlog, by rw [hsame], by rw [hsame], fun w I μ b t d fm hp hf => ?_⟩
  have hf : Fresh μ st0.heap.bl.length st'.heap.bl.length := by
    have h : Fresh μ st0.heap.bl.length (hideAll ((Region.before all).getD jf 0) (recs.filter fun x => !(x.j == jf)) st'.heap.bl).length := hf
    rw [hlen] at h; exact h
  obtain ⟨order, ho, hst⟩ := draw_core hC hs T (id := id) hp hf
  rcases ho with ⟨S, w', I', μ', t', d', M, hS, hnf, h4⟩ | ⟨S, w', I', μ', t', d', A, F', B, cv, e1, e2, hn, p, he, hsz, hdr, hv, h4⟩
  · rw [hnf F f1] at f2; simp at f2
  · have hFF : F' = F := f5 F' (by rw [e1]; simp) e2
    subst hFF
    refine ⟨w', I', μ', t', d', fm, cv, post_mask p (by simp only [hlen]; simp [heapL]) (fun bb x hb hx => ?_), fun x a hx => ?_, by exact hsz, by rw [hsame]; exact hdr, by rw [hsame]; exact .refl _ _, fun v' hv' => (by cases hv'; rw [← f4]; exact hv), fun k cs ht => ?_⟩
    · obtain ⟨h1, h2⟩ := hideAll_live hb hx
      have hbl := (List.getElem?_eq_some_iff.1 h1).1
      rw [heapL_get, if_pos hbl]
      rw [T.heap bb hbl] at h1
      rw [← h1]
      congr 1
      refine heapF_congr fun q hq hqo => ?_
      show (S q.j || q.j == F'.j) = true
      by_cases hqF : q = F'
      · subst hqF; simp
      · have hah : Ah all q.j jf := by
          by_cases hbq : bb < q.lo
          · exact f6 q hq hqF bb hbq hqo
          · obtain ⟨e, he', hr⟩ := T.recs.of hq
            obtain ⟨B', hqf⟩ := T.facts.mem hq
            cases ha : ahead ((Region.before all).getD jf 0) e.j with
            | true => rw [← hr.j]; exact ha
            | false =>
              have hne : e.j ≠ jf := fun h => hqF (uniq T.facts hq f1 (by rw [← hr.j, h, f3]))
              have := h2 e (by rw [List.mem_filter]; exact ⟨he', by simpa using hne⟩) ha
              rw [hr.lo, hr.hi] at this
              exact absurd (hqf.outhi bb (by omega)) hqo
        rw [hn.pre q.j (by rw [f3]; exact hah)]
        rfl
    · obtain ⟨h1, h2⟩ := delDst_get _ _ _ hx
      have hnodst : ∀ q, q ∈ L → q.o.dst ≠ some x := fun q hq => by
        obtain ⟨B', hqf⟩ := T.facts.mem hq
        exact h2 q.o (by have := Array.mem_of_getElem? hqf.at_; simpa using this)
      rw [T.env x (fun q hq _ => hnodst q hq)] at h1
      rw [envF_congr (S' := S) fun q hq hd => absurd hd (hnodst q hq)] at h1
      exact he x a h1
    · rw [setTop_self ht]
      obtain ⟨k', q1, q2⟩ := h4 k cs ht
      exact ⟨k', q1, (hst k cs).trans q2⟩

theorem draw_cps {M : Nat} (ih : ∀ m, m ≤ M → SoundAt C m) {R : Type} {k : Res → Option R} {r : R} : ∀ (n : Nat), n ≤ M + 1 → ∀ (all : Array Oper) (bef : Array Nat) (j : Nat) (rest : List Oper) (st : St) (recs : List Rec) (dead : Nat) (pn : Option (AV × Nat)),
    run C n (.draw all bef j rest st recs dead pn) k = some r → ∃ e st', k (.ex e st') = some r := by
  intro n
  induction n with
  | zero => intro _ all bef j rest st recs dead pn h; simp [run_zero] at h
  | succ n ihn =>
    intro hn all bef j rest st recs dead pn h
    have go := ihn (by omega)
    cases rest with
    | nil =>
      rw [run_succ] at h; simp only [runS] at h
      split at h <;> exact ⟨_, _, h⟩
    | cons o rest =>
      rw [run_succ] at h; simp only [runS] at h
      rw [cond_eq_ite] at h
      split at h
      · exact go _ _ _ _ _ _ _ _ h
      · rcases wantedA_spec (C := C) h with ⟨h, _⟩ | ⟨h, _⟩
        · (try dsimp only at h)
          split at h
          · obtain ⟨res, _, h2⟩ := ih n (by omega) _ _ _ _ h
            (try dsimp only at h2)
            split at h2
            · exact go _ _ _ _ _ _ _ _ h2
            · split at h2
              · simp [fail] at h2
              · rw [cond_eq_ite] at h2
                split at h2
                · exact go _ _ _ _ _ _ _ _ h2
                · simp [fail] at h2
            · simp at h2
          · rw [cond_eq_ite] at h
            split at h
            · split at h
              · exact go _ _ _ _ _ _ _ _ h
              · simp [fail] at h
            · simp [fail] at h
          · split at h
            · simp [fail] at h
            · rw [cond_eq_ite] at h
              split at h
              · obtain ⟨res, _, h2⟩ := ih n (by omega) _ _ _ _ h
                (try dsimp only at h2)
                split at h2
                · rw [cond_eq_ite] at h2
                  split at h2
                  · exact go _ _ _ _ _ _ _ _ h2
                  · simp [fail] at h2
                · rw [cond_eq_ite] at h2
                  split at h2
                  · exact go _ _ _ _ _ _ _ _ h2
                  · simp [fail] at h2
                · simp at h2
              · simp [fail] at h
        · exact go _ _ _ _ _ _ _ _ h

/-- the evaluator is sound -/
theorem sound (hC : CtxOK C) : ∀ n, SoundAt C n := by
  intro n
  induction n using Nat.strongRecOn with
  | _ n ih =>
    cases n with
    | zero => intro task R k r h; simp [run_zero] at h
    | succ n =>
      have ihn := ih n (by omega)
      intro task R k r h
      cases task with
      | code c st =>
        obtain ⟨e, st', h1, h2⟩ := sound_code ihn (fun {ops st R k r id} h => by
          by_cases hd : dstOk st.nt ops = true ∧ regionOk ops (Region.before ops) = true
          · have hs := stat_of hd.2
            obtain ⟨L, st', recs, dead, pn, T, hk⟩ := draw_text (M := n) hs hd.1 (fun m hm => ih m (by omega)) n (by omega) 0 ops.toList st [] 0 none [] h (tinv0 ops st) (by simp) (Nat.zero_le _)
            cases pn with
            | none => exact ⟨_, _, fun _ _ => draw_sim hC hs T, hk⟩
            | some x => obtain ⟨v, jf⟩ := x; exact ⟨_, _, fun _ _ => draw_simp hC hs T, hk⟩
          · obtain ⟨e, st', h1⟩ := draw_cps (M := n) (fun m hm => ih m (by omega)) n (by omega) _ _ _ _ _ _ _ _ h
            exact ⟨e, st', fun h2 h3 => absurd ⟨h2, h3⟩ hd, h1⟩) (fun h => sound_range ihn h) h
        exact ⟨.ex e st', h1, h2⟩
      | ops all rest st => exact sound_ops ihn h
      | draw all bef j rest st recs dead pn =>
        obtain ⟨e, st', h1⟩ := draw_cps (M := n) (fun m hm => ih m (by omega)) (n + 1) (Nat.le_refl _) _ _ _ _ _ _ _ _ h
        exact ⟨.ex e st', trivial, h1⟩
      | op o st => exact sound_op ihn h
      | opl o st => exact sound_opl ihn h
      | call f args heap =>
        obtain ⟨o, h', p, h1, h2⟩ := sound_call hC ihn h
        exact ⟨.out o h' p, h1, h2⟩
      | dcall f args heap pan =>
        obtain ⟨o, h', p, h1, h2⟩ := sound_dcall hC ihn h
        exact ⟨.out o h' p, h1, h2⟩
      | round b args heap =>
        obtain ⟨o, h', p, h1, h2⟩ := sound_round ihn h
        exact ⟨.out o h' p, h1, h2⟩
      | leave fn st m =>
        obtain ⟨o, h', p, h1, h2⟩ := sound_leave hC ihn h
        exact ⟨.out o h' p, h1, h2⟩

end
end Go.Ev

/- Tables of a program's types and functions, as trees: the evaluator looks things up there. -/
namespace Go.Ev
open Go

inductive Tb (α : Type) where
  | nil
  | node (l : Tb α) (v : Option α) (r : Tb α)

noncomputable def Tb.get {α : Type} (t : Tb α) : Nat → Option α :=
  Tb.rec (motive := fun _ => Nat → Option α) (fun _ => none) (fun _ v _ gl gr i => Bool.rec (Bool.rec (gr (Nat.sub (Nat.div i 2) 1)) (gl (Nat.div i 2)) (Nat.beq (Nat.mod i 2) 1)) v (Nat.beq i 0)) t

noncomputable def Tb.look {α : Type} (T : Tb α) (n : Nat) (i : Nat) : Option α := Bool.rec none (T.get i) (Nat.ble (Nat.succ i) n)

theorem Tb.at_some {α : Type} {T : Tb α} {n i : Nat} {x : α} (h : T.look n i = some x) : i < n ∧ T.get i = some x := by
  unfold Tb.look at h
  cases hb : Nat.ble (Nat.succ i) n with
  | false => rw [hb] at h; simp at h
  | true => rw [hb] at h; exact ⟨Nat.le_of_ble_eq_true hb, h⟩

theorem at_of {α : Type} {T : Tb α} {n : Nat} {f : Nat → Option α} (h : (List.range n).map T.get = (List.range n).map f) {i : Nat} {x : α} (hi : T.look n i = some x) : i < n ∧ f i = some x := by
  obtain ⟨h1, h2⟩ := Tb.at_some hi
  have := congrArg (fun l => l[i]?) h
  simp only [List.getElem?_map, List.getElem?_range h1, Option.map_some, Option.some.injEq] at this
  exact ⟨h1, by rw [← this]; exact h2⟩

noncomputable def undOf (T : Tb TypeInfo) (n : Nat) (t : TypeId) : Option TypeDesc := match T.look n t with
  | some i => (match i.desc with
    | .named _ u => (match T.look n u with
      | some j => some j.desc
      | none => none)
    | d => some d)
  | none => none

theorem info_of {P : Program} {T : Tb TypeInfo} {n : Nat} (hn : P.types.size = n) (h : (List.range n).map T.get = (List.range n).map fun t => P.types[t]?) (t : TypeId) (i : TypeInfo) (hi : T.look n t = some i) : P.info? t = some i := by
  obtain ⟨h1, h2⟩ := at_of h hi
  have h3 : t < P.types.size := by rw [hn]; exact h1
  unfold Tables.info?
  rw [if_pos h3]
  exact h2

theorem und_of {P : Program} {T : Tb TypeInfo} {n : Nat} (hn : P.types.size = n) (h : (List.range n).map T.get = (List.range n).map fun t => P.types[t]?) (t : TypeId) (d : TypeDesc) (hd : undOf T n t = some d) : P.underlying t = some d := by
  unfold undOf at hd
  unfold Program.underlying
  split at hd
  · rename_i i hi
    rw [info_of hn h t i hi]
    cases hdesc : i.desc with
    | named nm u =>
      rw [hdesc] at hd
      obtain ⟨desc, _⟩ := i
      dsimp only at hdesc
      subst hdesc
      dsimp only at hd
      split at hd
      · rename_i j hj
        show Option.map (fun x => x.desc) (P.info? u) = some d
        rw [info_of hn h u j hj]
        exact hd
      · simp at hd
    | _ =>
      rw [hdesc] at hd
      obtain ⟨desc, _⟩ := i
      dsimp only at hdesc
      subst hdesc
      exact hd
  · simp at hd

theorem fn_of {P : Program} {T : Tb Func} {n : Nat} (h : (List.range n).map T.get = (List.range n).map fun t => P.funcs[t]?) (f : FuncId) (x : Func) (hx : T.look n f = some x) : P.funcs[f]? = some x := (at_of h hx).2

/-- the functions that are looked at are in order -/
noncomputable def fnOk (x : Func) : Bool := match x.body with
  | some b => codeOk x.ntmps b && !(x.name == "runtime.NumGoroutine")
  | none => true

end Go.Ev

/- What holds in one context holds in another that knows other contracts. Contracts out of runs. -/
namespace Go.Ev
open Go

/-- the two contexts are alike but for the contracts -/
structure Alike (C C' : Ctx) : Prop where
  P : C'.P = C.P
  gmaps : C'.gmaps = C.gmaps
  glob : C'.glob = C.glob
  info : C'.info = C.info

theorem Alike.symm {C C' : Ctx} (h : Alike C C') : Alike C' C := ⟨h.P.symm, h.gmaps.symm, h.glob.symm, h.info.symm⟩

section
variable {C C' : Ctx} {w : World} {I : Nat → Prop}

mutual
theorem VR.ctx {μ : Mu} {a : AV} {v : Value} (hc : Alike C C') : VR C w I μ a v → VR C' w I μ a v
  | .bool _ b => .bool _ b
  | .int _ k n => .int _ k n
  | .str _ s => .str _ s
  | .nilp _ => .nilp _
  | .ptr _ b o L h => .ptr _ b o L h
  | .gptr _ g o => .gptr _ g o
  | .lptr _ cs vs cb off o h1 h2 h3 h4 => .lptr _ cs vs cb off o h1 h2 (VRs.ctx hc h3) h4
  | .sl _ b o len cap c' L h1 h2 h3 h4 => .sl _ b o len cap c' L h1 h2 h3 h4
  | .nils _ => .nils _
  | .list _ cs vs cb off len c' full h1 h2 h3 h4 h5 h6 => .list _ cs vs cb off len c' full h1 h2 (VRs.ctx hc h3) h4 h5 h6
  | .nilm _ => .nilm _
  | .map _ b L h => .map _ b L h
  | .gmap _ g r kvs kvs' en clk h1 h2 h3 h0 h4 h5 => .gmap _ g r kvs kvs' en clk (by rw [hc.gmaps]; exact h1) h2 h3 h0 (VRs.ctx hc h4) (VRs.ctx hc h5)
  | .func _ f first cap v1 v2 h1 h2 => .func _ f first cap v1 v2 (VRs.ctx hc h1) (VRs.ctx hc h2)
  | .yield _ b L h => .yield _ b L h
  | .nilFunc _ => .nilFunc _
  | .iface _ t a v h => .iface _ t a v (VR.ctx hc h)
  | .nilIface _ => .nilIface _
  | .agg _ cs vs h1 h2 => .agg _ cs vs (VRs.ctx hc h1) h2
  | .tuple _ cs vs h1 => .tuple _ cs vs (VRs.ctx hc h1)
theorem VRs.ctx {μ : Mu} {as : List AV} {vs : List Value} (hc : Alike C C') : VRs C w I μ as vs → VRs C' w I μ as vs
  | .nil _ => .nil _
  | .cons _ a v as vs h1 h2 => .cons _ a v as vs (VR.ctx hc h1) (VRs.ctx hc h2)
end

theorem ER.ctx {μ : Mu} {env : Tr} {t : Array Value} (hc : Alike C C') (h : ER C w I μ env t) : ER C' w I μ env t := fun x a hx => by
  obtain ⟨v, h1, h2⟩ := h x a hx
  exact ⟨v, h1, h2.ctx hc⟩

theorem Alike.size (hc : Alike C C') (t : TypeId) : C'.size t = C.size t := by unfold Ctx.size; rw [hc.info]

theorem BR.ctx {μ : Mu} {L : Loc} {x : Blk} (hc : Alike C C') (h : BR C w I μ L x) : BR C' w I μ L x := by
  cases x with
  | dead => trivial
  | cells e cs t frz =>
    obtain ⟨c, fr, h1, h2, h3, h4, h5, h6⟩ := h
    refine ⟨c, fr, h1, h2, by rw [hc.size]; exact h3, h4, fun i a hi => ?_, h6⟩
    obtain ⟨h7, v, h8, h9⟩ := h5 i a hi
    exact ⟨h7, v, h8, h9.ctx hc⟩
  | map es =>
    obtain ⟨en, clk, h1, h2, h3⟩ := h
    exact ⟨en, clk, h1, h2.ctx hc, h3.ctx hc⟩
  | loop l =>
    obtain ⟨lo, h1, h2⟩ := h
    exact ⟨lo, h1, ⟨h2.st, h2.pending, h2.size, h2.env.ctx hc, h2.params, h2.assign, h2.body, h2.lt⟩⟩
  | dmark => exact h

theorem HR.ctx {μ : Mu} {H : List Blk} (hc : Alike C C') (h : HR C w I μ H) : HR C' w I μ H := by
  refine ⟨fun b x hb hl => ?_, h.apart, h.mt, h.fro, h.lt, fun g cs hg => ?_⟩
  · obtain ⟨L, h1, h2⟩ := h.blk b x hb hl
    exact ⟨L, h1, h2.ctx hc⟩
  · rw [hc.glob] at hg
    obtain ⟨h1, h2, vs, h3, h4⟩ := h.glob g cs hg
    exact ⟨h1, h2, vs, h3, h4.ctx hc⟩

theorem Post.ctx {μ μ' : Mu} {H H' : List Blk} {w' : World} {I' : Nat → Prop} (hc : Alike C C') (p : Post C w I μ H w' I' μ' H') : Post C' w I μ H w' I' μ' H' :=
  ⟨p.keep, p.sub, p.new, p.mu, p.len, p.hr.ctx hc, p.own⟩

theorem CallSim.ctx {f : FuncId} {args : List AV} {heap h' : Hp} {o : Outc} (hc : Alike C C') (h : CallSim C f args heap o h') : CallSim C' f args heap o h' := by
  cases o with
  | ret v =>
    refine ⟨h.1, fun w I μ vargs hr hf hv => ?_⟩
    obtain ⟨w', I', μ', cv, p, h1, h2⟩ := h.2 w I μ vargs (hr.ctx hc.symm) hf (hv.ctx hc.symm)
    exact ⟨w', I', μ', cv, p.ctx hc, h1.ctx hc, by rw [hc.P]; exact h2⟩
  | panic v =>
    refine ⟨h.1, fun w I μ vargs hr hf hv => ?_⟩
    obtain ⟨w', I', μ', cv, p, h1, h2⟩ := h.2 w I μ vargs (hr.ctx hc.symm) hf (hv.ctx hc.symm)
    exact ⟨w', I', μ', cv, p.ctx hc, h1.ctx hc, by rw [hc.P]; exact h2⟩

end

/-- contracts -/
abbrev Ovs := FuncId → Option (List AV → Option (Bool × CT))
abbrev Ovh := FuncId → Option (List AV → Hp → Option (Bool × CT × Hp))
def noH : Ovh := fun _ => none

/-- a context whose contracts are these -/
def Ctx.knows (C : Ctx) (ov : Ovs) (ovh : Ovh := noH) : Ctx := { C with ov := ov, ovh := ovh }

theorem alike_knows (C : Ctx) (ov : Ovs) (ovh : Ovh := noH) : Alike C (C.knows ov ovh) := ⟨rfl, rfl, rfl, rfl⟩

/-- a contract holds in a context -/
def Holds (C : Ctx) (f : FuncId) (g : List AV → Option (Bool × CT)) : Prop := ∀ args o, g args = some (true, o) → AV.hasAddr.go args = false → CallSim C f args ⟨[], []⟩ o.ev ⟨[], []⟩
def HoldsH (C : Ctx) (f : FuncId) (g : List AV → Hp → Option (Bool × CT × Hp)) : Prop := ∀ args heap o h', g args heap = some (true, o, h') → CallSim C f args heap o.ev h'

/-- what is asked of a context beside its contracts -/
structure BaseOK (C : Ctx) : Prop where
  noCount : ∀ (f : FuncId) (fn : Func), C.fn f = some fn → fn.body.isSome = true → fn.name ≠ "runtime.NumGoroutine"
  code : ∀ (f : FuncId) (fn : Func) (b : Code), C.fn f = some fn → fn.body = some b → codeOk fn.ntmps b = true
  mixed : C.P.follows .mixedOrders = true
  ext : ∀ f g, C.ext f = some g → ∀ args v, g args = some v → ∀ w I μ vargs, VRs C w I μ args vargs → ∃ cv, (callFunc f vargs.toArray).run C.P w = .ok (.value cv) w ∧ VR C w I μ v cv

theorem noH_ok {C : Ctx} : ∀ f g, noH f = some g → HoldsH C f g := fun f g h => by cases h

theorem ctxOK_knows {C : Ctx} (hb : BaseOK C) {ov : Ovs} (h : ∀ f g, ov f = some g → Holds C f g) {ovh : Ovh} (h2 : ∀ f g, ovh f = some g → HoldsH C f g := by exact noH_ok) : CtxOK (C.knows ov ovh) :=
  ⟨hb.noCount, hb.code, hb.mixed, fun f g hf args o ho ha => (h f g hf args o ho ha).ctx (alike_knows C ov ovh), fun f g hf args heap o h' ho => (h2 f g hf args heap o h' ho).ctx (alike_knows C ov ovh),
  fun f g hf args v hv w I μ vargs hvs => by
    obtain ⟨cv, h1, h2⟩ := hb.ext f g hf args v hv w I μ vargs (hvs.ctx (alike_knows C ov ovh).symm)
    exact ⟨cv, h1, h2.ctx (alike_knows C ov ovh)⟩⟩

/-- a contract out of a run that knows other contracts -/
theorem holds_of_run {C : Ctx} (hb : BaseOK C) {ov : Ovs} (h : ∀ f g, ov f = some g → Holds C f g) {ovh : Ovh} {f : FuncId} {args : List AV} {heap heap' : Hp} {o : Outc} {n : Nat} {p : Pan}
    (hr : run (C.knows ov ovh) n (.call f args heap) some = some (.out o heap' p)) (h2 : ∀ f g, ovh f = some g → HoldsH C f g := by exact noH_ok) : CallSim C f args heap o heap' := by
  obtain ⟨res, h1, h2⟩ := sound (ctxOK_knows hb h h2) n _ _ _ _ hr
  cases h2
  exact CallSim.ctx (alike_knows C ov ovh).symm h1

/- ## functions without Go text -/

theorem three_ok {P : Program} {w : World} (a b c : Int) (hc : c.toNat ≤ 1) : (Extern.MathBitsCarry.three "Add64" #[.int .u64 a, .int .u64 b, .int .u64 c]).run P w = .ok (a.toNat, b.toNat, c.toNat) w := by
  have hc' : ¬ c.toNat > 1 := Nat.not_lt.2 hc
  show (do
      let c := (← asInt (.int .u64 c)).toNat
      if c > 1 then unsupported (.noEntry ("extern/math/bits." ++ "Add64" ++ ": a carry that is neither 0 nor 1"))
      pure ((← asInt (.int .u64 a)).toNat, (← asInt (.int .u64 b)).toNat, c) : Sem (Nat × Nat × Nat)).run P w = _
  have ha : ∀ x : Int, asInt (.int .u64 x) = pure x := fun x => rfl
  simp only [ha, pure_bind, hc', if_false]
  rfl

theorem add64_ok {P : Program} {w : World} (a b c : Int) (hc : c.toNat ≤ 1) : (do let v ← (do let (x, y, c) ← Extern.MathBitsCarry.three "Add64" #[.int .u64 a, .int .u64 b, .int .u64 c]; pure (Extern.MathBitsCarry.pair ((x + y + c) % Extern.MathBitsCarry.m64) ((x + y + c) / Extern.MathBitsCarry.m64)) : Sem Value); pure (Next.value v) : Sem Next).run P w =
    .ok (.value (.tuple #[.int .u64 (Int.ofNat ((a.toNat + b.toNat + c.toNat) % Extern.MathBitsCarry.m64)), .int .u64 (Int.ofNat ((a.toNat + b.toNat + c.toNat) / Extern.MathBitsCarry.m64))])) w := by
  rw [Sem.run_bind, Sem.run_bind, three_ok a b c hc]
  rfl

end Go.Ev

/- Pieces of code by runs of their own: for loops with symbolic bounds. -/
namespace Go.Ev
open Go

section
variable {C : Ctx} {st st' : St} {e : Ex} {items : List Item}

/-- what is known of a temporary may be forgotten -/
theorem ExSim.forget (h : ExSim C items st e st') {env : Tr} (hs : ∀ x a, st.env.get x = some a → env.get x = some a) : ExSim C items { st with env } e st' := by
  obtain ⟨l, n, r, h⟩ := h
  exact ⟨l, n, r, fun w I μ b t d fm hp hf => h w I μ b t d fm ⟨hp.hr, fun x a hx => hp.er x a (hs x a hx), hp.size, hp.dr, hp.pan, hp.rnd⟩ hf⟩

/-- .. of what is known behind it, too -/
theorem ExSim.forget' (h : ExSim C items st e st') {env : Tr} (hs : ∀ x a, env.get x = some a → st'.env.get x = some a) : ExSim C items st e { st' with env } := by
  obtain ⟨l, n, r, h⟩ := h
  refine ⟨l, n, r, fun w I μ b t d fm hp hf => ?_⟩
  obtain ⟨w', I', μ', t', d', fm', pv, p, her, hrest⟩ := h w I μ b t d fm hp hf
  exact ⟨w', I', μ', t', d', fm', pv, p, fun x a hx => her x a (hs x a hx), hrest⟩

/-- a piece of code, by a run -/
theorem exsim_of_run (hC : CtxOK C) {c : Code} {n : Nat} (hc : codeOk st.nt c = true) (hr : run C n (.code c st) some = some (.ex e st')) : ExSim C [.code c] st e st' := by
  obtain ⟨res, h1, h2⟩ := sound hC n _ _ _ _ hr
  cases h2
  exact h1 hc

/-- a function's body, then what it returns: a call -/
theorem callsim_of_exsim (hC : CtxOK C) {f : FuncId} {fn : Func} {body : Code} {args : List AV} {heap : Hp} {st1 : St} {vs : List AV} (hfn : C.fn f = some fn) (hb : fn.body = some body)
    (h1 : ExSim C [.code body] { env := Tr.ofList args 0 .nil, nt := fn.ntmps, heap, defers := [], pan := .no, rnd := false } e st1) (he : e = .normal ∨ e = .ret) (hd : st1.defers = []) (hv : resultsA C st1 fn.results.toList = some vs) :
    CallSim C f args heap (.ret (resultA vs)) st1.heap := by
  have hm : modeOf e = .returning := by rcases he with rfl | rfl <;> rfl
  refine call_join hC hfn hb h1 (fun id h => by rcases he with rfl | rfl <;> cases h) ?_
  have hrun : run C 1 (.leave fn st1 .returning) some = some (.out (.ret (resultA vs)) st1.heap st1.pan) := by
    rw [run_succ]; simp only [runS, hd, hv]
  obtain ⟨res, h3, h4⟩ := sound hC 1 _ _ _ _ hrun
  cases h4
  rw [hm]
  exact h3

end
end Go.Ev

/- Pieces of code by runs, from a list of what is known of the temporaries to another. -/
namespace Go.Ev
open Go

noncomputable def cl : List (Nat × AV) → Tr
  | [] => .nil
  | (i, v) :: l => (cl l).set i v

noncomputable def mkS (nt : Nat) (l : List (Nat × AV)) : St := { env := cl l, nt, heap := ⟨[], []⟩, defers := [], pan := .no, rnd := false }

noncomputable def getAll (t : Tr) : List Nat → Option (List AV)
  | [] => some []
  | k :: ks => match t.get k with
    | some v => (match getAll t ks with
      | some vs => some (v :: vs)
      | none => none)
    | none => none

noncomputable def kPc (keys : List Nat) : Res → Option (Ex × List AV)
  | .ex e st => (match st.heap, st.defers, st.pan with
    | ⟨[], []⟩, [], .no => (match getAll st.env keys with
      | some vs => some (e, vs)
      | none => none)
    | _, _, _ => none)
  | _ => none

theorem cl_zip {t : Tr} : ∀ (keys : List Nat) (vs : List AV), getAll t keys = some vs → ∀ x a, (cl (keys.zip vs)).get x = some a → t.get x = some a := by
  intro keys
  induction keys with
  | nil => intro vs h x a hx; simp [getAll] at h; subst h; simp [cl] at hx; rw [Tr.get_nil] at hx; cases hx
  | cons k ks ih =>
    intro vs h x a hx
    rw [getAll] at h
    split at h
    · rename_i v hv
      split at h
      · rename_i vs' hvs
        cases h
        rw [List.zip_cons_cons, cl, Tr.get_set] at hx
        split at hx
        · rename_i he; subst he; cases hx; exact hv
        · exact ih _ hvs _ _ hx
      · cases h
    · cases h

section
variable {C : Ctx}

/-- a piece of code -/
def Pc (C : Ctx) (nt : Nat) (c : Code) (l : List (Nat × AV)) (e : Ex) (l' : List (Nat × AV)) : Prop := ExSim C [.code c] (mkS nt l) e (mkS nt l')

theorem pc_of_run' (hC : CtxOK C) {nt : Nat} {c : Code} {n : Nat} {l : List (Nat × AV)} (keys : List Nat) {e : Ex} {vs : List AV} (hc : codeOk nt c = true) {R : Type} {k : Res → Option R} {r : R}
    (hr : run C n (.code c (mkS nt l)) k = some r) (hk : ∀ res, k res = some r → kPc keys res = some (e, vs)) : Pc C nt c l e (keys.zip vs) := by
  obtain ⟨res, h1, h2⟩ := sound hC n _ _ _ _ hr
  have h2 := hk _ h2
  cases res with
  | ex e' st' =>
    have h3 : ExSim C [.code c] (mkS nt l) e' st' := h1 hc
    obtain ⟨env, nt', heap, defers, pan, rnd⟩ := st'
    have hn : nt' = nt := h3.2.1
    have hrn : rnd = false := h3.2.2.1
    subst hn; subst hrn
    simp only [kPc] at h2
    split at h2
    · split at h2
      · rename_i vs' hvs
        cases h2
        exact h3.forget' (cl_zip _ _ hvs)
      · cases h2
    · cases h2
  | _ => exact h1.elim

theorem pc_of_run (hC : CtxOK C) {nt : Nat} {c : Code} {n : Nat} {l : List (Nat × AV)} (keys : List Nat) {e : Ex} {vs : List AV} (hc : codeOk nt c = true)
    (hr : run C n (.code c (mkS nt l)) (kPc keys) = some (e, vs)) : Pc C nt c l e (keys.zip vs) := pc_of_run' hC keys hc hr fun _ h => h

theorem Pc.seq_n {nt : Nat} {a b : Code} {l l1 l2 : List (Nat × AV)} {e : Ex} (h : Pc C nt a l .normal l1) (k : Pc C nt b l1 e l2) : Pc C nt (.seq a b) l e l2 := ExSim.seq_n h k
theorem Pc.seq_a {nt : Nat} {a b : Code} {l l1 : List (Nat × AV)} {e : Ex} (h : Pc C nt a l e l1) (hn : e ≠ .normal) : Pc C nt (.seq a b) l e l1 := ExSim.seq_a h hn
theorem Pc.loop_n {nt : Nat} {a : Code} {l l1 l2 : List (Nat × AV)} {e : Ex} (h : Pc C nt a l .normal l1) (k : Pc C nt (.loop a) l1 e l2) : Pc C nt (.loop a) l e l2 := ExSim.loop_n h k
theorem Pc.loop_a {nt : Nat} {a : Code} {l l1 : List (Nat × AV)} {e : Ex} (h : Pc C nt a l e l1) (hn : e ≠ .normal) : Pc C nt (.loop a) l e l1 := ExSim.loop_a h hn
theorem Pc.block_here {nt id : Nat} {a : Code} {l l1 : List (Nat × AV)} (h : Pc C nt a l (.exit id) l1) : Pc C nt (.block id a) l .normal l1 := ExSim.block_here h
theorem Pc.scope_n {nt : Nat} {a : Code} {l l1 : List (Nat × AV)} (h : Pc C nt a l .normal l1) : Pc C nt (.scope a) l .normal l1 := ExSim.scope_n h

/-- a function's body: a call -/
theorem Pc.call (hC : CtxOK C) {f : FuncId} {fn : Func} {body : Code} {args : List AV} {l l1 : List (Nat × AV)} {e : Ex} {vs : List AV} (hfn : C.fn f = some fn) (hb : fn.body = some body)
    (hl : cl l = Tr.ofList args 0 .nil) (h : Pc C fn.ntmps body l e l1) (he : e = .normal ∨ e = .ret) (hv : resultsA C (mkS fn.ntmps l1) fn.results.toList = some vs) :
    CallSim C f args ⟨[], []⟩ (.ret (resultA vs)) ⟨[], []⟩ := by
  unfold Pc at h
  unfold mkS at h
  rw [hl] at h
  exact callsim_of_exsim hC hfn hb h he rfl hv

end
end Go.Ev

/- What a call has written may be told too amply. -/
namespace Go.Ev
open Go

theorem LogOK.more {h : Hp} {bl : List Blk} {n0 n2 : List (Nat × Nat × Nat)} (hl : LogOK h ⟨bl, n0 ++ h.log⟩) (hs : ∀ x ∈ n0, x ∈ n2) : LogOK h ⟨bl, n2 ++ h.log⟩ := by
  obtain ⟨new, h1, h2, h3⟩ := hl
  have e : n0 = new := List.append_cancel_right h1
  subst e
  exact ⟨n2, rfl, h2, fun b o hb hn => h3 b o hb fun x hx => hn x (hs x hx)⟩

theorem CallSim.more {C : Ctx} {f : FuncId} {args : List AV} {h : Hp} {o : Outc} {bl : List Blk} {n0 n2 : List (Nat × Nat × Nat)} (hc : CallSim C f args h o ⟨bl, n0 ++ h.log⟩) (hs : ∀ x ∈ n0, x ∈ n2) :
    CallSim C f args h o ⟨bl, n2 ++ h.log⟩ := by
  cases o with
  | ret v => exact ⟨hc.1.more hs, hc.2⟩
  | panic v => exact ⟨hc.1.more hs, hc.2⟩

end Go.Ev

/- Pieces of code by runs, over memory that stays as it is. -/
namespace Go.Ev
open Go

noncomputable def mkH (nt : Nat) (H : Hp) (l : List (Nat × AV)) : St := { env := cl l, nt, heap := H, defers := [], pan := .no, rnd := false }

noncomputable def kPcH (keys : List Nat) : Res → Option (Ex × List AV × Hp)
  | .ex e st => (match st.defers, st.pan with
    | [], .no => (match getAll st.env keys with
      | some vs => some (e, vs, st.heap)
      | none => none)
    | _, _ => none)
  | _ => none

section
variable {C : Ctx}

def PcH (C : Ctx) (nt : Nat) (H : Hp) (c : Code) (l : List (Nat × AV)) (e : Ex) (l' : List (Nat × AV)) : Prop := ExSim C [.code c] (mkH nt H l) e (mkH nt H l')

theorem pcH_of_run (hC : CtxOK C) {nt : Nat} {H : Hp} {c : Code} {n : Nat} {l : List (Nat × AV)} (keys : List Nat) {e : Ex} {vs : List AV} (hc : codeOk nt c = true)
    (hr : run C n (.code c (mkH nt H l)) (kPcH keys) = some (e, vs, H)) : PcH C nt H c l e (keys.zip vs) := by
  obtain ⟨res, h1, h2⟩ := sound hC n _ _ _ _ hr
  cases res with
  | ex e' st' =>
    have h3 : ExSim C [.code c] (mkH nt H l) e' st' := h1 hc
    obtain ⟨env, nt', heap, defers, pan, rnd⟩ := st'
    have hn : nt' = nt := h3.2.1
    have hrn : rnd = false := h3.2.2.1
    subst hn; subst hrn
    simp only [kPcH] at h2
    split at h2
    · split at h2
      · rename_i vs' hvs
        simp only [Option.some.injEq, Prod.mk.injEq] at h2
        obtain ⟨rfl, rfl, rfl⟩ := h2
        exact h3.forget' (cl_zip _ _ hvs)
      · cases h2
    · cases h2
  | _ => exact h1.elim

theorem PcH.seq_n {nt : Nat} {H : Hp} {a b : Code} {l l1 l2 : List (Nat × AV)} {e : Ex} (h : PcH C nt H a l .normal l1) (k : PcH C nt H b l1 e l2) : PcH C nt H (.seq a b) l e l2 := ExSim.seq_n h k
theorem PcH.seq_a {nt : Nat} {H : Hp} {a b : Code} {l l1 : List (Nat × AV)} {e : Ex} (h : PcH C nt H a l e l1) (hn : e ≠ .normal) : PcH C nt H (.seq a b) l e l1 := ExSim.seq_a h hn
theorem PcH.loop_n {nt : Nat} {H : Hp} {a : Code} {l l1 l2 : List (Nat × AV)} {e : Ex} (h : PcH C nt H a l .normal l1) (k : PcH C nt H (.loop a) l1 e l2) : PcH C nt H (.loop a) l e l2 := ExSim.loop_n h k
theorem PcH.loop_a {nt : Nat} {H : Hp} {a : Code} {l l1 : List (Nat × AV)} {e : Ex} (h : PcH C nt H a l e l1) (hn : e ≠ .normal) : PcH C nt H (.loop a) l e l1 := ExSim.loop_a h hn
theorem PcH.block_here {nt id : Nat} {H : Hp} {a : Code} {l l1 : List (Nat × AV)} (h : PcH C nt H a l (.exit id) l1) : PcH C nt H (.block id a) l .normal l1 := ExSim.block_here h

/-- a function's body: a call -/
theorem PcH.call (hC : CtxOK C) {f : FuncId} {fn : Func} {H : Hp} {body : Code} {args : List AV} {l l1 : List (Nat × AV)} {e : Ex} {vs : List AV} (hfn : C.fn f = some fn) (hb : fn.body = some body)
    (hl : cl l = Tr.ofList args 0 .nil) (h : PcH C fn.ntmps H body l e l1) (he : e = .normal ∨ e = .ret) (hv : resultsA C (mkH fn.ntmps H l1) fn.results.toList = some vs) :
    CallSim C f args H (.ret (resultA vs)) H := by
  unfold PcH at h
  unfold mkH at h
  rw [hl] at h
  exact callsim_of_exsim hC hfn hb h he rfl hv
end
end Go.Ev

/- Contracts for single arguments: a table of calls that were run. -/
namespace Go.Ev
open Go

def sameV : AV → AV → Bool
  | .bool a, .bool b => a == b
  | .int k n, .int k' m => k == k' && n == m
  | .str a, .str b => a == b
  | .nilp, .nilp => true
  | .nils, .nils => true
  | .nilm, .nilm => true
  | .nilFunc, .nilFunc => true
  | .nilIface, .nilIface => true
  | .agg a, .agg b => go a b
  | .list a n f, .list b m g => n == m && f == g && go a b
  | _, _ => false
where go : List AV → List AV → Bool
  | [], [] => true
  | x :: xs, y :: ys => sameV x y && go xs ys
  | _, _ => false

mutual
theorem sameV_eq : ∀ (a b : AV), sameV a b = true → a = b
  | .bool a, b, h => by cases b <;> simp [sameV] at h; rw [h]
  | .int k n, b, h => by cases b <;> simp [sameV] at h; rw [h.1, h.2]
  | .str a, b, h => by cases b <;> simp [sameV] at h; rw [h]
  | .nilp, b, h => by cases b <;> simp [sameV] at h; rfl
  | .ptr x y, b, h => by cases b <;> simp [sameV] at h
  | .gptr x y, b, h => by cases b <;> simp [sameV] at h
  | .lptr x y, b, h => by cases b <;> simp [sameV] at h
  | .sl x y z w, b, h => by cases b <;> simp [sameV] at h
  | .nils, b, h => by cases b <;> simp [sameV] at h; rfl
  | .list x y z, b, h => by
    cases b <;> simp [sameV] at h
    rename_i x' y' z'
    rw [sames_eq x x' h.2, h.1.1, h.1.2]
  | .nilm, b, h => by cases b <;> simp [sameV] at h; rfl
  | .map x, b, h => by cases b <;> simp [sameV] at h
  | .gmap x, b, h => by cases b <;> simp [sameV] at h
  | .func x y z, b, h => by cases b <;> simp [sameV] at h
  | .yield x, b, h => by cases b <;> simp [sameV] at h
  | .nilFunc, b, h => by cases b <;> simp [sameV] at h; rfl
  | .iface x y, b, h => by cases b <;> simp [sameV] at h
  | .nilIface, b, h => by cases b <;> simp [sameV] at h; rfl
  | .agg a, b, h => by
    cases b <;> simp [sameV] at h
    rename_i b
    rw [sames_eq a b h]
  | .tuple x, b, h => by cases b <;> simp [sameV] at h
theorem sames_eq : ∀ (a b : List AV), sameV.go a b = true → a = b
  | [], b, h => by cases b <;> simp [sameV.go] at h; rfl
  | x :: xs, b, h => by
    cases b with
    | nil => simp [sameV.go] at h
    | cons y ys =>
      simp [sameV.go] at h
      rw [sameV_eq x y h.1, sames_eq xs ys h.2]
end

def memoO : List (List AV × Outc) → List AV → Option (Bool × CT)
  | [], _ => none
  | (k, o) :: t, args => bif sameV.go k args then some (true, .leaf o) else memoO t args

theorem memo_holds {C : Ctx} {f : FuncId} {tab : List (List AV × Outc)} (h : ∀ x ∈ tab, CallSim C f x.1 ⟨[], []⟩ x.2 ⟨[], []⟩) : Holds C f (memoO tab) := by
  intro args o ho _
  induction tab with
  | nil => cases ho
  | cons x t ih =>
    obtain ⟨k, r⟩ := x
    rw [memoO] at ho
    cases hs : sameV.go k args with
    | true =>
      rw [hs] at ho
      simp only [cond_true, Option.some.injEq, Prod.mk.injEq, true_and] at ho
      subst ho
      rw [← sames_eq k args hs]
      exact h (k, r) (by simp)
    | false =>
      rw [hs] at ho
      exact ih (fun x hx => h x (by simp [hx])) ho

/- ## results are reckoned out at once -/
def forceN {β : Type} (n : Nat) (k : Nat → β) : β := Nat.rec (k 0) (fun p _ => k (Nat.succ p)) n
theorem forceN_eq {β : Type} (n : Nat) (k : Nat → β) : forceN n k = k n := by cases n <;> rfl
def forceI {β : Type} (n : Int) (k : Int → β) : β := match n with
  | .ofNat m => forceN m fun m => k (.ofNat m)
  | .negSucc m => forceN m fun m => k (.negSucc m)
theorem forceI_eq {β : Type} (n : Int) (k : Int → β) : forceI n k = k n := by
  cases n with
  | ofNat m => exact forceN_eq m (fun m => k (.ofNat m))
  | negSucc m => exact forceN_eq m (fun m => k (.negSucc m))

def forceV {β : Type} (v : AV) (k : AV → β) : β := match v with
  | .int t n => forceI n fun n => k (.int t n)
  | .agg cs => go cs fun cs => k (.agg cs)
  | .tuple cs => go cs fun cs => k (.tuple cs)
  | v => k v
where go {β : Type} (l : List AV) (k : List AV → β) : β := match l with
  | [] => k []
  | x :: xs => forceV x fun y => go xs fun ys => k (y :: ys)

mutual
theorem forceV_eq {β : Type} : ∀ (v : AV) (k : AV → β), forceV v k = k v
  | .int t n, k => by simp only [forceV, forceI_eq]
  | .agg cs, k => by simp only [forceV, forces_eq cs]
  | .tuple cs, k => by simp only [forceV, forces_eq cs]
  | .bool _, _ => rfl
  | .str _, _ => rfl
  | .nilp, _ => rfl
  | .ptr _ _, _ => rfl
  | .gptr _ _, _ => rfl
  | .lptr _ _, _ => rfl
  | .sl _ _ _ _, _ => rfl
  | .nils, _ => rfl
  | .list _ _ _, _ => rfl
  | .nilm, _ => rfl
  | .map _, _ => rfl
  | .gmap _, _ => rfl
  | .func _ _ _, _ => rfl
  | .yield _, _ => rfl
  | .nilFunc, _ => rfl
  | .iface _ _, _ => rfl
  | .nilIface, _ => rfl
theorem forces_eq {β : Type} : ∀ (l : List AV) (k : List AV → β), forceV.go l k = k l
  | [], _ => rfl
  | x :: xs, k => by simp only [forceV.go, forceV_eq x, forces_eq xs]
end

def forceT : CT → CT
  | .leaf (.ret v) => forceV v fun v => .leaf (.ret v)
  | .leaf (.panic v) => forceV v fun v => .leaf (.panic v)
  | .br b t f => .br b (forceT t) (forceT f)
theorem forceT_eq : ∀ T : CT, forceT T = T
  | .leaf (.ret v) => by simp only [forceT, forceV_eq]
  | .leaf (.panic v) => by simp only [forceT, forceV_eq]
  | .br b t f => by simp only [forceT, forceT_eq t, forceT_eq f]

def fc (g : List AV → Option (Bool × CT)) : List AV → Option (Bool × CT) := fun args => match g args with
  | some (c, T) => some (c, forceT T)
  | none => none
theorem fc_eq (g : List AV → Option (Bool × CT)) : fc g = g := by
  funext args
  unfold fc
  cases g args with
  | none => rfl
  | some x => obtain ⟨c, T⟩ := x; simp only [forceT_eq]

end Go.Ev

