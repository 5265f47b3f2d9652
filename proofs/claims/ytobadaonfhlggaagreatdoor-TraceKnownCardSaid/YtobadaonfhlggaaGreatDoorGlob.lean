/- A part of the proof that a law returns true: EvLaid SGlob. -/
import Derived.Test.YtobadaonfhlggaaGreatDoorEv2
import Derived.LaidMore
import Derived.OpenShut
import Derived.WideKeyElems2
import Derived.Test.YtobadaonfhlggaaGreatDoorOkay
import Derived.Test.YtobadaonfhlggaaGreatDoorRows
import Derived.LaidHandle
set_option linter.all false
set_option linter.unusedVariables false
set_option linter.unusedSimpArgs false
set_option linter.unnecessarySimpa false
/- From what the listed variables read as to what the evaluator asks of them. -/
namespace Go.Ev
open Go Go.WideShapes

/-- every block that is there -/
def Ist (w : World) (cb : Nat) : Prop := cb < w.heap.size

theorem ist_of {w : World} {b : Nat} {o} (h : w.heap[b]? = some o) : Ist w b := (Array.getElem?_eq_some_iff.1 h).1

theorem cellsAt_var {P : Program} {w : World} {n : String} {g : Nat} {cs : Array Value} (hg : P.globalNamed n = some g) (hv : w.var? P n = some cs) : CellsAt w g 0 cs.toList ∧ Ist w g := by
  simp only [World.var?, hg, Option.bind_some] at hv
  split at hv
  · rename_i c e fr hh
    cases hv
    exact ⟨⟨cs, e, fr, hh, fun i v hi => by simpa using hi⟩, ist_of hh⟩
  · cases hv

section
variable {H : Type} {enc : TypeId × Value → H} {P : Program} {w : World} {base : Nat} {sp : Nat → Bool} {held : Bool} {fuel : Nat} {t e : TypeId} {cs : List Value} {p : List MemPlace} {k : IntKind}

theorem ints_of_array {n : Nat} {l : List Int} (ht : P.underlying t = some (.array n e)) (he : P.underlying e = some (.int k)) (hc : P.cellsOf e = 1) (hct : P.cellsOf t = n)
    (h : DataW.trod enc P w base sp held fuel t cs = some (.agg (l.map fun n => .lit (.int k n)), p)) : cs = l.map (.int k) := by
  obtain ⟨xs, m, rfl, hx, hlen, hn, hel⟩ := DataW.trod_array ht h
  simp only [Prod.mk.injEq, DataW.agg.injEq] at hx
  have hll : l.length = n := by rw [← hn]; simpa using congrArg List.length hx.1
  apply List.ext_getElem?
  intro i
  rcases Nat.lt_or_ge i n with hi | hi
  · have h1 := hel i hi
    rw [hc, Nat.mul_one] at h1
    have hcl : i < cs.length := by omega
    have e1 : (cs.drop i).take 1 = [cs[i]] := by
      rw [List.drop_eq_getElem_cons hcl]; rfl
    rw [e1] at h1
    cases hxi : xs[i]? with
    | none => rw [List.getElem?_eq_none_iff] at hxi; omega
    | some y =>
      rw [hxi] at h1
      obtain ⟨m', e2, e3, _⟩ := DataW.trod_int he h1
      have e4 := congrArg (fun l => l[i]?) hx.1
      simp only [List.getElem?_map, hxi, Option.map_some] at e4
      cases hli : l[i]? with
      | none => rw [hli] at e4; simp at e4
      | some q =>
        rw [hli] at e4
        simp only [Option.map_some, Option.some.injEq] at e4
        rw [e3] at e4
        simp only [DataW.lit.injEq, Lit.int.injEq, true_and] at e4
        rw [List.getElem?_eq_getElem hcl, List.getElem?_map, hli]
        simp only [List.cons.injEq, and_true] at e2
        rw [e2, e4]; rfl
  · rw [List.getElem?_eq_none_iff.2 (by omega), List.getElem?_eq_none_iff.2 (by simp; omega)]

theorem ints_of_pair {fs : Array Field} {f0 f1 : Field} {a b : Int} (ht : P.underlying t = some (.struct fs)) (h0 : fs[0]? = some f0) (h1 : fs[1]? = some f1) (o0 : f0.offset = 0) (o1 : f1.offset = 1)
    (t0 : P.underlying f0.type = some (.int k)) (t1 : P.underlying f1.type = some (.int k)) (c0 : P.cellsOf f0.type = 1) (c1 : P.cellsOf f1.type = 1) (ct : P.cellsOf t = 2)
    (h : DataW.trod enc P w base sp held fuel t cs = some (.agg [.lit (.int k a), .lit (.int k b)], p)) : cs = [.int k a, .int k b] := by
  obtain ⟨xs, m, rfl, hx, hlen, hn, hel⟩ := DataW.trod_struct ht h
  simp only [Prod.mk.injEq, DataW.agg.injEq] at hx
  have g0 := hel 0 f0 h0
  have g1 := hel 1 f1 h1
  rw [o0, c0] at g0
  rw [o1, c1] at g1
  rw [ct] at hlen
  match cs, hlen with
  | [x, y], _ =>
    match xs, hx.1 with
    | [], hx1 => simp at hx1
    | [u], hx1 => simp at hx1
    | u :: v :: r, hx1 =>
      simp only [List.map_cons, List.cons.injEq] at hx1
      obtain ⟨m0, q0, q1, _⟩ := DataW.trod_int t0 (show DataW.trod enc P w base sp held m f0.type [x] = some u from g0)
      obtain ⟨m1, q2, q3, _⟩ := DataW.trod_int t1 (show DataW.trod enc P w base sp held m f1.type [y] = some v from g1)
      rw [q1] at hx1
      rw [q3] at hx1
      simp only [DataW.lit.injEq, Lit.int.injEq, true_and] at hx1
      simp only [List.cons.injEq, and_true] at q2 q0
      rw [q0, q2, hx1.1, hx1.2.1]
end

section
variable {C : Ctx} {w : World} {I : Nat → Prop} {μ : Mu}

theorem VRs.ints (k : IntKind) : ∀ l : List Int, VRs C w I μ (l.map (.int k)) (l.map (.int k))
  | [] => .nil _
  | n :: l => .cons _ _ _ _ _ (.int _ _ _) (VRs.ints k l)

theorem VRs.of_map {α : Type} {f : α → AV} {g : α → Value} : ∀ (l : List α), (∀ x ∈ l, VR C w I μ (f x) (g x)) → VRs C w I μ (l.map f) (l.map g)
  | [], _ => .nil _
  | x :: l, h => .cons _ _ _ _ _ (h x (by simp)) (VRs.of_map l fun y hy => h y (by simp [hy]))

theorem ints_one (k : IntKind) (l : List Int) : (l.map (AV.int k)).all AV.oneCell = true := by
  rw [List.all_eq_true]; intro x hx
  obtain ⟨n, _, rfl⟩ := List.mem_map.1 hx
  rfl
end

/-- a map with whole numbers as keys: its entries, in their order -/
theorem gmap_rel {C : Ctx} {w : World} {H : Type} {enc : TypeId × Value → H} {base : Nat} {sp : Nat → Bool} {held : Bool} {fuel : Nat} {t kt e : TypeId} {cs : List Value} {p : List MemPlace} {D : List (Lit × DataW H)} {g : Nat} {kvs : List (AV × AV)} {tok : DataW H → AV}
    (ht : C.P.underlying t = some (.map kt e)) (hkt : C.P.underlying kt = some (.int .i64)) (hD : D ≠ [])
    (h : DataW.trod enc C.P w base sp held fuel t cs = some (.map D, p)) (hg : C.gmaps g = some kvs)
    (hkv : kvs = D.map fun y => ((match y.1 with | .int k n => AV.int k n | _ => .nilp), tok y.2))
    (hkeys : ∀ y ∈ D, ∃ n, y.1 = .int .i64 n) (honce : D.Pairwise fun a b => a.1 ≠ b.1)
    (hval : ∀ n v y q, y ∈ D → WideElems.elemAt enc C.P w base sp held n e v = some (y.2, q) → VR C w (Ist w) mu0 (tok y.2) v) :
    ∃ b, cs = [.map (some b)] ∧ ∀ μ, VR C w (Ist w) μ (.gmap g) (.map (some b)) := by
  rcases WideElems.open_map ht h with ⟨_, hx⟩ | ⟨b, es, clock, m, rfl, hcs, hb, _, F, hx⟩
  · simp at hx
  · refine ⟨b, hcs, fun μ => ?_⟩
    simp only [Prod.mk.injEq, DataW.map.injEq] at hx
    have hperm : D.Perm (es.toList.map (WideElems.rg C.P kt (WideElems.elemAt enc C.P w base sp held m e))) := by
      rw [hx.1]; exact sorted_perm _
    have hrg : ∀ x ∈ es.toList, ∃ q, (WideElems.rg C.P kt (WideElems.elemAt enc C.P w base sp held m e) x) ∈ D ∧ keyOf C.P kt x.key = some (WideElems.rg C.P kt (WideElems.elemAt enc C.P w base sp held m e) x).1 ∧
        WideElems.elemAt enc C.P w base sp held m e x.val = some ((WideElems.rg C.P kt (WideElems.elemAt enc C.P w base sp held m e) x).2, q) := by
      intro x hxm
      obtain ⟨y, hy⟩ := F.reads x hxm
      have hr : WideElems.rg C.P kt (WideElems.elemAt enc C.P w base sp held m e) x = y := by unfold WideElems.rg; rw [hy]; rfl
      have hy' := hy
      unfold WideElems.rd at hy'
      simp only [Option.bind_eq_some_iff, Option.map_eq_some_iff] at hy'
      obtain ⟨key, k1, d, k2, rfl⟩ := hy'
      refine ⟨d.2, hperm.mem_iff.2 (List.mem_map.2 ⟨x, hxm, rfl⟩), by rw [hr]; exact k1, by rw [hr]; exact k2⟩
    let f : Lit × DataW H → AV × AV := fun y => ((match y.1 with | .int k n => AV.int k n | _ => .nilp), tok y.2)
    refine .gmap μ g b kvs ((es.toList.map (WideElems.rg C.P kt (WideElems.elemAt enc C.P w base sp held m e))).map f) es clock hg (ist_of hb) hb ⟨fun x => ?_, ?_, ?_⟩ ?_ ?_
    · rw [hkv]
      constructor
      · intro hx'
        obtain ⟨y, hy1, rfl⟩ := List.mem_map.1 hx'
        exact List.mem_map.2 ⟨y, hperm.mem_iff.2 hy1, rfl⟩
      · intro hx'
        obtain ⟨y, hy1, rfl⟩ := List.mem_map.1 hx'
        exact List.mem_map.2 ⟨y, hperm.mem_iff.1 hy1, rfl⟩
    · rw [hkv]
      intro x hx'
      obtain ⟨y, hy1, rfl⟩ := List.mem_map.1 hx'
      obtain ⟨n, hn⟩ := hkeys y hy1
      exact ⟨n, by dsimp only; rw [hn]⟩
    · rw [hkv]
      intro x hx1 y hy1 hxy
      obtain ⟨u, hu1, rfl⟩ := List.mem_map.1 hx1
      obtain ⟨v, hv1, rfl⟩ := List.mem_map.1 hy1
      obtain ⟨n, hn⟩ := hkeys u hu1
      obtain ⟨n', hn'⟩ := hkeys v hv1
      dsimp only at hxy
      rw [hn, hn'] at hxy
      cases hxy
      have : u = v := by
        have hne := fun h => (List.pairwise_iff_getElem.1 honce) h
        obtain ⟨i, hi, rfl⟩ := List.mem_iff_getElem.1 hu1
        obtain ⟨j, hj, rfl⟩ := List.mem_iff_getElem.1 hv1
        rcases Nat.lt_trichotomy i j with h1 | h1 | h1
        · exact absurd (hn.trans hn'.symm) ((List.pairwise_iff_getElem.1 honce) i j hi hj h1)
        · subst h1; rfl
        · exact absurd (hn'.trans hn.symm) ((List.pairwise_iff_getElem.1 honce) j i hj hi h1)
      rw [this]
    · rw [List.map_map, List.map_map]
      refine VRs.of_map es.toList fun x hxm => ?_
      obtain ⟨q, q1, q2, q3⟩ := hrg x hxm
      obtain ⟨n, hn⟩ := hkeys _ q1
      have hk : x.key = .int .i64 n := by
        rw [hn] at q2
        have hm : mapKey C.P kt x.key = some (.int .i64 n) := by
          unfold keyOf at q2
          rw [hkt] at q2
          exact q2
        cases hkx : x.key with
        | int k' n' =>
          rw [hkx] at hm
          simp only [mapKey, hkt] at hm
          split at hm
          · rename_i hq
            cases hm
            rw [hq.1]
          · simp at hm
        | _ => rw [hkx] at hm; simp [mapKey, hkt] at hm
      show VR C w (Ist w) mu0 (match (WideElems.rg C.P kt (WideElems.elemAt enc C.P w base sp held m e) x).1 with | .int k n => AV.int k n | _ => .nilp) x.key
      rw [hn, hk]
      exact .int _ _ _
    · rw [List.map_map, List.map_map]
      refine VRs.of_map es.toList fun x hxm => ?_
      obtain ⟨q, q1, q2, q3⟩ := hrg x hxm
      exact hval m x.val _ q q1 q3

end Go.Ev

/- The listed variables, as the evaluator wants them. -/
open Go Go.Ev
namespace Go.Proofs.YtobadaonfhlggaaGreatDoor
set_option maxRecDepth 1000000

abbrev laid9 : List (String × DataW Unit) := [("math/bits.deBruijn32tab", Rows.laid_math_bits_deBruijn32tab), ("math/bits.deBruijn64tab", Rows.laid_math_bits_deBruijn64tab), ("internal/strconv.uint64pow10", Rows.laid_internal_strconv_uint64pow10), ("strconv.ErrRange", Rows.laid_strconv_ErrRange), ("strconv.ErrSyntax", Rows.laid_strconv_ErrSyntax), ("monocle/surface.one", Rows.laid_monocle_surface_one), ("monocle/surface.places", Rows.laid_monocle_surface_places), ("monocle/aper.units", Rows.laid_monocle_aper_units), ("monocle/hit.widths", Rows.laid_monocle_hit_widths)]
abbrev laid1 : List (String × DataW Unit) := [("monocle/paraxial.powers", Rows.laid_monocle_paraxial_powers)]
abbrev laidAll : List (String × DataW Unit) := Rows.traceKnownRow.laid

theorem laid_split (W : World) : laidMetH Tryz.prog laidAll W = (laidMet Tryz.prog laid9 W ∧ handlesMet Tryz.prog laid1 W) := by kernel_rfl

def places : List (Lit × DataW Unit) := [(.int .i64 1, .slice [.lit (.int .i64 1), .lit (.int .i64 2), .lit (.int .i64 5), .lit (.int .i64 6), .lit (.int .i64 7), .lit (.int .i64 8), .lit (.int .i64 10)] []), (.int .i64 2, .slice [.lit (.int .i64 1), .lit (.int .i64 2), .lit (.int .i64 3), .lit (.int .i64 4), .lit (.int .i64 10)] []), (.int .i64 3, .slice [.lit (.int .i64 11), .lit (.int .i64 12), .lit (.int .i64 13), .lit (.int .i64 14), .lit (.int .i64 15)] []), (.int .i64 4, .slice [.lit (.int .i64 1), .lit (.int .i64 10)] [])]
def litA : DataW Unit → AV
  | .lit (.int k n) => .int k n
  | _ => .nilp
def tokS : DataW Unit → AV
  | .slice ds _ => .list (ds.map litA) ds.length false
  | _ => .nilp

theorem vr_ints {w : World} {ds : List (DataW Unit)} (hne : ds ≠ []) (hds : ∀ d ∈ ds, ∃ n, d = .lit (.int .i64 n)) {n : Nat} {v : Value} {q : List MemPlace}
    (h : WideElems.elemAt (fun _ => ()) Tryz.prog w 0 (fun _ => true) false n 78 v = some (.slice ds [], q)) : VR sC w (Ist w) mu0 (tokS (.slice ds [])) v := by
  unfold WideElems.elemAt at h
  split at h
  · rename_i hform
    obtain ⟨a, cap, hcs, hcap, hel⟩ := open_row (t := 78) (e := 3) Tryz.underlying78 (by kernel_rfl) h
    have hv : v = .slice (some a) ds.length cap := by
      cases v with
      | agg cs =>
        unfold Value.formed at hform
        rw [Tryz.underlying78] at hform
        simp at hform
      | _ => simp [Value.cells] at hcs <;> simp [hcs]
    subst hv
    -- the cells
    have hcell : ∀ i d, ds[i]? = some d → ∃ m, d = .lit (.int .i64 m) ∧ w.cell? (a.add i) = some (.int .i64 m) := by
      intro i d hd
      obtain ⟨v, n', q', h1, h2⟩ := hel i d hd
      obtain ⟨m, e1, e2, _⟩ := DataW.trod_int Tryz.underlying3 h2
      simp only [List.cons.injEq, and_true] at e1
      simp only [Prod.mk.injEq] at e2
      exact ⟨m, e2.1, by rw [h1, e1]⟩
    obtain ⟨d0, hd0⟩ : ∃ d, ds[0]? = some d := by
      cases ds with
      | nil => exact absurd rfl hne
      | cons d r => exact ⟨d, rfl⟩
    obtain ⟨m0, _, hc0⟩ := hcell 0 d0 hd0
    obtain ⟨blk, off, spot⟩ := a
    have key : ∃ c e fr, w.heap[blk]? = some (.cells c e fr) ∧ spot = none := by
      simp only [Addr.add, World.cell?] at hc0
      split at hc0
      · rename_i c e fr hh
        refine ⟨c, e, fr, hh, ?_⟩
        cases spot with
        | none => rfl
        | some s => simp at hc0
      · cases hc0
    obtain ⟨c, e, fr, hh, rfl⟩ := key
    refine .list mu0 (ds.map litA) (ds.map fun d => match d with | .lit (.int k n) => Value.int k n | _ => .nilFunc) blk off ds.length cap false (ist_of hh) ⟨c, e, fr, hh, fun i v hi => ?_⟩ ?_ ?_ hcap (by simp)
    · rw [List.getElem?_map] at hi
      cases hdi : ds[i]? with
      | none => rw [hdi] at hi; cases hi
      | some d =>
        rw [hdi] at hi
        obtain ⟨m, rfl, hcm⟩ := hcell i d hdi
        simp only [Option.map_some, Option.some.injEq] at hi
        subst hi
        by_cases hi0 : i = 0
        · subst hi0
          simpa [Addr.add, World.cell?, hh] using hcm
        · simpa [Addr.add, World.cell?, hh, hi0] using hcm
    · refine VRs.of_map ds fun d hd => ?_
      obtain ⟨n, rfl⟩ := hds d hd
      exact .int _ _ _
    · rw [List.all_eq_true]; intro x hx
      obtain ⟨d, hd, rfl⟩ := List.mem_map.1 hx
      obtain ⟨n, rfl⟩ := hds d hd
      rfl
  · cases h

def powersD : List (Lit × DataW (List UInt8)) := [(.int .i64 1, .held [40, 109, 111, 110, 111, 99, 108, 101, 47, 112, 97, 114, 97, 120, 105, 97, 108, 46, 118, 105, 101, 119, 41, 46, 99, 117, 114, 118, 101, 100]), (.int .i64 2, .held [40, 109, 111, 110, 111, 99, 108, 101, 47, 112, 97, 114, 97, 120, 105, 97, 108, 46, 118, 105, 101, 119, 41, 46, 99, 117, 114, 118, 101, 100]), (.int .i64 3, .held [40, 109, 111, 110, 111, 99, 108, 101, 47, 112, 97, 114, 97, 120, 105, 97, 108, 46, 118, 105, 101, 119, 41, 46, 102, 108, 97, 116]), (.int .i64 4, .held [40, 109, 111, 110, 111, 99, 108, 101, 47, 112, 97, 114, 97, 120, 105, 97, 108, 46, 118, 105, 101, 119, 41, 46, 105, 100, 101, 97, 108])]
def tokF : DataW (List UInt8) → AV
  | .held l => .func (bif l.length == 30 then 545 else bif l.length == 28 then 546 else 547) [] []
  | _ => .nilp

theorem hr_of_laid {W : World} (h : laidMetH Tryz.prog laidAll W) : HR sC W (Ist W) mu0 [] := by
  rw [laid_split] at h
  obtain ⟨⟨ps, hl, _⟩, hh⟩ := h
  obtain ⟨g1, t1, c1, f1, p1, q1, hg1, ht1, hv1, hd1, hl, _⟩ := hl
  obtain ⟨g2, t2, c2, f2, p2, q2, hg2, ht2, hv2, hd2, hl, _⟩ := hl
  obtain ⟨g3, t3, c3, f3, p3, q3, hg3, ht3, hv3, hd3, hl, _⟩ := hl
  obtain ⟨g4, t4, c4, f4, p4, q4, hg4, ht4, hv4, hd4, hl, _⟩ := hl
  obtain ⟨g5, t5, c5, f5, p5, q5, hg5, ht5, hv5, hd5, hl, _⟩ := hl
  obtain ⟨g6, t6, c6, f6, p6, q6, hg6, ht6, hv6, hd6, hl, _⟩ := hl
  obtain ⟨g7, t7, c7, f7, p7, q7, hg7, ht7, hv7, hd7, hl, _⟩ := hl
  obtain ⟨g8, t8, c8, f8, p8, q8, hg8, ht8, hv8, hd8, hl, _⟩ := hl
  obtain ⟨g9, t9, c9, f9, p9, q9, hg9, ht9, hv9, hd9, hl, _⟩ := hl
  have n2 : Tryz.prog.globalNamed "math/bits.deBruijn64tab" = some 12 := by kernel_rfl
  have n3 : Tryz.prog.globalNamed "internal/strconv.uint64pow10" = some 8 := by kernel_rfl
  have n6 : Tryz.prog.globalNamed "monocle/surface.one" = some 2 := by kernel_rfl
  have n7 : Tryz.prog.globalNamed "monocle/surface.places" = some 7 := by kernel_rfl
  have n8 : Tryz.prog.globalNamed "monocle/aper.units" = some 1 := by kernel_rfl
  have n9 : Tryz.prog.globalNamed "monocle/hit.widths" = some 0 := by kernel_rfl
  have n10 : Tryz.prog.globalNamed "monocle/paraxial.powers" = some 10 := by kernel_rfl
  have y2 : (Tryz.prog.globals[12]?).map (·.type) = some 564 := by kernel_rfl
  have y3 : (Tryz.prog.globals[8]?).map (·.type) = some 556 := by kernel_rfl
  have y6 : (Tryz.prog.globals[2]?).map (·.type) = some 46 := by kernel_rfl
  have y7 : (Tryz.prog.globals[7]?).map (·.type) = some 553 := by kernel_rfl
  have y8 : (Tryz.prog.globals[1]?).map (·.type) = some 64 := by kernel_rfl
  have y9 : (Tryz.prog.globals[0]?).map (·.type) = some 63 := by kernel_rfl
  have y10 : (Tryz.prog.globals[10]?).map (·.type) = some 561 := by kernel_rfl
  obtain rfl := Option.some.inj (n2.symm.trans hg2)
  obtain rfl := Option.some.inj (n3.symm.trans hg3)
  obtain rfl := Option.some.inj (n6.symm.trans hg6)
  obtain rfl := Option.some.inj (n7.symm.trans hg7)
  obtain rfl := Option.some.inj (n8.symm.trans hg8)
  obtain rfl := Option.some.inj (n9.symm.trans hg9)
  obtain rfl := Option.some.inj (y2.symm.trans ht2)
  obtain rfl := Option.some.inj (y3.symm.trans ht3)
  obtain rfl := Option.some.inj (y6.symm.trans ht6)
  obtain rfl := Option.some.inj (y7.symm.trans ht7)
  obtain rfl := Option.some.inj (y8.symm.trans ht8)
  obtain rfl := Option.some.inj (y9.symm.trans ht9)
  -- the tables
  have i2 : c2.toList = [0, 1, 56, 2, 57, 49, 28, 3, 61, 58, 42, 50, 38, 29, 17, 4, 62, 47, 59, 36, 45, 43, 51, 22, 53, 39, 33, 30, 24, 18, 12, 5, 63, 55, 48, 27, 60, 41, 37, 16, 46, 35, 44, 21, 52, 32, 23, 11, 54, 26, 40, 15, 34, 20, 31, 10, 25, 14, 19, 9, 13, 8, 7, 6].map (Value.int .u8) := ints_of_array (l := [0, 1, 56, 2, 57, 49, 28, 3, 61, 58, 42, 50, 38, 29, 17, 4, 62, 47, 59, 36, 45, 43, 51, 22, 53, 39, 33, 30, 24, 18, 12, 5, 63, 55, 48, 27, 60, 41, 37, 16, 46, 35, 44, 21, 52, 32, 23, 11, 54, 26, 40, 15, 34, 20, 31, 10, 25, 14, 19, 9, 13, 8, 7, 6]) Tryz.underlying564 Tryz.underlying5 (by kernel_rfl) (by kernel_rfl) hd2
  have i3 : c3.toList = [1, 10, 100, 1000, 10000, 100000, 1000000, 10000000, 100000000, 1000000000, 10000000000, 100000000000, 1000000000000, 10000000000000, 100000000000000, 1000000000000000, 10000000000000000, 100000000000000000, 1000000000000000000, 10000000000000000000].map (Value.int .u64) := ints_of_array (l := [1, 10, 100, 1000, 10000, 100000, 1000000, 10000000, 100000000, 1000000000, 10000000000, 100000000000, 1000000000000, 10000000000000, 100000000000000, 1000000000000000, 10000000000000000, 100000000000000000, 1000000000000000000, 10000000000000000000]) Tryz.underlying556 Tryz.underlying285 (by kernel_rfl) (by kernel_rfl) hd3
  have i8 : c8.toList = [1000000000000, 4294967296].map (Value.int .i64) := ints_of_array (l := [1000000000000, 4294967296]) Tryz.underlying64 Tryz.underlying3 (by kernel_rfl) (by kernel_rfl) hd8
  have i9 : c9.toList = [1048576, 67108864, 2147483648, 34359738368].map (Value.int .i64) := ints_of_array (l := [1048576, 67108864, 2147483648, 34359738368]) Tryz.underlying63 Tryz.underlying3 (by kernel_rfl) (by kernel_rfl) hd9
  have i6 : c6.toList = [.int .i64 4294967296, .int .i64 4294967296] := ints_of_pair Tryz.underlying46 (by rfl) (by rfl) (by rfl) (by rfl) Tryz.underlying3 Tryz.underlying3 (by kernel_rfl) (by kernel_rfl) (by kernel_rfl) hd6
  obtain ⟨b7, i7, r7⟩ := gmap_rel (C := sC) (g := 7) (D := places) (tok := tokS) (kvs := _) Tryz.underlying553 Tryz.underlying3 (by simp [places]) hd7 (show sC.gmaps 7 = some _ from rfl) (by rfl) (by
    intro y hy
    simp only [places, List.mem_cons, List.not_mem_nil, or_false] at hy
    rcases hy with rfl | rfl | rfl | rfl <;> exact ⟨_, rfl⟩) (by simp [places]) (by
    intro n v y q hy he
    simp only [places, List.mem_cons, List.not_mem_nil, or_false] at hy
    rcases hy with rfl | rfl | rfl | rfl <;> exact vr_ints (by simp) (by simp) he)
  -- the functions
  have hf := hh _ (List.mem_singleton.2 rfl)
  have hf' : funcsAt Tryz.prog W "monocle/paraxial.powers" (.map [(.int .i64 1, .iface "func" (.lit (.string [40, 109, 111, 110, 111, 99, 108, 101, 47, 112, 97, 114, 97, 120, 105, 97, 108, 46, 118, 105, 101, 119, 41, 46, 99, 117, 114, 118, 101, 100]))), (.int .i64 2, .iface "func" (.lit (.string [40, 109, 111, 110, 111, 99, 108, 101, 47, 112, 97, 114, 97, 120, 105, 97, 108, 46, 118, 105, 101, 119, 41, 46, 99, 117, 114, 118, 101, 100]))), (.int .i64 3, .iface "func" (.lit (.string [40, 109, 111, 110, 111, 99, 108, 101, 47, 112, 97, 114, 97, 120, 105, 97, 108, 46, 118, 105, 101, 119, 41, 46, 102, 108, 97, 116]))), (.int .i64 4, .iface "func" (.lit (.string [40, 109, 111, 110, 111, 99, 108, 101, 47, 112, 97, 114, 97, 120, 105, 97, 108, 46, 118, 105, 101, 119, 41, 46, 105, 100, 101, 97, 108])))]) := hf
  obtain ⟨g10, t10, c10, f10, p10, hg10, ht10, hv10, hd10⟩ := hf'
  obtain rfl := Option.some.inj (n10.symm.trans hg10)
  obtain rfl := Option.some.inj (y10.symm.trans ht10)
  have hd10' : DataW.trod (funcToken Tryz.prog) Tryz.prog W 0 (fun _ => true) true f10 561 c10.toList = some (.map powersD, p10) := by
    rw [hd10]; rfl
  obtain ⟨b10, i10, r10⟩ := gmap_rel (C := sC) (g := 10) (D := powersD) (tok := tokF) (kvs := _) Tryz.underlying561 Tryz.underlying3 (by simp [powersD]) hd10' (show sC.gmaps 10 = some _ from rfl) (by rfl) (by
    intro y hy
    simp only [powersD, List.mem_cons, List.not_mem_nil, or_false] at hy
    rcases hy with rfl | rfl | rfl | rfl <;> exact ⟨_, rfl⟩) (by simp [powersD]) (by
    intro n v y q hy he
    have hone1 : ((List.range Tryz.prog.funcs.size).filter fun f => (Tryz.prog.funcs[f]?).any (·.name.toUTF8.data.toList == [40, 109, 111, 110, 111, 99, 108, 101, 47, 112, 97, 114, 97, 120, 105, 97, 108, 46, 118, 105, 101, 119, 41, 46, 99, 117, 114, 118, 101, 100])) = [545] := by kernel_rfl
    have hone2 : ((List.range Tryz.prog.funcs.size).filter fun f => (Tryz.prog.funcs[f]?).any (·.name.toUTF8.data.toList == [40, 109, 111, 110, 111, 99, 108, 101, 47, 112, 97, 114, 97, 120, 105, 97, 108, 46, 118, 105, 101, 119, 41, 46, 102, 108, 97, 116])) = [546] := by kernel_rfl
    have hone3 : ((List.range Tryz.prog.funcs.size).filter fun f => (Tryz.prog.funcs[f]?).any (·.name.toUTF8.data.toList == [40, 109, 111, 110, 111, 99, 108, 101, 47, 112, 97, 114, 97, 120, 105, 97, 108, 46, 118, 105, 101, 119, 41, 46, 105, 100, 101, 97, 108])) = [547] := by kernel_rfl
    unfold WideElems.elemAt at he
    split at he
    · rename_i hform
      have hv1 : v.cells.toList = [v] := by
        cases v with
        | agg cs =>
          have hform' : (Value.agg cs).formed Tryz.prog 560 = true := hform
          unfold Value.formed at hform'
          rw [Tryz.underlying560] at hform'
          simp at hform'
        | _ => rfl
      rw [hv1] at he
      have fin : ∀ f0 : Nat, v = .func (.func f0) #[] #[] → VR sC W (Ist W) mu0 (.func f0 [] []) v := fun f0 hv => by
        rw [hv]; exact .func mu0 f0 [] [] [] [] (.nil _) (.nil _)
      simp only [powersD, List.mem_cons, List.not_mem_nil, or_false] at hy
      rcases hy with rfl | rfl | rfl | rfl
      · exact fin 545 (func_of_trod Tryz.underlying560 hone1 he)
      · exact fin 545 (func_of_trod Tryz.underlying560 hone1 he)
      · exact fin 546 (func_of_trod Tryz.underlying560 hone2 he)
      · exact fin 547 (func_of_trod Tryz.underlying560 hone3 he)
    · cases he)
  -- together
  have at2 := cellsAt_var hg2 hv2
  have at3 := cellsAt_var hg3 hv3
  have at6 := cellsAt_var hg6 hv6
  have at7 := cellsAt_var hg7 hv7
  have at8 := cellsAt_var hg8 hv8
  have at9 := cellsAt_var hg9 hv9
  have at10 := cellsAt_var hg10 hv10
  refine ⟨fun b x hb _ => by simp at hb, fun b b' x x' L L' hb => by simp at hb, fun b x L hb => by simp at hb, fun b x L hb => by simp at hb, fun cb hi => hi, fun g cs hg => ?_⟩
  have hgl : sGlob g = some cs := hg
  unfold sGlob at hgl
  split at hgl
  all_goals first | (cases hgl; done) | (cases hgl)
  all_goals first
    | exact ⟨at9.2, by rfl, _, by rw [i9] at at9; exact at9.1, VRs.ints .i64 [1048576, 67108864, 2147483648, 34359738368]⟩
    | exact ⟨at8.2, by rfl, _, by rw [i8] at at8; exact at8.1, VRs.ints .i64 [1000000000000, 4294967296]⟩
    | exact ⟨at6.2, by rfl, _, by rw [i6] at at6; exact at6.1, VRs.ints .i64 [4294967296, 4294967296]⟩
    | exact ⟨at3.2, by rfl, _, by rw [i3] at at3; exact at3.1, VRs.ints .u64 [1, 10, 100, 1000, 10000, 100000, 1000000, 10000000, 100000000, 1000000000, 10000000000, 100000000000, 1000000000000, 10000000000000, 100000000000000, 1000000000000000, 10000000000000000, 100000000000000000, 1000000000000000000, 10000000000000000000]⟩
    | exact ⟨at2.2, by rfl, _, by rw [i2] at at2; exact at2.1, VRs.ints .u8 [0, 1, 56, 2, 57, 49, 28, 3, 61, 58, 42, 50, 38, 29, 17, 4, 62, 47, 59, 36, 45, 43, 51, 22, 53, 39, 33, 30, 24, 18, 12, 5, 63, 55, 48, 27, 60, 41, 37, 16, 46, 35, 44, 21, 52, 32, 23, 11, 54, 26, 40, 15, 34, 20, 31, 10, 25, 14, 19, 9, 13, 8, 7, 6]⟩
    | exact ⟨at7.2, by rfl, _, by rw [i7] at at7; exact at7.1, .cons _ _ _ _ _ (r7 _) (.nil _)⟩
    | exact ⟨at10.2, by rfl, _, by rw [i10] at at10; exact at10.1, .cons _ _ _ _ _ (r10 _) (.nil _)⟩

end Go.Proofs.YtobadaonfhlggaaGreatDoor

