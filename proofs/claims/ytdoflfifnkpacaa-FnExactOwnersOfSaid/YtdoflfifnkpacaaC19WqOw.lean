/-
  The functions of worlds: what they compute, and the laws of it.
-/
import Derived.StillTailTactics
import Derived.Lib.Hide
import Derived.Test.YtdoflfifnkpacaaC19WqLay5
import Derived.Test.YtdoflfifnkpacaaC19WOx6
import Derived.Test.YtdoflfifnkpacaaC19WOx11
namespace Go.Proofs.Ytdoflfifnkpacaa.WO.LA
open Go Go.RowKit Go.Proofs.YtdoflfifnkpacaaW.PrintWords Go.Proofs.YtdoflfifnkpacaaW.PrintLast Go.Proofs.YtdoflfifnkpacaaW.PrintMore
attribute [local go_sem] max2_int min2_int max_two min_two max_three min_three max_four min_four
set_option linter.unusedVariables false
set_option linter.unusedSimpArgs false
theorem inB_eq (a lo hi : Int) : inB a lo hi = decide (lo ≤ a ∧ a ≤ hi) := by
  unfold inB
  by_cases h1 : lo ≤ a <;> by_cases h2 : a ≤ hi <;> simp [h1, h2]
/-- What a call has made beside what was there. -/
theorem Lay.merge {w w1 : World} {base : Nat} {L M : List Row} (h : Lay w base L) (hb : Below w.heap.size w w1) (hz : base ≤ w.heap.size) (h1 : Lay w1 w.heap.size M) : Lay w1 base (M ++ L) := by
  have hL := h.below hb
  refine ⟨fun r hr => ?_, ?_⟩
  · rcases List.mem_append.mp hr with hr | hr
    · exact own_less (h1.1 r hr) hz
    · exact hL.1 r hr
  · rw [blks_app]
    refine List.nodup_append.mpr ⟨h1.2, hL.2, fun a ha b hb' e => ?_⟩
    have := (h1.in_ ha).1
    have := (h.in_ hb').2
    omega
def mine (thing : Int) (h : S75) : Bool := h.f0 && (h.f3 && h.f2 == thing)
def ownL (p thing : Int) : List S75 → List Int
  | [] => []
  | h :: S => if mine thing h = true then p :: ownL p thing S else ownL p thing S
def owns (thing : Int) : Int → List S78 → List Int
  | _, [] => []
  | p, t :: B => ownL p thing t.f0 ++ owns thing (p + 1) B
section
variable {P : Program} {ops : Array Oper} {rest : List Oper} {o : Oper} {a : Act} {Q : Exit → Act → World → Prop}
/-- A literal of no elements. -/
theorem Lay.lit0_ev {w0 W : World} {base e sz : Nat} {L : List Row} (HL : Lay W base L) (HB : Below base w0 W) (hbase : base ≤ W.heap.size) (hgd : o.guard = none) {N : Tmp} (hd : o.dst = some N)
    (hrun : (execOp a.eval o).run P W = .ok (.value (.slice (some ⟨W.heap.size, 0, none⟩) 0 0)) (W.alloc (.cells #[] e)))
    (h : ∀ g w1, Lay w1 base (⟨.slice (some ⟨g, 0, none⟩) 0 0, e, sz, 0, []⟩ :: L) → Below base w0 w1 → base ≤ w1.heap.size → wpList P ops Q rest (a.put o.dst (.slice (some ⟨g, 0, none⟩) 0 0)) w1) : wpList P ops Q (o :: rest) a W := by
  refine Kd.event_run hgd hrun (h _ _ (HL.fresh (fun k hk => Below.heap_alloc W _ k hk) ⟨by simp, .inr ⟨W.heap.size, 0, _, rfl, Nat.le_refl _, blk_new W _, Nat.le_refl _, by simp only [maxLen]; omega, by simp, by simp⟩⟩ hbase) (HB.alloc hbase _) ?_)
  exact Nat.le_trans hbase (below_alloc (Below.refl _ _) _).size
end
theorem ownL_drop (p thing : Int) (S : List S75) (y : Int) (h0 : 0 ≤ y) (h1 : y < S.length) : ownL p thing (S.drop y.toNat) = (if mine thing (rd_T75 S y) = true then [p] else []) ++ ownL p thing (S.drop (y + 1).toNat) := by
  rw [dropI_at S y z75 h0 h1]
  show (if mine thing (rd_T75 S y) = true then p :: ownL p thing (S.drop (y + 1).toNat) else ownL p thing (S.drop (y + 1).toNat)) = _
  by_cases c : mine thing (rd_T75 S y) = true
  · rw [if_pos c, if_pos c]; rfl
  · rw [if_neg c, if_neg c]; rfl
theorem owns_drop (thing : Int) (B : List S78) (x : Int) (h0 : 0 ≤ x) (h1 : x < B.length) : owns thing x (B.drop x.toNat) = ownL x thing (rd_T78 B x).f0 ++ owns thing (x + 1) (B.drop (x + 1).toNat) := by
  rw [dropI_at B x z78 h0 h1]
  rfl
set_option maxHeartbeats 4000000 in
set_option maxRecDepth 100000 in
theorem impl_World_owners.lay (g : Nat) (A : Option Addr) (c : Nat) (B : List S78) (thing : Int) (w : World) (hp : w.cell? ⟨g, 1, none⟩ = some (.slice A B.length c)) (hB : Kd.C k78 w A B.length B) (hK : (owns thing 0 B).length ≤ 1048576) :
    Calls Try.prog 93 #[.pointer (some ⟨g, 0, none⟩), .int .i64 thing] w fun e w' => ∃ v, e = .returned v ∧ Lay w' w.heap.size [rI v (owns thing 0 B)] ∧ Below w.heap.size w w' := by
  have HBB := Aside0.mk hB
  have KL := Aside0.mk hK
  have HP := Aside0.mk hp
  have BL := Aside0.mk (show B.length ≤ 9223372036854775807 from hB.2.1)
  have HL := Aside0.mk (Lay.nil w w.heap.size)
  have HB := Aside0.mk (Below.refl w.heap.size w)
  have HZ := Aside0.mk (Nat.le_refl w.heap.size)
  clear hB hK hp
  go_enter Try.func93, Try.ntmps93
  go_upto_region 2 with ((with_reducible refine gate_dst (N := 10) rfl ?_); refine Lay.lit0_ev (e := 3) (sz := 1) HL.out HB.out HZ.out rfl rfl (by first | (go_simp; done) | (go_simp; rfl)) ?_; intro ga w1 hl_ hb_ hz_; replace HL := Aside0.mk hl_; replace HB := Aside0.mk hb_; clear hl_ hb_ hz_)
  have p1 := pw_cell_below HB.out HP.out
  go_wp2
  clear p1
  go_loopw [5, 16] (fun v5 v16 wr => ∃ (x : Int) (v : Value) (out : List Int), v16 = .int .i64 x ∧ v5 = v ∧ Aside0 (0 ≤ x) ∧ Aside0 (x ≤ B.length) ∧ Aside0 (out ++ owns thing x (B.drop x.toNat) = owns thing 0 B) ∧ Aside0 (Lay wr w.heap.size (rI v out :: [])) ∧ Aside0 (Below w.heap.size w wr)) (fun _ v16 _ => B.length - (intOf v16).toNat)
  case atStart => exact ⟨0, _, [], rfl, rfl, ⟨Int.le_refl _⟩, ⟨by omega⟩, ⟨rfl⟩, HL, HB⟩
  case round =>
    clear HL HB
    obtain ⟨x, v, out, rfl, rfl, X0, X1, HE, HL, HB⟩ := hrel
    have HZ := Aside0.mk HB.out.size
    by_cases hlt : x < (B.length : Int)
    case neg =>
      have nlt : decide (x < (B.length : Int)) = false := decide_eq_false hlt
      have hE := HE.out
      rw [dropI_end B x hlt X0.out] at hE
      simp only [owns, List.append_nil] at hE
      subst hE
      go_wp2
      go_ret
      exact ⟨_, rfl, HL.out, HB.out⟩
    have nlt : decide (x < (B.length : Int)) = true := decide_eq_true hlt
    have q0 : (0 ≤ x) = True := eq_true X0.out
    have q1 : (x < (B.length : Int)) = True := eq_true hlt
    have w64 : IntKind.i64.wrap (x + 1) = x + 1 := IntWalk.i64_in _ (by have := BL.out; have := X0.out; omega)
    obtain ⟨ad, A0, c0, A1, c1, ead, x0, x1, l0, g0, l1, g1⟩ := at_T78 HBB.out x X0.out hlt
    subst ead
    replace x0 := pw_cell_below HB.out x0
    replace x1 := pw_cell_below HB.out x1
    have hE := HE.out
    rw [owns_drop thing B x X0.out hlt] at hE
    have HI := Aside0.mk hlt
    replace HE := Aside0.mk hE
    clear hE hlt
    generalize hR1 : owns thing (x + 1) (B.drop (x + 1).toNat) = R1 at *
    have HR1 := Aside0.mk hR1
    clear hR1
    have G0 := Aside0.mk g0
    have SL := Aside0.mk (show (rd_T78 B x).f0.length ≤ 9223372036854775807 from g0.2.1)
    clear g0 g1 l0 l1
    generalize (rd_T78 B x).f0 = S at *
    go_upto_region 5 with (first | ((with_reducible refine gate_dst (N := 7) rfl ?_); (try (refine gate_guard (by rfl) ?_; dsimp only)); refine HL.out.box_ev HB.out HZ.out rfl (N := 7) rfl [.slice none 0 0, .slice none 0 0] 78 (by first | (go_simp; done) | (go_simp; rfl)) ?_; intro g7 w1 hl_ hb_ hz_; replace HL := Aside0.mk hl_; replace HB := Aside0.mk hb_; replace HZ := Aside0.mk hz_; clear hl_ hb_ hz_) | ((with_reducible refine gate_store (t := 78) (p := 7) rfl ?_); refine HL.out.store_ev HB.out rfl rfl rfl (0) (by first | rfl | (go_simp; done) | (go_simp; rfl)) (u := .agg #[.slice A0 S.length c0, .slice A1 (rd_T78 B x).f1.length c1]) (by first | rfl | (go_simp; done) | (go_simp; rfl)) (seg := [.slice A0 S.length c0, .slice A1 (rd_T78 B x).f1.length c1]) rfl (by kernel_rfl) (by simp [Value.oneCell']) (by first | omega | (simp; done) | (simp; omega)) ?_; intro w2 hl_ hb_ hs_; replace HL := Aside0.mk hl_; replace HB := Aside0.mk hb_; replace HZ := Aside0.mk (Nat.le_trans HZ.out (Nat.le_of_eq hs_)); clear hl_ hb_ hs_))
    replace HL := Aside0.mk (show Lay _ _ (box g7 78 [.slice A0 S.length c0, .slice A1 (rd_T78 B x).f1.length c1] :: _) from HL.out)
    clear x0 x1
    have y0 := HL.out.cell 0 rfl
    go_wp2
    clear y0
    replace HL := Aside0.mk HL.out.tail
    go_loopw [5, 24] (fun v5 v24 wr => ∃ (y : Int) (v : Value) (out : List Int), v24 = .int .i64 y ∧ v5 = v ∧ Aside0 (0 ≤ y) ∧ Aside0 (y ≤ S.length) ∧ Aside0 (out ++ (ownL x thing (S.drop y.toNat) ++ R1) = owns thing 0 B) ∧ Aside0 (Lay wr w.heap.size (rI v out :: [])) ∧ Aside0 (Below w.heap.size w wr)) (fun _ v24 _ => S.length - (intOf v24).toNat)
    case atStart => exact ⟨0, _, out, rfl, rfl, ⟨Int.le_refl _⟩, ⟨by omega⟩, HE, HL, HB⟩
    case round =>
      clear HL HB HE nlt
      obtain ⟨y, v, out, rfl, rfl, Y0, Y1, HE, HL, HB⟩ := hrel
      replace HZ := Aside0.mk HB.out.size
      by_cases hly : y < (S.length : Int)
      case neg =>
        have nly : decide (y < (S.length : Int)) = false := decide_eq_false hly
        have hE := HE.out
        rw [dropI_end S y hly Y0.out] at hE
        go_wp2
        go_roundw
        case rel => exact ⟨x + 1, _, out, rfl, rfl, ⟨by have := X0.out; omega⟩, ⟨by have := HI.out; omega⟩, ⟨by rw [HR1.out]; exact hE⟩, HL, HB⟩
        case measure => simp [intOf]; have := HI.out; have := X0.out; omega
      have nly : decide (y < (S.length : Int)) = true := decide_eq_true hly
      have p0 : (0 ≤ y) = True := eq_true Y0.out
      have p1 : (y < (S.length : Int)) = True := eq_true hly
      have u64 : IntKind.i64.wrap (y + 1) = y + 1 := IntWalk.i64_in _ (by have := SL.out; have := Y0.out; omega)
      obtain ⟨sd, esd, z0, z1, z2, z3, z4, z5⟩ := at_T75 G0.out y Y0.out hly
      subst esd
      replace z0 := pw_cell_below HB.out z0
      replace z1 := pw_cell_below HB.out z1
      replace z2 := pw_cell_below HB.out z2
      replace z3 := pw_cell_below HB.out z3
      replace z4 := pw_cell_below HB.out z4
      replace z5 := pw_cell_below HB.out z5
      have hE := HE.out
      rw [ownL_drop x thing S y Y0.out hly] at hE
      have HY := Aside0.mk hly
      replace HE := Aside0.mk hE
      clear hE hly
      generalize rd_T75 S y = h at *
      obtain ⟨a0, a1, a2, a3, a4, a5⟩ := h
      go_upto_region 8 with (first | ((with_reducible refine gate_dst (N := 9) rfl ?_); (try (refine gate_guard (by rfl) ?_; dsimp only)); refine HL.out.box_ev HB.out HZ.out rfl (N := 9) rfl [.bool false, .int .i64 0, .int .i64 0, .bool false, .int .i64 0, .int .i64 0] 75 (by first | (go_simp; done) | (go_simp; rfl)) ?_; intro g9 w3 hl_ hb_ hz_; replace HL := Aside0.mk hl_; replace HB := Aside0.mk hb_; replace HZ := Aside0.mk hz_; clear hl_ hb_ hz_) | ((with_reducible refine gate_store (t := 75) (p := 9) rfl ?_); refine HL.out.store_ev HB.out rfl rfl rfl (0) (by first | rfl | (go_simp; done) | (go_simp; rfl)) (u := .agg #[.bool a0, .int .i64 a1, .int .i64 a2, .bool a3, .int .i64 a4, .int .i64 a5]) (by first | rfl | (go_simp; done) | (go_simp; rfl)) (seg := [.bool a0, .int .i64 a1, .int .i64 a2, .bool a3, .int .i64 a4, .int .i64 a5]) rfl (by kernel_rfl) (by simp [Value.oneCell']) (by first | omega | (simp; done) | (simp; omega)) ?_; intro w4 hl_ hb_ hs_; replace HL := Aside0.mk hl_; replace HB := Aside0.mk hb_; replace HZ := Aside0.mk (Nat.le_trans HZ.out (Nat.le_of_eq hs_)); clear hl_ hb_ hs_))
      replace HL := Aside0.mk (show Lay _ _ (box g9 75 [.bool a0, .int .i64 a1, .int .i64 a2, .bool a3, .int .i64 a4, .int .i64 a5] :: _) from HL.out)
      clear z0 z1 z2 z3 z4 z5
      have u0 := HL.out.cell 0 rfl
      have u2 := HL.out.cell 2 rfl
      have u3 := HL.out.cell 3 rfl
      replace HL := Aside0.mk HL.out.tail
      cases a0 with
      | false =>
        go_wp2
        go_roundw
        case rel => exact ⟨y + 1, _, out, rfl, rfl, ⟨by have := Y0.out; omega⟩, ⟨by have := HY.out; omega⟩, ⟨by have h_ := HE.out; rw [if_neg (by simp [mine])] at h_; exact h_⟩, HL, HB⟩
        case measure => simp [intOf]; have := HY.out; have := Y0.out; omega
      | true =>
        cases a3 with
        | false =>
          go_wp2
          go_roundw
          case rel => exact ⟨y + 1, _, out, rfl, rfl, ⟨by have := Y0.out; omega⟩, ⟨by have := HY.out; omega⟩, ⟨by have h_ := HE.out; rw [if_neg (by simp [mine])] at h_; exact h_⟩, HL, HB⟩
          case measure => simp [intOf]; have := HY.out; have := Y0.out; omega
        | true =>
          by_cases et : a2 = thing
          case neg =>
            have bt : (a2 == thing) = false := by simpa using et
            go_wp2
            go_roundw
            case rel => exact ⟨y + 1, _, out, rfl, rfl, ⟨by have := Y0.out; omega⟩, ⟨by have := HY.out; omega⟩, ⟨by have h_ := HE.out; rw [if_neg (by simp [mine, et])] at h_; exact h_⟩, HL, HB⟩
            case measure => simp [intOf]; have := HY.out; have := Y0.out; omega
          subst et
          have hE := HE.out
          rw [if_pos (by simp [mine])] at hE
          have hlen : out.length < 1048576 := by
            have h_ := congrArg List.length hE
            have := KL.out
            simp only [List.length_append, List.length_cons] at h_
            omega
          have HLEN := Aside0.mk hlen
          rw [List.append_assoc, ← List.append_assoc] at hE
          replace HE := Aside0.mk hE
          clear hE hlen
          go_wp2_with ((with_reducible refine gate_builtin (b := .append) (xs := #[.tmp 40, .tmp 42]) rfl ?_); at_builtin; refine HL.out.append_ev HB.out HZ.out rfl (.tmp 40) (.tmp 42) 36 (.int .i64 0) 8 rfl Try.underlying36 (by kernel_rfl) rfl (Nat.succ_pos _) (by decide) rfl rfl [.int .i64 x] rfl (by simp [Value.oneCell']) (show (out.length + 1) * 8 ≤ 140737488355328 from by have := HLEN.out; omega) ?_; intro v5_ w5 hl_ hb_ hz_; replace HL := Aside0.mk hl_; replace HB := Aside0.mk hb_; replace HZ := Aside0.mk hz_; clear hl_ hb_ hz_; replace HL := Aside0.mk (rI_snoc _ out x ▸ HL.out))
          go_roundw
          case rel => exact ⟨y + 1, _, out ++ [x], rfl, rfl, ⟨by have := Y0.out; omega⟩, ⟨by have := HY.out; omega⟩, HE, HL, HB⟩
          case measure => simp [intOf]; have := HY.out; have := Y0.out; omega
def ownsR (b : Bool) (T : List S67) (B : List S78) (thing : Int) : List Int × Bool := if b = true ∧ 0 ≤ thing ∧ thing < (T.length : Int) then (owns thing 0 B, true) else ([], false)
set_option maxHeartbeats 4000000 in
set_option maxRecDepth 100000 in
theorem impl_OwnersOf.lay (k : Nat) (A0 : Option Addr) (c0 : Nat) (T : List S67) (A1 : Option Addr) (c1 : Nat) (B : List S78) (A2 : Option Addr) (c2 : Nat) (C : List S155) (A3 : Option Addr) (c3 : Nat) (E : List Int) (thing : Int) (b : Bool) (w : World) (hr0 : Kd.C k67 w A0 T.length T) (hc0 : T.length ≤ c0) (hr1 : Kd.C k78 w A1 B.length B) (hc1 : B.length ≤ c1) (hr2 : Kd.C k155 w A2 C.length C) (hc2 : C.length ≤ c2) (hr3 : Kd.C (Kd.int .i64) w A3 E.length E) (hc3 : E.length ≤ c3) (hh : impl_GoodWorld.f k T B C E = some b) (hK : b = true → (owns thing 0 B).length ≤ 1048576) :
    Calls Try.prog 33 #[.agg #[.slice A0 T.length c0, .slice A1 B.length c1, .slice A2 C.length c2, .slice A3 E.length c3], .int .i64 thing] w fun e w' => ∃ v, e = .returned (.tuple #[v, .bool (ownsR b T B thing).2]) ∧ Lay w' w.heap.size [rI v (ownsR b T B thing).1] ∧ Below w.heap.size w w' := by
  have H0 := Aside0.mk (And.intro hr0 (And.intro hc0 (And.intro hr1 (And.intro hc1 (And.intro hr2 (And.intro hc2 (And.intro hr3 hc3)))))))
  have HH := Aside0.mk hh
  have HK := Aside0.mk hK
  have TL := Aside0.mk (show T.length ≤ 9223372036854775807 from hr0.2.1)
  have BL := Aside0.mk (show B.length ≤ 9223372036854775807 from hr1.2.1)
  have HL := Aside0.mk (Lay.nil w w.heap.size)
  have HB := Aside0.mk (Below.refl w.heap.size w)
  have HZ := Aside0.mk (Nat.le_refl w.heap.size)
  clear hr0 hc0 hr1 hc1 hr2 hc2 hr3 hc3 hh hK
  go_enter Try.func33, Try.ntmps33
  go_upto_region 1 with ((with_reducible refine gate_dst (N := 2) rfl ?_); (try (refine gate_guard (by rfl) ?_; dsimp only)); refine HL.out.box_ev HB.out HZ.out rfl (N := 2) rfl [.slice A0 T.length c0, .slice A1 B.length c1, .slice A2 C.length c2, .slice A3 E.length c3] 45 (by first | (go_simp; done) | (go_simp; rfl)) ?_; intro g2 w1 hl_ hb_ hz_; replace HL := Aside0.mk hl_; replace HB := Aside0.mk hb_; replace HZ := Aside0.mk hz_; clear hl_ hb_ hz_)
  have b0 := HL.out.cell 0 rfl
  have b1 := HL.out.cell 1 rfl
  have b2 := HL.out.cell 2 rfl
  have b3 := HL.out.cell 3 rfl
  cases b with
  | false =>
    have hno : ownsR false T B thing = ([], false) := rfl
    go_wp2_with (go_at_call 19; refine (impl_GoodWorld.calls k A0 c0 T A1 c1 B A2 c2 C A3 c3 E _ _ (Kd.C_below H0.out.1 HB.out) H0.out.2.1 (Kd.C_below H0.out.2.2.1 HB.out) H0.out.2.2.2.1 (Kd.C_below H0.out.2.2.2.2.1 HB.out) H0.out.2.2.2.2.2.1 (Kd.C_below H0.out.2.2.2.2.2.2.1 HB.out) H0.out.2.2.2.2.2.2.2 HH.out).mono ?_; rintro e_ w2 ⟨rfl, hb_⟩; replace HL := Aside0.mk (HL.out.below hb_); replace HB := Aside0.mk (below_up HB.out HZ.out hb_); replace HZ := Aside0.mk (Nat.le_trans HZ.out hb_.size); clear hb_ b0 b1 b2 b3; have b0 := HL.out.cell 0 rfl; have b1 := HL.out.cell 1 rfl)
    refine bodyPost_ret (results_list (rs := [.tmp 4, .tmp 5]) rfl (by simp) (.tmp (.tmp .nil))) rfl ⟨nilV, ?_, ?_, HB.out⟩
    · rw [hno]; rfl
    · rw [hno]; exact (Lay.nil _ _).nilRow 3 1
  | true =>
    by_cases k0 : thing < 0
    · have hno : ownsR true T B thing = ([], false) := if_neg (by omega)
      have e0 : decide (thing < 0) = true := decide_eq_true k0
      go_wp2_with (go_at_call 19; refine (impl_GoodWorld.calls k A0 c0 T A1 c1 B A2 c2 C A3 c3 E _ _ (Kd.C_below H0.out.1 HB.out) H0.out.2.1 (Kd.C_below H0.out.2.2.1 HB.out) H0.out.2.2.2.1 (Kd.C_below H0.out.2.2.2.2.1 HB.out) H0.out.2.2.2.2.2.1 (Kd.C_below H0.out.2.2.2.2.2.2.1 HB.out) H0.out.2.2.2.2.2.2.2 HH.out).mono ?_; rintro e_ w2 ⟨rfl, hb_⟩; replace HL := Aside0.mk (HL.out.below hb_); replace HB := Aside0.mk (below_up HB.out HZ.out hb_); replace HZ := Aside0.mk (Nat.le_trans HZ.out hb_.size); clear hb_ b0 b1 b2 b3; have b0 := HL.out.cell 0 rfl; have b1 := HL.out.cell 1 rfl)
      refine bodyPost_ret (results_list (rs := [.tmp 4, .tmp 5]) rfl (by simp) (.tmp (.tmp .nil))) rfl ⟨nilV, ?_, ?_, HB.out⟩
      · rw [hno]; rfl
      · rw [hno]; exact (Lay.nil _ _).nilRow 3 1
    have e0 : decide (thing < 0) = false := decide_eq_false k0
    by_cases k1 : thing ≥ (T.length : Int)
    · have hno : ownsR true T B thing = ([], false) := if_neg (by omega)
      have e1 : decide ((T.length : Int) ≤ thing) = true := decide_eq_true k1
      go_wp2_with (go_at_call 19; refine (impl_GoodWorld.calls k A0 c0 T A1 c1 B A2 c2 C A3 c3 E _ _ (Kd.C_below H0.out.1 HB.out) H0.out.2.1 (Kd.C_below H0.out.2.2.1 HB.out) H0.out.2.2.2.1 (Kd.C_below H0.out.2.2.2.2.1 HB.out) H0.out.2.2.2.2.2.1 (Kd.C_below H0.out.2.2.2.2.2.2.1 HB.out) H0.out.2.2.2.2.2.2.2 HH.out).mono ?_; rintro e_ w2 ⟨rfl, hb_⟩; replace HL := Aside0.mk (HL.out.below hb_); replace HB := Aside0.mk (below_up HB.out HZ.out hb_); replace HZ := Aside0.mk (Nat.le_trans HZ.out hb_.size); clear hb_ b0 b1 b2 b3; have b0 := HL.out.cell 0 rfl; have b1 := HL.out.cell 1 rfl)
      refine bodyPost_ret (results_list (rs := [.tmp 4, .tmp 5]) rfl (by simp) (.tmp (.tmp .nil))) rfl ⟨nilV, ?_, ?_, HB.out⟩
      · rw [hno]; rfl
      · rw [hno]; exact (Lay.nil _ _).nilRow 3 1
    have e1 : decide ((T.length : Int) ≤ thing) = false := decide_eq_false k1
    have hno : ownsR true T B thing = (owns thing 0 B, true) := if_pos ⟨rfl, by omega, by omega⟩
    have KL := Aside0.mk (HK.out rfl)
    go_wp2_with (first | (go_at_call 19; refine (impl_GoodWorld.calls k A0 c0 T A1 c1 B A2 c2 C A3 c3 E _ _ (Kd.C_below H0.out.1 HB.out) H0.out.2.1 (Kd.C_below H0.out.2.2.1 HB.out) H0.out.2.2.2.1 (Kd.C_below H0.out.2.2.2.2.1 HB.out) H0.out.2.2.2.2.2.1 (Kd.C_below H0.out.2.2.2.2.2.2.1 HB.out) H0.out.2.2.2.2.2.2.2 HH.out).mono ?_; rintro e_ w2 ⟨rfl, hb_⟩; replace HL := Aside0.mk (HL.out.below hb_); replace HB := Aside0.mk (below_up HB.out HZ.out hb_); replace HZ := Aside0.mk (Nat.le_trans HZ.out hb_.size); clear hb_ b0 b1 b2 b3; have b0 := HL.out.cell 0 rfl; have b1 := HL.out.cell 1 rfl) | (go_at_call 93; refine (impl_World_owners.lay g2 A1 c1 B thing _ b1 (Kd.C_below H0.out.2.2.1 HB.out) KL.out).mono ?_; rintro e_ w3 ⟨v, rfl, hl_, hb_⟩; have HR := Aside0.mk ((Lay.nil _ w.heap.size).merge hb_ HZ.out hl_); replace HB := Aside0.mk (below_up HB.out HZ.out hb_); clear hb_ hl_))
    refine bodyPost_ret (results_list (rs := [.tmp 4, .tmp 5]) rfl (by simp) (.tmp (.tmp .nil))) rfl ?_
    try rw [hno]
    exact ⟨_, rfl, HR.out, HB.out⟩
set_option maxHeartbeats 4000000 in
set_option maxRecDepth 100000 in
theorem spec_OwnersOf.lay (k : Nat) (A0 : Option Addr) (c0 : Nat) (T : List S67) (A1 : Option Addr) (c1 : Nat) (B : List S78) (A2 : Option Addr) (c2 : Nat) (C : List S155) (A3 : Option Addr) (c3 : Nat) (E : List Int) (thing : Int) (b : Bool) (w : World) (hr0 : Kd.C k67 w A0 T.length T) (hc0 : T.length ≤ c0) (hr1 : Kd.C k78 w A1 B.length B) (hc1 : B.length ≤ c1) (hr2 : Kd.C k155 w A2 C.length C) (hc2 : C.length ≤ c2) (hr3 : Kd.C (Kd.int .i64) w A3 E.length E) (hc3 : E.length ≤ c3) (hh : spec_GoodWorld.f k T B C E = some b) (hK : b = true → (owns thing 0 B).length ≤ 1048576) :
    Calls Try.prog 32 #[.agg #[.slice A0 T.length c0, .slice A1 B.length c1, .slice A2 C.length c2, .slice A3 E.length c3], .int .i64 thing] w fun e w' => ∃ v, e = .returned (.tuple #[v, .bool (ownsR b T B thing).2]) ∧ Lay w' w.heap.size [rI v (ownsR b T B thing).1] ∧ Below w.heap.size w w' := by
  have H0 := Aside0.mk (And.intro hr0 (And.intro hc0 (And.intro hr1 (And.intro hc1 (And.intro hr2 (And.intro hc2 (And.intro hr3 hc3)))))))
  have HH := Aside0.mk hh
  have HK := Aside0.mk hK
  have TL := Aside0.mk (show T.length ≤ 9223372036854775807 from hr0.2.1)
  have BL := Aside0.mk (show B.length ≤ 9223372036854775807 from hr1.2.1)
  have HL := Aside0.mk (Lay.nil w w.heap.size)
  have HB := Aside0.mk (Below.refl w.heap.size w)
  have HZ := Aside0.mk (Nat.le_refl w.heap.size)
  clear hr0 hc0 hr1 hc1 hr2 hc2 hr3 hc3 hh hK
  go_enter Try.func32, Try.ntmps32
  go_upto_region 1 with ((with_reducible refine gate_dst (N := 2) rfl ?_); (try (refine gate_guard (by rfl) ?_; dsimp only)); refine HL.out.box_ev HB.out HZ.out rfl (N := 2) rfl [.slice A0 T.length c0, .slice A1 B.length c1, .slice A2 C.length c2, .slice A3 E.length c3] 45 (by first | (go_simp; done) | (go_simp; rfl)) ?_; intro g2 w1 hl_ hb_ hz_; replace HL := Aside0.mk hl_; replace HB := Aside0.mk hb_; replace HZ := Aside0.mk hz_; clear hl_ hb_ hz_)
  have b0 := HL.out.cell 0 rfl
  have b1 := HL.out.cell 1 rfl
  have b2 := HL.out.cell 2 rfl
  have b3 := HL.out.cell 3 rfl
  have w64 : IntKind.i64.wrap ((T.length : Int) - 1) = (T.length : Int) - 1 := IntWalk.i64_in _ (by have := TL.out; omega)
  cases b with
  | false =>
    have hno : ownsR false T B thing = ([], false) := rfl
    go_wp2_with (go_at_call 17; refine (spec_GoodWorld.calls k A0 c0 T A1 c1 B A2 c2 C A3 c3 E _ _ (Kd.C_below H0.out.1 HB.out) H0.out.2.1 (Kd.C_below H0.out.2.2.1 HB.out) H0.out.2.2.2.1 (Kd.C_below H0.out.2.2.2.2.1 HB.out) H0.out.2.2.2.2.2.1 (Kd.C_below H0.out.2.2.2.2.2.2.1 HB.out) H0.out.2.2.2.2.2.2.2 HH.out).mono ?_; rintro e_ w2 ⟨rfl, hb_⟩; replace HL := Aside0.mk (HL.out.below hb_); replace HB := Aside0.mk (below_up HB.out HZ.out hb_); replace HZ := Aside0.mk (Nat.le_trans HZ.out hb_.size); clear hb_ b0 b1 b2 b3; have b0 := HL.out.cell 0 rfl; have b1 := HL.out.cell 1 rfl)
    refine bodyPost_ret (results_list (rs := [.tmp 4, .tmp 5]) rfl (by simp) (.tmp (.tmp .nil))) rfl ⟨nilV, ?_, ?_, HB.out⟩
    · rw [hno]; rfl
    · rw [hno]; exact (Lay.nil _ _).nilRow 3 1
  | true =>
    by_cases k0 : 0 ≤ thing ∧ thing < (T.length : Int)
    case neg =>
      have hno : ownsR true T B thing = ([], false) := if_neg (fun z => k0 z.2)
      have e0 : inB thing 0 ((T.length : Int) - 1) = false := by rw [inB_eq, decide_eq_false (by omega)]
      have e1 : (!(inB thing 0 ((T.length : Int) - 1))) = true := by rw [e0]; rfl
      go_wp2_with (first | (go_at_call 17; refine (spec_GoodWorld.calls k A0 c0 T A1 c1 B A2 c2 C A3 c3 E _ _ (Kd.C_below H0.out.1 HB.out) H0.out.2.1 (Kd.C_below H0.out.2.2.1 HB.out) H0.out.2.2.2.1 (Kd.C_below H0.out.2.2.2.2.1 HB.out) H0.out.2.2.2.2.2.1 (Kd.C_below H0.out.2.2.2.2.2.2.1 HB.out) H0.out.2.2.2.2.2.2.2 HH.out).mono ?_; rintro e_ w2 ⟨rfl, hb_⟩; replace HL := Aside0.mk (HL.out.below hb_); replace HB := Aside0.mk (below_up HB.out HZ.out hb_); replace HZ := Aside0.mk (Nat.le_trans HZ.out hb_.size); clear hb_ b0 b1 b2 b3; have b0 := HL.out.cell 0 rfl; have b1 := HL.out.cell 1 rfl) | (go_at_call 72; refine (spec_l1In.calls thing 0 ((T.length : Int) - 1) _ _ (l1In_f _ _ _)).mono ?_; rintro e_ w_ ⟨rfl, ⟨nd, rfl⟩⟩))
      refine bodyPost_ret (results_list (rs := [.tmp 4, .tmp 5]) rfl (by simp) (.tmp (.tmp .nil))) rfl ⟨nilV, ?_, ?_, pw_below_drewN HB.out _⟩
      · rw [hno]; rfl
      · rw [hno]; exact (Lay.nil _ _).nilRow 3 1
    have hno : ownsR true T B thing = (owns thing 0 B, true) := if_pos ⟨rfl, k0⟩
    have e0 : inB thing 0 ((T.length : Int) - 1) = true := by rw [inB_eq, decide_eq_true (by omega)]
    have e1 : (!(inB thing 0 ((T.length : Int) - 1))) = false := by rw [e0]; rfl
    have KL := Aside0.mk (HK.out rfl)
    clear k0
    go_upto_region 3 with (first | (go_at_call 17; refine (spec_GoodWorld.calls k A0 c0 T A1 c1 B A2 c2 C A3 c3 E _ _ (Kd.C_below H0.out.1 HB.out) H0.out.2.1 (Kd.C_below H0.out.2.2.1 HB.out) H0.out.2.2.2.1 (Kd.C_below H0.out.2.2.2.2.1 HB.out) H0.out.2.2.2.2.2.1 (Kd.C_below H0.out.2.2.2.2.2.2.1 HB.out) H0.out.2.2.2.2.2.2.2 HH.out).mono ?_; rintro e_ w2 ⟨rfl, hb_⟩; replace HL := Aside0.mk (HL.out.below hb_); replace HB := Aside0.mk (below_up HB.out HZ.out hb_); replace HZ := Aside0.mk (Nat.le_trans HZ.out hb_.size); clear hb_ b0 b1 b2 b3; have b0 := HL.out.cell 0 rfl; have b1 := HL.out.cell 1 rfl) | (go_at_call 72; refine (spec_l1In.calls thing 0 ((T.length : Int) - 1) _ _ (l1In_f _ _ _)).mono ?_; rintro e_ w_ ⟨rfl, ⟨nd, rfl⟩⟩))
    go_wp2
    clear b0 b1
    have HBB := Aside0.mk H0.out.2.2.1
    replace HL := Aside0.mk ((Lay.nil (w2.drewN nd) w.heap.size).nilRow 3 1)
    replace HB := Aside0.mk (pw_below_drewN HB.out nd)
    go_loopw [6, 26] (fun v6 v26 wr => ∃ (x : Int) (v : Value) (out : List Int), v26 = .int .i64 x ∧ v6 = v ∧ Aside0 (0 ≤ x) ∧ Aside0 (x ≤ B.length) ∧ Aside0 (out ++ owns thing x (B.drop x.toNat) = owns thing 0 B) ∧ Aside0 (Lay wr w.heap.size (rI v out :: [])) ∧ Aside0 (Below w.heap.size w wr)) (fun _ v26 _ => B.length - (intOf v26).toNat)
    case atStart => exact ⟨0, _, [], rfl, rfl, ⟨Int.le_refl _⟩, ⟨by omega⟩, ⟨rfl⟩, HL, HB⟩
    case round =>
      clear HL HB
      obtain ⟨x, v, out, rfl, rfl, X0, X1, HE, HL, HB⟩ := hrel
      have HZ := Aside0.mk HB.out.size
      by_cases hlt : x < (B.length : Int)
      case neg =>
        have nlt : decide (x < (B.length : Int)) = false := decide_eq_false hlt
        have hE := HE.out
        rw [dropI_end B x hlt X0.out] at hE
        simp only [owns, List.append_nil] at hE
        subst hE
        go_wp2
        refine bodyPost_ret (results_list (rs := [.tmp 4, .tmp 5]) rfl (by simp) (.tmp (.tmp .nil))) rfl ?_
        try rw [hno]
        exact ⟨_, rfl, HL.out, HB.out⟩
      have nlt : decide (x < (B.length : Int)) = true := decide_eq_true hlt
      have q0 : (0 ≤ x) = True := eq_true X0.out
      have q1 : (x < (B.length : Int)) = True := eq_true hlt
      have w64 : IntKind.i64.wrap (x + 1) = x + 1 := IntWalk.i64_in _ (by have := BL.out; have := X0.out; omega)
      obtain ⟨ad, A0, c0, A1, c1, ead, x0, x1, l0, g0, l1, g1⟩ := at_T78 HBB.out x X0.out hlt
      subst ead
      replace x0 := pw_cell_below HB.out x0
      replace x1 := pw_cell_below HB.out x1
      have hE := HE.out
      rw [owns_drop thing B x X0.out hlt] at hE
      have HI := Aside0.mk hlt
      replace HE := Aside0.mk hE
      clear hE hlt
      generalize hR1 : owns thing (x + 1) (B.drop (x + 1).toNat) = R1 at *
      have HR1 := Aside0.mk hR1
      clear hR1
      have G0 := Aside0.mk g0
      have SL := Aside0.mk (show (rd_T78 B x).f0.length ≤ 9223372036854775807 from g0.2.1)
      clear g0 g1 l0 l1
      generalize (rd_T78 B x).f0 = S at *
      go_upto_region 7 with (first | ((with_reducible refine gate_dst (N := 8) rfl ?_); (try (refine gate_guard (by rfl) ?_; dsimp only)); refine HL.out.box_ev HB.out HZ.out rfl (N := 8) rfl [.slice none 0 0, .slice none 0 0] 78 (by first | (go_simp; done) | (go_simp; rfl)) ?_; intro g7 w1 hl_ hb_ hz_; replace HL := Aside0.mk hl_; replace HB := Aside0.mk hb_; replace HZ := Aside0.mk hz_; clear hl_ hb_ hz_) | ((with_reducible refine gate_store (t := 78) (p := 8) rfl ?_); refine HL.out.store_ev HB.out rfl rfl rfl (0) (by first | rfl | (go_simp; done) | (go_simp; rfl)) (u := .agg #[.slice A0 S.length c0, .slice A1 (rd_T78 B x).f1.length c1]) (by first | rfl | (go_simp; done) | (go_simp; rfl)) (seg := [.slice A0 S.length c0, .slice A1 (rd_T78 B x).f1.length c1]) rfl (by kernel_rfl) (by simp [Value.oneCell']) (by first | omega | (simp; done) | (simp; omega)) ?_; intro w2 hl_ hb_ hs_; replace HL := Aside0.mk hl_; replace HB := Aside0.mk hb_; replace HZ := Aside0.mk (Nat.le_trans HZ.out (Nat.le_of_eq hs_)); clear hl_ hb_ hs_))
      replace HL := Aside0.mk (show Lay _ _ (box g7 78 [.slice A0 S.length c0, .slice A1 (rd_T78 B x).f1.length c1] :: _) from HL.out)
      clear x0 x1
      have y0 := HL.out.cell 0 rfl
      go_wp2
      clear y0
      replace HL := Aside0.mk HL.out.tail
      go_loopw [6, 34] (fun v6 v34 wr => ∃ (y : Int) (v : Value) (out : List Int), v34 = .int .i64 y ∧ v6 = v ∧ Aside0 (0 ≤ y) ∧ Aside0 (y ≤ S.length) ∧ Aside0 (out ++ (ownL x thing (S.drop y.toNat) ++ R1) = owns thing 0 B) ∧ Aside0 (Lay wr w.heap.size (rI v out :: [])) ∧ Aside0 (Below w.heap.size w wr)) (fun _ v34 _ => S.length - (intOf v34).toNat)
      case atStart => exact ⟨0, _, out, rfl, rfl, ⟨Int.le_refl _⟩, ⟨by omega⟩, HE, HL, HB⟩
      case round =>
        clear HL HB HE nlt
        obtain ⟨y, v, out, rfl, rfl, Y0, Y1, HE, HL, HB⟩ := hrel
        replace HZ := Aside0.mk HB.out.size
        by_cases hly : y < (S.length : Int)
        case neg =>
          have nly : decide (y < (S.length : Int)) = false := decide_eq_false hly
          have hE := HE.out
          rw [dropI_end S y hly Y0.out] at hE
          go_wp2
          go_roundw
          case rel => exact ⟨x + 1, _, out, rfl, rfl, ⟨by have := X0.out; omega⟩, ⟨by have := HI.out; omega⟩, ⟨by rw [HR1.out]; exact hE⟩, HL, HB⟩
          case measure => simp [intOf]; have := HI.out; have := X0.out; omega
        have nly : decide (y < (S.length : Int)) = true := decide_eq_true hly
        have p0 : (0 ≤ y) = True := eq_true Y0.out
        have p1 : (y < (S.length : Int)) = True := eq_true hly
        have u64 : IntKind.i64.wrap (y + 1) = y + 1 := IntWalk.i64_in _ (by have := SL.out; have := Y0.out; omega)
        obtain ⟨sd, esd, z0, z1, z2, z3, z4, z5⟩ := at_T75 G0.out y Y0.out hly
        subst esd
        replace z0 := pw_cell_below HB.out z0
        replace z1 := pw_cell_below HB.out z1
        replace z2 := pw_cell_below HB.out z2
        replace z3 := pw_cell_below HB.out z3
        replace z4 := pw_cell_below HB.out z4
        replace z5 := pw_cell_below HB.out z5
        have hE := HE.out
        rw [ownL_drop x thing S y Y0.out hly] at hE
        have HY := Aside0.mk hly
        replace HE := Aside0.mk hE
        clear hE hly
        generalize rd_T75 S y = h at *
        obtain ⟨a0, a1, a2, a3, a4, a5⟩ := h
        go_upto_region 10 with (first | ((with_reducible refine gate_dst (N := 10) rfl ?_); (try (refine gate_guard (by rfl) ?_; dsimp only)); refine HL.out.box_ev HB.out HZ.out rfl (N := 10) rfl [.bool false, .int .i64 0, .int .i64 0, .bool false, .int .i64 0, .int .i64 0] 75 (by first | (go_simp; done) | (go_simp; rfl)) ?_; intro g9 w3 hl_ hb_ hz_; replace HL := Aside0.mk hl_; replace HB := Aside0.mk hb_; replace HZ := Aside0.mk hz_; clear hl_ hb_ hz_) | ((with_reducible refine gate_store (t := 75) (p := 10) rfl ?_); refine HL.out.store_ev HB.out rfl rfl rfl (0) (by first | rfl | (go_simp; done) | (go_simp; rfl)) (u := .agg #[.bool a0, .int .i64 a1, .int .i64 a2, .bool a3, .int .i64 a4, .int .i64 a5]) (by first | rfl | (go_simp; done) | (go_simp; rfl)) (seg := [.bool a0, .int .i64 a1, .int .i64 a2, .bool a3, .int .i64 a4, .int .i64 a5]) rfl (by kernel_rfl) (by simp [Value.oneCell']) (by first | omega | (simp; done) | (simp; omega)) ?_; intro w4 hl_ hb_ hs_; replace HL := Aside0.mk hl_; replace HB := Aside0.mk hb_; replace HZ := Aside0.mk (Nat.le_trans HZ.out (Nat.le_of_eq hs_)); clear hl_ hb_ hs_))
        replace HL := Aside0.mk (show Lay _ _ (box g9 75 [.bool a0, .int .i64 a1, .int .i64 a2, .bool a3, .int .i64 a4, .int .i64 a5] :: _) from HL.out)
        clear z0 z1 z2 z3 z4 z5
        have u0 := HL.out.cell 0 rfl
        have u2 := HL.out.cell 2 rfl
        have u3 := HL.out.cell 3 rfl
        replace HL := Aside0.mk HL.out.tail
        cases a0 with
        | false =>
          go_wp2
          go_roundw
          case rel => exact ⟨y + 1, _, out, rfl, rfl, ⟨by have := Y0.out; omega⟩, ⟨by have := HY.out; omega⟩, ⟨by have h_ := HE.out; rw [if_neg (by simp [mine])] at h_; exact h_⟩, HL, HB⟩
          case measure => simp [intOf]; have := HY.out; have := Y0.out; omega
        | true =>
          cases a3 with
          | false =>
            go_wp2
            go_roundw
            case rel => exact ⟨y + 1, _, out, rfl, rfl, ⟨by have := Y0.out; omega⟩, ⟨by have := HY.out; omega⟩, ⟨by have h_ := HE.out; rw [if_neg (by simp [mine])] at h_; exact h_⟩, HL, HB⟩
            case measure => simp [intOf]; have := HY.out; have := Y0.out; omega
          | true =>
            by_cases et : a2 = thing
            case neg =>
              have bt : (a2 == thing) = false := by simpa using et
              go_wp2
              go_roundw
              case rel => exact ⟨y + 1, _, out, rfl, rfl, ⟨by have := Y0.out; omega⟩, ⟨by have := HY.out; omega⟩, ⟨by have h_ := HE.out; rw [if_neg (by simp [mine, et])] at h_; exact h_⟩, HL, HB⟩
              case measure => simp [intOf]; have := HY.out; have := Y0.out; omega
            subst et
            have hE := HE.out
            rw [if_pos (by simp [mine])] at hE
            have hlen : out.length < 1048576 := by
              have h_ := congrArg List.length hE
              have := KL.out
              simp only [List.length_append, List.length_cons] at h_
              omega
            have HLEN := Aside0.mk hlen
            rw [List.append_assoc, ← List.append_assoc] at hE
            replace HE := Aside0.mk hE
            clear hE hlen
            go_wp2_with ((with_reducible refine gate_builtin (b := .append) (xs := #[.tmp 50, .tmp 52]) rfl ?_); at_builtin; refine HL.out.append_ev HB.out HZ.out rfl (.tmp 50) (.tmp 52) 36 (.int .i64 0) 8 rfl Try.underlying36 (by kernel_rfl) rfl (Nat.succ_pos _) (by decide) rfl rfl [.int .i64 x] rfl (by simp [Value.oneCell']) (show (out.length + 1) * 8 ≤ 140737488355328 from by have := HLEN.out; omega) ?_; intro v5_ w5 hl_ hb_ hz_; replace HL := Aside0.mk hl_; replace HB := Aside0.mk hb_; replace HZ := Aside0.mk hz_; clear hl_ hb_ hz_; replace HL := Aside0.mk (rI_snoc _ out x ▸ HL.out))
            go_roundw
            case rel => exact ⟨y + 1, _, out ++ [x], rfl, rfl, ⟨by have := Y0.out; omega⟩, ⟨by have := HY.out; omega⟩, HE, HL, HB⟩
            case measure => simp [intOf]; have := HY.out; have := Y0.out; omega
end Go.Proofs.Ytdoflfifnkpacaa.WO.LA
