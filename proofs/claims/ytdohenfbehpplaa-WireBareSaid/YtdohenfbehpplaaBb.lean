/- Lemmas for this seat's claims, joined by a program of mine out of: Num, May, Hash, With, Slice, Rows2, DecPlain, Dec1, Ref1, EncPlain, Ref3, Value, Wire1, Wire2, Wire3, Wire4, Held. -/
import Derived.Test.YtdohenfbehpplaaBa
import Derived.RegionTactic
import Derived.BigRegion
/- tollhouseref06.number, read. -/
namespace Go.Proofs.Ytdohenfbehpplaa
set_option linter.unusedVariables false
set_option linter.unusedSimpArgs false
open Go.RowKit
attribute [local irreducible] Go.wpList

/-- As few bytes as can be. -/
def nbF (n : Nat) : List UInt8 := if h : n = 0 then [] else nbF (n / 256) ++ [UInt8.ofNat n]
termination_by n
decreasing_by omega
theorem nbF_zero : nbF 0 = [] := by unfold nbF; simp
theorem nbF_pos {n : Nat} (h : 0 < n) : nbF n = nbF (n / 256) ++ [UInt8.ofNat n] := by
  conv => lhs; unfold nbF
  rw [dif_neg (by omega)]
theorem nbF_length (k : Nat) : ∀ n, n < 256 ^ k → (nbF n).length ≤ k := by
  induction k with
  | zero => intro n h; obtain rfl : n = 0 := by simp at h; omega
            rw [nbF_zero]; exact Nat.le_refl _
  | succ k ih =>
    intro n h
    rcases Nat.eq_zero_or_pos n with rfl | h0
    · rw [nbF_zero]; exact Nat.zero_le _
    · rw [nbF_pos h0, List.length_append]
      have := ih (n / 256) (Nat.div_lt_of_lt_mul (by rw [Nat.pow_succ] at h; omega))
      simp only [List.length_cons, List.length_nil]; omega
set_option maxRecDepth 20000 in
set_option maxHeartbeats 1600000 in
/-- tollhouseref06.number. -/
theorem numberI_ok (x : Int) (w : World) (hx : isI64 x) : Calls Try.prog 47 #[.int .i64 x] w fun e w' => ∃ v', e = .returned v' ∧ w'.ownsRow w.heap.size 5 1 v' (nbF x.toNat).length (bvs (nbF x.toNat)) ∧ Below w.heap.size w w' := by
  unfold isI64 at hx
  obtain ⟨N, hN⟩ : ∃ N, N = nbF x.toNat := ⟨_, rfl⟩
  have hN8 : N.length ≤ 8 := by rw [hN]; exact nbF_length 8 _ (by omega)
  rw [← hN]
  have HN := Lib.hid hN
  clear hN
  go_enter Try.func47, Try.ntmps47
  go_wp2_with fail
  go_loopw [0, 3] (fun v0 v3 wr => ∃ (y : Int) (bs : List UInt8), v0 = .int .i64 y ∧ y ≤ 9223372036854775807 ∧ Hid (nbF y.toNat ++ bs = N) ∧ Hid (wr.ownsRow w.heap.size 5 1 v3 bs.length (bvs bs)) ∧ Hid (Below w.heap.size w wr)) (fun v0 _ _ => (intOf v0).toNat)
  case atStart => exact ⟨x, [], rfl, hx.2, by show _ = _; rw [HN.out]; simp, World.ownsRow_nil _ _ _ _, Below.refl _ _⟩
  case round =>
    obtain ⟨y, bs, rfl, hy, HE, HO, HB⟩ := hrel
    have hsr := HB.out.size
    by_cases h0 : 0 < y
    · obtain ⟨n, rfl⟩ : ∃ n : Nat, y = n := ⟨y.toNat, by omega⟩
      have hlen : bs.length + 1 ≤ 8 := by have := congrArg List.length HE.out; rw [List.length_append, Int.toNat_natCast, nbF_pos (by omega)] at this; simp at this; omega
      have HE2 : Hid (nbF (n / 256) ++ ([UInt8.ofNat n] ++ bs) = N) := by show _ = _; rw [← HE.out, Int.toNat_natCast, nbF_pos (n := n) (by omega), List.append_assoc]
      have hlit : Hid ((wr.alloc (.cells #[.int .u8 ((n : Int) % 256)] 5)).ownsRow w.heap.size 5 1 (.slice (some ⟨wr.heap.size, 0, none⟩) 1 1) [UInt8.ofNat n].length (bvs [UInt8.ofNat n])) := by
        have := own_lit wr w.heap.size 5 [UInt8.ofNat n] 1 rfl hsr (by omega)
        have e : bvs [UInt8.ofNat n] = [.int .u8 ((n : Int) % 256)] := by simp [bvs, bv]
        rw [e] at this ⊢
        exact this
      have HOA := Lib.hid (HO.out.alloc (.cells #[.int .u8 ((n : Int) % 256)] 5))
      have HBA := Lib.hid (HB.out.alloc hsr (.cells #[.int .u8 ((n : Int) % 256)] 5))
      clear HE
      go_wp2_with (at_builtin; refine wl_app 10 _ _ _ _ Try.underlying22 info_u8 w.heap.size _ [UInt8.ofNat n] rfl hlit.out _ bs rfl (own_bytes HOA.out) ?hl ?hb ?_; (case hl => simp; omega); (case hb => simp; omega); intro v4 w4 ho4 hg4 hat4; have HB4 := Lib.hid (below_append HBA.out hlit.out hg4 (by simp; omega) (Nat.le_refl _)); have HO4 := Lib.hid ho4; clear ho4 hg4 hat4)
      go_roundw
      case rel => exact ⟨((n / 256 : Nat) : Int), [UInt8.ofNat n] ++ bs, by go_num, by omega, HE2, HO4, HB4⟩
      case measure => simp [intOf]; omega
    · have HE2 : Hid (bs = N) := by show _ = _; rw [← HE.out, show y.toNat = 0 by omega, nbF_zero]; simp
      go_wp2_with fail
      go_ret
      exact ⟨_, rfl, by rw [← HE2.out]; exact HO.out, HB.out⟩

/-- A number of a field; -1: it is none. -/
def badN (l : List UInt8) : Bool := decide (8 < l.length) || (match l with | [] => false | b :: _ => b == 0 || (l.length == 8 && decide (127 < b.toNat)))
def rdI (l : List UInt8) : Int := if badN l then -1 else (be l : Nat)
theorem rdI_bad {l : List UInt8} (h : badN l = true) : rdI l = -1 := if_pos h
theorem rdI_good {l : List UInt8} (h : badN l = false) : rdI l = (be l : Nat) := if_neg (by rw [h]; simp)
theorem be_take_ok {l : List UInt8} (h : badN l = false) (k : Nat) : be (l.take k) < 9223372036854775808 := by
  cases l with
  | nil => simp [be, beF]
  | cons b r =>
    simp only [badN, Bool.or_eq_false_iff, decide_eq_false_iff_not, Bool.and_eq_false_iff, List.length_cons] at h
    obtain ⟨h1, h2, h3⟩ := h
    by_cases hk : k ≤ 7
    · have := be_take_lt (b :: r) k hk; omega
    · by_cases h8 : r.length = 7
      · have hb : b.toNat ≤ 127 := by
          rcases h3 with h3 | h3
          · simp [h8] at h3
          · omega
        have e : (b :: r).take k = b :: r := List.take_of_length_le (by simp; omega)
        rw [e]
        have := beF_lt r b.toNat
        have e2 : be (b :: r) = beF b.toNat r := by simp [be, beF]
        rw [e2]
        rw [h8] at this
        have : (b.toNat + 1) * 256 ^ 7 ≤ 128 * 256 ^ 7 := Nat.mul_le_mul_right _ (by omega)
        omega
      · have e : (b :: r).take k = (b :: r).take 7 := by rw [List.take_of_length_le (by simp; omega), List.take_of_length_le (by simp; omega)]
        rw [e]
        have := be_take_lt (b :: r) 7 (Nat.le_refl _); omega
set_option maxRecDepth 20000 in
set_option maxHeartbeats 1600000 in
/-- tollhouseref06.read. -/
theorem readI_ok (l : List UInt8) (v : Value) (w : World) (h : Bytes w v l) : Calls Try.prog 46 #[v] w fun e w' => e = .returned (.int .i64 (rdI l)) ∧ Below w.heap.size w w' := by
  obtain ⟨R, hR⟩ : ∃ R, R = rdI l := ⟨_, rfl⟩
  rw [← hR]
  have HR := Lib.hid hR
  clear hR
  rcases h.open with ⟨rfl, A, c, rfl, _, _⟩ | ⟨h0, b, off, c, rfl, hc1, hc2, hc⟩
  · go_enter Try.func46, Try.ntmps46
    go_wp2_with fail
    go_loopw [3, 4] (fun v3 v4 wr => v3 = .int .i64 0 ∧ v4 = .int .i64 0 ∧ Hid (Below w.heap.size w wr)) (fun _ _ _ => 0)
    case atStart => exact ⟨rfl, rfl, Below.refl _ _⟩
    case round =>
      obtain ⟨rfl, rfl, HB⟩ := hrel
      go_wp2_with fail
      go_ret
      exact ⟨by rw [HR.out]; rfl, HB.out⟩
  · have HH := Lib.hid h
    by_cases h8 : 8 < l.length
    · have HE : Hid (R = -1) := by show _ = _; rw [HR.out]; exact rdI_bad (by simp [badN, h8])
      have g8 : (8 : Int) < l.length := by omega
      go_enter Try.func46, Try.ntmps46
      go_wp2_with fail
      go_ret
      exact ⟨by rw [HE.out]; rfl, Below.refl _ _⟩
    · have hc0 := hc 0 h0
      rw [Nat.add_zero] at hc0
      by_cases hz : l[0] = 0
      · have HE : Hid (R = -1) := by
          show _ = _; rw [HR.out]; refine rdI_bad ?_
          cases l with
          | nil => simp at h0
          | cons x r => simp at hz; simp [badN, hz]
        rw [hz] at hc0
        have hc0' : w.cell? ⟨b, off, none⟩ = some (.int .u8 0) := hc0
        have g8 : ¬ (8 : Int) < l.length := by omega
        have g0 : (0 : Int) < l.length := by omega
        clear hc0 hc hz
        go_enter Try.func46, Try.ntmps46
        go_wp2_with fail
        go_ret
        exact ⟨by rw [HE.out]; rfl, Below.refl _ _⟩
      · have hz' : (l[0].toNat : Int) ≠ 0 := by intro e; exact hz (UInt8.toNat_inj.1 (by simpa using e))
        have hzb : ((l[0].toNat : Int) == 0) = false := by rw [beq_eq_false_iff_ne]; exact hz'
        have g8 : ¬ (8 : Int) < l.length := by omega
        have g0 : (0 : Int) < l.length := by omega
        by_cases hbig : l.length = 8 ∧ 127 < l[0].toNat
        · obtain ⟨hl8, hb7⟩ := hbig
          have HE : Hid (R = -1) := by
            show _ = _; rw [HR.out]; refine rdI_bad ?_
            cases l with
            | nil => simp at h0
            | cons x r => simp at hb7 hl8; simp [badN, hl8, hb7]
          have k8 : ((l.length : Int) == 8) = true := by rw [beq_iff_eq]; omega
          have k7 : (127 : Int) < l[0].toNat := by omega
          have hc0' : w.cell? ⟨b, off, none⟩ = some (.int .u8 l[0].toNat) := hc0
          clear hc0 hc hz hl8
          go_enter Try.func46, Try.ntmps46
          go_wp2_with fail
          go_ret
          exact ⟨by rw [HE.out]; rfl, Below.refl _ _⟩
        · have hgood : badN l = false := by
            cases l with
            | nil => simp at h0
            | cons x r =>
              simp only [List.getElem_cons_zero, List.length_cons] at hz hbig h8
              simp only [badN, Bool.or_eq_false_iff, decide_eq_false_iff_not, Bool.and_eq_false_iff, List.length_cons, beq_eq_false_iff_ne]
              refine ⟨h8, hz, ?_⟩
              by_cases q : r.length + 1 = 8
              · right; intro q2; exact hbig ⟨q, q2⟩
              · left; exact q
          have HG := Lib.hid hgood
          have HE : Hid (R = (be l : Nat)) := by show _ = _; rw [HR.out]; exact rdI_good hgood
          have hc0' : w.cell? ⟨b, off, none⟩ = some (.int .u8 l[0].toNat) := hc0
          have hk : (((l.length : Int) == 8) = false) ∨ (((l.length : Int) == 8) = true ∧ ¬ (127 : Int) < l[0].toNat) := by
            by_cases q : l.length = 8
            · right; exact ⟨by rw [beq_iff_eq]; omega, fun q2 => hbig ⟨q, by omega⟩⟩
            · left; rw [beq_eq_false_iff_ne]; omega
          clear hc0 hz hbig hgood
          go_enter Try.func46, Try.ntmps46
          rcases hk with hk | ⟨hk, hk7⟩
          all_goals
            go_wp2_with fail
            go_loopw [3, 4] (fun v3 v4 wr => ∃ k : Nat, k ≤ l.length ∧ v3 = .int .i64 (be (l.take k)) ∧ v4 = .int .i64 k ∧ Hid (Below w.heap.size w wr)) (fun _ v4 _ => l.length - (intOf v4).toNat)
            case atStart => exact ⟨0, Nat.zero_le _, rfl, rfl, Below.refl _ _⟩
            case round =>
              obtain ⟨k, hk, rfl, rfl, HB⟩ := hrel
              by_cases hlt : k < l.length
              · have hck : wr.cell? ⟨b, off + k, none⟩ = some (.int .u8 l[k].toNat) := cell_below HB.out (hc k hlt)
                have hb1 := be_take_ok HG.out (k + 1)
                rw [be_take_snoc l k hlt] at hb1
                have hw1 : IntKind.i64.wrap ((be (l.take k) : Int) * 256) = (be (l.take k) : Int) * 256 := by rw [IntKind.wrap_i64]; omega
                have hw2 : IntKind.i64.wrap ((be (l.take k) : Int) * 256 + (l[k].toNat : Int)) = (be (l.take k) : Int) * 256 + (l[k].toNat : Int) := by rw [IntKind.wrap_i64]; omega
                have hw0 : IntKind.i64.wrap (l[k].toNat : Int) = (l[k].toNat : Int) := by have := l[k].toNat_lt; rw [IntKind.wrap_i64]; omega
                have HS := Lib.hid (be_take_snoc l k hlt)
                clear hb1 hc
                go_wp2_with fail
                go_roundw
                case rel => exact ⟨k + 1, by omega, by rw [HS.out]; go_num, by go_num, HB.out⟩
                case measure => simp [intOf]; omega
              · have HS : Hid (l.take k = l) := List.take_of_length_le (by omega)
                go_wp2_with fail
                go_ret
                exact ⟨by rw [HE.out]; show Ending.returned (.int .i64 (be (l.take k) : Nat)) = _; rw [HS.out], HB.out⟩
end Go.Proofs.Ytdohenfbehpplaa
/- tollhouseref06.May. -/
namespace Go.Proofs.Ytdohenfbehpplaa
set_option linter.unusedVariables false
set_option linter.unusedSimpArgs false
open Go.RowKit
attribute [local irreducible] Go.wpList
attribute [local go_sem ↓] ldm stm bdm

/-- May's ranges. -/
def inRange (m : Msg) : Prop := 1 ≤ m.channel ∧ m.channel ≤ 65535 ∧ 0 ≤ m.id ∧ m.id ≤ 2147483647 ∧ 0 ≤ m.amount ∧ 0 ≤ m.expiry ∧ m.expiry ≤ 2147483647 ∧ 0 ≤ m.number ∧ m.number ≤ 2147483647 ∧ 0 ≤ m.told ∧ m.told ≤ 2147483647 ∧ m.reason.length ≤ 256
instance (m : Msg) : Decidable (inRange m) := by unfold inRange; infer_instance
def mayS (m : Msg) : Bool := decide (fieldsOf m.kind ≠ [] ∧ sameB m (bareS m) = true ∧ inRange m ∧ (m.kind ≠ 1 ∨ m.onion.length = 2112))

theorem bytes_len {w : World} {A : Option Addr} {n c : Nat} {l : List UInt8} (h : Bytes w (.slice A n c) l) : n = l.length := by
  obtain ⟨A', n', c', e, hl, _⟩ := h
  simp only [Value.slice.injEq] at e
  obtain ⟨rfl, rfl, rfl⟩ := e
  simpa [bvs] using hl.symm
set_option maxRecDepth 20000 in
set_option maxHeartbeats 3200000 in
/-- tollhouseref06.May. -/
theorem rmay_ok (m : Msg) (o r : Value) (w : World) (hm : m.Wf) (ho : Bytes w o m.onion) (hr : Bytes w r m.reason) :
    Calls Try.prog 17 #[.agg (mc m o r)] w fun e w' => e = .returned (.bool (mayS m)) ∧ Below w.heap.size w w' := by
  have HO := Lib.hid ho
  have HR := Lib.hid hr
  obtain ⟨Ao, no, co, rfl⟩ := ho.slice
  obtain ⟨Ar, nr, cr, rfl⟩ := hr.slice
  obtain ⟨E, hE⟩ : ∃ E, E = mayS m := ⟨_, rfl⟩
  rw [← hE]
  have HE := Lib.hid hE
  clear ho hr hE
  by_cases hf : fieldsOf m.kind = []
  · have HE2 : Hid (E = false) := by show _ = _; rw [HE.out]; simp [mayS, hf]
    go_enter Try.func17, Try.ntmps17
    go_wp2_with (first | ((with_reducible refine dst_is 1 ?_); refine wl_box 1 _ _ _ rfl ?_; intro W1 e1; have z1 : W1.heap.size = w.heap.size + 1 := (by rw [e1]; simp); have HA : MsgIn W1 w.heap.size m (.slice Ao no co) (.slice Ar nr cr) := (by rw [e1]; exact msgIn_new w hm); have HB1 : Below w.heap.size w W1 := (by rw [e1]; exact (Below.refl _ _).alloc (Nat.le_refl _) _); clear e1))
    have HBd : Below w.heap.size w W1.drew := HB1.drew
    have c0 := HA.cell 0 _ mc_0
    go_region_with (first | (go_at_call 25; refine (rfields_ok m.kind _).mono ?_; rintro e wa ⟨Af, nf, cf, rfl, hnf, _, _, hba⟩; have hnf0 := hnf.len; rw [hf] at hnf0; simp only [List.length_nil] at hnf0; subst hnf0; have HBa := below_of HBd hba (by simp; omega); have HA' := (HA.of_block (w' := W1.drew) rfl).below hba) | fail)
    all_goals
      go_wp2_with fail
      go_ret
      exact ⟨by rw [HE2.out]; rfl, HBa⟩
  · have hfl : 0 < (fieldsOf m.kind).length := List.length_pos_iff.2 hf
    go_enter Try.func17, Try.ntmps17
    go_wp2_with (first | ((with_reducible refine dst_is 1 ?_); refine wl_box 1 _ _ _ rfl ?_; intro W1 e1; have z1 : W1.heap.size = w.heap.size + 1 := (by rw [e1]; simp); have HA : MsgIn W1 w.heap.size m (.slice Ao no co) (.slice Ar nr cr) := (by rw [e1]; exact msgIn_new w hm); have HB1 : Below w.heap.size w W1 := (by rw [e1]; exact (Below.refl _ _).alloc (Nat.le_refl _) _); clear e1))
    have HBd : Below w.heap.size w W1.drew := HB1.drew
    have c0 := HA.cell 0 _ mc_0
    have hR1 : W1.drew.rangeAt w.heap.size 0 (mcl m (.slice Ao no co) (.slice Ar nr cr)) := (World.rangeAt_drew _ _ _ _).2 HA.range
    have hL1 : ∀ W : World, W.rangeAt w.heap.size 0 (mcl m (.slice Ao no co) (.slice Ar nr cr)) → (LdAny 25 (.pointer (some ⟨w.heap.size, 0, none⟩))).run Try.prog W = .ok (.agg (mc m (.slice Ao no co) (.slice Ar nr cr))) W := fun W h => run_loadAt_mid W _ _ _ _ _ h Try.underlying25 rfl (size_mc _ _ _ hm)
    have hgt : ∀ n : Nat, 0 < n → ((n : Int) == 0) = false := fun n hn => by rw [beq_eq_false_iff_ne]; omega
    have HSW := Lib.hid (bareS_wf hm)
    go_region_held3 (fun W => W.cell? ⟨w.heap.size, 0, none⟩ = some (.int .i64 m.kind) ∧ W.rangeAt w.heap.size 0 (mcl m (.slice Ao no co) (.slice Ar nr cr)))
      (first | go_keep | exact ⟨c0, hR1⟩ | exact ⟨HA'.cell 0 _ mc_0, HA'.range⟩)
      (first | (go_at_call 25; refine (rfields_ok m.kind _).mono ?_; rintro e wa ⟨Af, nf, cf, rfl, hnf, _, _, hba⟩; have hnf0 := hnf.len; have hg0 := hgt nf (by omega); have HBa := below_of HBd hba (by simp; omega); have HA' := (HA.of_block (w' := W1.drew) rfl).below hba; have hza := hba.size; clear hnf hba) | (go_at_call 19; refine (rbare_ok m _ _ _ hm (HO.out.below HBa) (HR.out.below HBa)).mono ?_; rintro e wb ⟨o2, r2, rfl, ho2, hr2, hbb⟩; have HBb := below_of HBa hbb (by simp at hza; omega); replace HA' := HA'.below hbb; have hzb := hbb.size; have HO2 := Lib.hid (ho2.below hbb); have HR2 := Lib.hid (hr2.below hbb); clear ho2 hr2 hbb) | (go_at_call 12; refine (same_ok m (bareS m) _ _ _ _ _ hm HSW.out (HO.out.below HBb) (HR.out.below HBb) HO2.out HR2.out).mono ?_; rintro e wc ⟨rfl, hbc⟩; have HBc := Lib.hid (below_of HBb hbc (by simp at hza; omega)); replace HA' := HA'.below hbc; clear hbc HBb HO2 HR2))
    rename_i wz
    clear hR1 hL1 HBa hza hzb hgt hg0 c0 HBd HB1 z1
    by_cases hs : sameB m (bareS m) = true
    case neg =>
      have hs2 : sameB m (bareS m) = false := by simpa using hs
      have HE2 : Hid (E = false) := by show _ = _; rw [HE.out]; simp [mayS, hs]
      simp only [hs2, Bool.not_false]
      clear hs hs2
      go_wp2_with fail
      go_ret
      exact ⟨by rw [HE2.out]; rfl, HBc.out⟩
    simp only [hs, Bool.not_true]
    have HS := Lib.hid hs
    clear hs
    have d1 := HA'.cell 1 _ mc_1
    have d2 := HA'.cell 2 _ mc_2
    have d3 := HA'.cell 3 _ mc_3
    have d4 := HA'.cell 4 _ mc_4
    have d5 := HA'.cell 134 _ (mc_134 hm)
    have d6 := HA'.cell 135 _ (mc_135 hm)
    have d7 := HA'.cell 136 _ (mc_136 hm)
    have d8 := HA'.cell 37 _ (mc_37 hm)
    obtain rfl : nr = m.reason.length := bytes_len HR.out
    obtain rfl : no = m.onion.length := bytes_len HO.out
    clear HA'
    by_cases q0 : m.channel < 1
    · have HE2 : Hid (E = false) := by show _ = _; rw [HE.out]; have : ¬ inRange m := (by unfold inRange; omega); simp [mayS, this]
      go_wp2_with fail
      go_ret
      exact ⟨by rw [HE2.out]; rfl, HBc.out⟩
    by_cases q1 : 65535 < m.channel
    · have HE2 : Hid (E = false) := by show _ = _; rw [HE.out]; have : ¬ inRange m := (by unfold inRange; omega); simp [mayS, this]
      go_wp2_with fail
      go_ret
      exact ⟨by rw [HE2.out]; rfl, HBc.out⟩
    by_cases q2 : m.id < 0
    · have HE2 : Hid (E = false) := by show _ = _; rw [HE.out]; have : ¬ inRange m := (by unfold inRange; omega); simp [mayS, this]
      go_wp2_with fail
      go_ret
      exact ⟨by rw [HE2.out]; rfl, HBc.out⟩
    by_cases q3 : 2147483647 < m.id
    · have HE2 : Hid (E = false) := by show _ = _; rw [HE.out]; have : ¬ inRange m := (by unfold inRange; omega); simp [mayS, this]
      go_wp2_with fail
      go_ret
      exact ⟨by rw [HE2.out]; rfl, HBc.out⟩
    by_cases q4 : m.amount < 0
    · have HE2 : Hid (E = false) := by show _ = _; rw [HE.out]; have : ¬ inRange m := (by unfold inRange; omega); simp [mayS, this]
      go_wp2_with fail
      go_ret
      exact ⟨by rw [HE2.out]; rfl, HBc.out⟩
    by_cases q5 : m.expiry < 0
    · have HE2 : Hid (E = false) := by show _ = _; rw [HE.out]; have : ¬ inRange m := (by unfold inRange; omega); simp [mayS, this]
      go_wp2_with fail
      go_ret
      exact ⟨by rw [HE2.out]; rfl, HBc.out⟩
    by_cases q6 : 2147483647 < m.expiry
    · have HE2 : Hid (E = false) := by show _ = _; rw [HE.out]; have : ¬ inRange m := (by unfold inRange; omega); simp [mayS, this]
      go_wp2_with fail
      go_ret
      exact ⟨by rw [HE2.out]; rfl, HBc.out⟩
    by_cases q7 : m.number < 0
    · have HE2 : Hid (E = false) := by show _ = _; rw [HE.out]; have : ¬ inRange m := (by unfold inRange; omega); simp [mayS, this]
      go_wp2_with fail
      go_ret
      exact ⟨by rw [HE2.out]; rfl, HBc.out⟩
    by_cases q8 : 2147483647 < m.number
    · have HE2 : Hid (E = false) := by show _ = _; rw [HE.out]; have : ¬ inRange m := (by unfold inRange; omega); simp [mayS, this]
      go_wp2_with fail
      go_ret
      exact ⟨by rw [HE2.out]; rfl, HBc.out⟩
    by_cases q9 : m.told < 0
    · have HE2 : Hid (E = false) := by show _ = _; rw [HE.out]; have : ¬ inRange m := (by unfold inRange; omega); simp [mayS, this]
      go_wp2_with fail
      go_ret
      exact ⟨by rw [HE2.out]; rfl, HBc.out⟩
    by_cases q10 : 2147483647 < m.told
    · have HE2 : Hid (E = false) := by show _ = _; rw [HE.out]; have : ¬ inRange m := (by unfold inRange; omega); simp [mayS, this]
      go_wp2_with fail
      go_ret
      exact ⟨by rw [HE2.out]; rfl, HBc.out⟩
    by_cases q11 : (256 : Int) < m.reason.length
    · have HE2 : Hid (E = false) := by show _ = _; rw [HE.out]; have : ¬ inRange m := (by unfold inRange; omega); simp [mayS, this]
      go_wp2_with fail
      go_ret
      exact ⟨by rw [HE2.out]; rfl, HBc.out⟩
    have hi : inRange m := by unfold inRange; omega
    have HI := Lib.hid hi
    clear hi
    by_cases k1 : m.kind = 1
    · by_cases k2 : m.onion.length = 2112
      · have HE2 : Hid (E = true) := by show _ = _; rw [HE.out]; simp [mayS, hf, HS.out, HI.out, k2]
        have k3 : ((m.onion.length : Int) == 2112) = true := by rw [beq_iff_eq]; omega
        have k4 : (m.kind != 1) = false := by simp [k1]
        clear k1 k2
        go_wp2_with fail
        go_ret
        exact ⟨by rw [HE2.out]; rfl, HBc.out⟩
      · have HE2 : Hid (E = false) := by show _ = _; rw [HE.out]; simp [mayS, k1, k2]
        have k3 : ((m.onion.length : Int) == 2112) = false := by rw [beq_eq_false_iff_ne]; omega
        have k4 : (m.kind != 1) = false := by simp [k1]
        clear k1 k2
        go_wp2_with fail
        go_ret
        exact ⟨by rw [HE2.out]; rfl, HBc.out⟩
    · have HE2 : Hid (E = true) := by show _ = _; rw [HE.out]; simp [mayS, hf, HS.out, HI.out, k1]
      have k4 : (m.kind != 1) = true := by simp [k1]
      clear k1
      go_wp2_with fail
      go_ret
      exact ⟨by rw [HE2.out]; rfl, HBc.out⟩
end Go.Proofs.Ytdohenfbehpplaa
/- tollhouseref06.hash; rows of 32 bytes in blocks. -/
namespace Go.Proofs.Ytdohenfbehpplaa
set_option linter.unusedVariables false
set_option linter.unusedSimpArgs false
open Go.RowKit
attribute [local irreducible] Go.wpList
attribute [local go_sem ↓] ldm stm bdm

/-- 32 bytes that lie in a block of their own. -/
structure ArrIn (w : World) (b : Nat) (l : List UInt8) : Prop where
  range : w.rangeAt b 0 (bvs l)
  there : w.there b 0 32
  lt : b < w.heap.size
def z32 : List UInt8 := List.replicate 32 0
theorem zero_arr (W : World) : (zeroValue 23).run Try.prog W = .ok (.agg (bvs z32).toArray) W := by kernel_rfl
section
variable {w w' : World} {b : Nat} {l : List UInt8}
theorem ArrIn.of_block (h : ArrIn w b l) (hb : w'.heap[b]? = w.heap[b]?) : ArrIn w' b l := by
  refine ⟨fun j v hv => ?_, fun j hj => ?_, ?_⟩
  · rw [World.cell?_of_block (w := w) (w' := w') (a := ⟨b, 0 + j, none⟩) hb]; exact h.range j v hv
  · rw [World.cell?_of_block (w := w) (w' := w') (a := ⟨b, 0 + j, none⟩) hb, World.frozen?_of_block (w := w) (w' := w') (a := ⟨b, 0 + j, none⟩) hb]; exact h.there j hj
  · have h1 := h.lt
    rw [Array.getElem?_eq_getElem h1] at hb
    exact (Array.getElem?_eq_some_iff.1 hb).1
theorem ArrIn.below (h : ArrIn w b l) (hB : Below w.heap.size w w') : ArrIn w' b l := h.of_block (hB.block b h.lt)
theorem ArrIn.tch {b' : Nat} (h : ArrIn w b l) (hB : Tch b' w w') (hne : b ≠ b') : ArrIn w' b l := h.of_block (hB.block b hne)
theorem ArrIn.alloc (h : ArrIn w b l) (ob : Obj) : ArrIn (w.alloc ob) b l := h.of_block (Below.heap_alloc w ob b h.lt)
theorem arrIn_new (w : World) (t : TypeId) (hl : l.length = 32) : ArrIn (w.alloc (.cells (bvs l).toArray t)) w.heap.size l := by
  have hb := heap_alloc_last w (.cells (bvs l).toArray t)
  refine ⟨fun j v hv => ?_, fun j hj => ⟨?_, ?_⟩, (Array.getElem?_eq_some_iff.1 hb).1⟩
  · rw [cell_of_row _ _ _ _ _ _ hb, Nat.zero_add]; simpa using hv
  · rw [cell_of_row _ _ _ _ _ _ hb, Nat.zero_add, Array.getElem?_eq_getElem (by simp [bvs, hl]; exact hj)]; rfl
  · simp only [World.frozen?, hb]; simp
theorem ArrIn.cell (h : ArrIn w b l) (k : Nat) (hk : k < l.length) : w.cell? ⟨b, k, none⟩ = some (.int .u8 l[k].toNat) := by
  have := h.range k (bv l[k]) (by simp [bvs, hk])
  rwa [Nat.zero_add] at this
theorem ArrIn.ok (h : ArrIn w b l) (k : Nat) (hk : k < 32) : (w.cell? ⟨b, k, none⟩).isSome = true ∧ w.frozen? ⟨b, k, none⟩ = false := by
  have := h.there k hk
  rwa [Nat.zero_add] at this
theorem ArrIn.set (h : ArrIn w b l) (hl : l.length = 32) (k : Nat) (hk : k < 32) (x : UInt8) : ArrIn (w.setCell ⟨b, k, none⟩ (.int .u8 x.toNat)) b (l.set k x) := by
  refine ⟨fun j v hv => ?_, ?_, by have := (tch_setCell w b k (.int .u8 x.toNat)).size; have := h.lt; omega⟩
  · rw [Nat.zero_add]
    by_cases hj : j = k
    · subst hj
      obtain ⟨u, hu⟩ := Option.isSome_iff_exists.1 (h.ok j hk).1
      rw [World.cell?_setCell_same _ _ _ hu, ← hv]
      simp [bvs, bv, hl, hk]
    · rw [World.cell?_setCell_other _ _ _ _ (by intro e; cases e; exact hj rfl)]
      have := h.range j v (by rw [← hv]; simp [bvs, List.getElem?_set, Ne.symm hj])
      rwa [Nat.zero_add] at this
  · exact World.there_setCells h.there b k [.int .u8 x.toNat]
theorem ArrIn.all (h : ArrIn w b l) (l' : List UInt8) (hl' : l'.length = 32) : ArrIn (w.setCells b 0 (bvs l')) b l' :=
  ⟨World.rangeAt_setCells_same _ _ _ _ (by rw [bvs_length, hl']; exact h.there), World.there_setCells h.there _ _ _, by have := (tch_setCells b (bvs l') 0 w).size; have := h.lt; omega⟩
end
theorem results_arr_tmp {fn : Func} {p u : Tmp} (h : fn.results = #[.cell p 23, .tmp u]) (tmps : Array Value) {w : World} {b : Nat} {l : List UInt8} (hp : tmps.getD p undef = .pointer (some ⟨b, 0, none⟩)) (hM : ArrIn w b l) (hl : l.length = 32) :
    (results fn tmps).run Try.prog w = .ok (.tuple #[.agg (bvs l).toArray, tmps.getD u undef]) w := by
  have h1 := run_loadVar_mid (P := Try.prog) w b 0 23 (bvs l) _ hM.range Try.underlying23 rfl (bvs_size l hl)
  rw [results_cell_tmp h, hp]
  simp [asAddr, h1, Result.andThen]
/-- 32 bytes, or none. -/
def hashS (l : List UInt8) : List UInt8 × Bool := if l.length = 32 then (l, true) else (z32, false)
theorem hashS_len (l : List UInt8) : (hashS l).1.length = 32 := by unfold hashS; split; assumption; rfl
theorem set_take (l : List UInt8) (k : Nat) (hl : l.length = 32) (hk : k < 32) : (l.take k ++ List.replicate (32 - k) 0).set k l[k] = l.take (k + 1) ++ List.replicate (32 - (k + 1)) 0 := by
  refine List.ext_getElem? fun i => ?_
  rw [List.getElem?_set]
  simp only [List.length_append, List.length_take, List.length_replicate]
  by_cases h : k = i
  · subst h
    rw [if_pos rfl, if_pos (by omega), List.getElem?_append_left (by simp; omega), List.getElem?_take, if_pos (by omega), List.getElem?_eq_getElem (by omega)]
  · rw [if_neg h]
    by_cases h2 : i < k
    · rw [List.getElem?_append_left (by simp; omega), List.getElem?_append_left (by simp; omega), List.getElem?_take, List.getElem?_take, if_pos h2, if_pos (by omega)]
    · rw [List.getElem?_append_right (by simp; omega), List.getElem?_append_right (by simp; omega), List.getElem?_replicate, List.getElem?_replicate]
      simp only [List.length_take]
      by_cases h3 : i < 32
      · rw [if_pos (by omega), if_pos (by omega)]
      · rw [if_neg (by omega), if_neg (by omega)]
set_option maxRecDepth 20000 in
set_option maxHeartbeats 1600000 in
/-- tollhouseref06.hash. -/
theorem hash_ok (l : List UInt8) (v : Value) (w : World) (h : Bytes w v l) : Calls Try.prog 45 #[v] w fun e w' => e = .returned (.tuple #[.agg (bvs (hashS l).1).toArray, .bool (hashS l).2]) ∧ Below w.heap.size w w' := by
  obtain ⟨A, n, c, rfl⟩ := h.slice
  obtain rfl : n = l.length := bytes_len h
  have HH := Lib.hid h
  obtain ⟨R, hR⟩ : ∃ R, R = hashS l := ⟨_, rfl⟩
  rw [← hR]
  have HR := Lib.hid hR
  clear hR h
  by_cases h32 : l.length = 32
  · have HE : Hid (R = (l, true)) := by show _ = _; rw [HR.out]; exact if_pos h32
    have g : ((l.length : Int) != 32) = false := by simp [h32]
    obtain ⟨b, off, rfl, hc⟩ : ∃ b off, A = some ⟨b, off, none⟩ ∧ ∀ j (hj : j < l.length), w.cell? ⟨b, off + j, none⟩ = some (bv l[j]) := by
      rcases HH.out.open with ⟨rfl, _⟩ | ⟨_, b, off, c', e, _, _, hc⟩
      · simp at h32
      · simp only [Value.slice.injEq] at e; obtain ⟨rfl, _, rfl⟩ := e; exact ⟨b, off, rfl, hc⟩
    have HC := Lib.hid hc
    clear hc
    go_enter Try.func45, Try.ntmps45
    go_wp2_with (first | ((with_reducible refine dst_is 2 ?_); refine wl_alloc 2 _ _ zero_arr ?_; intro W1 e1; have z1 : W1.heap.size = w.heap.size + 1 := (by rw [e1]; simp); have HA : ArrIn W1 w.heap.size z32 := (by rw [e1]; exact arrIn_new w _ rfl); have HB1 : Below w.heap.size w W1 := (by rw [e1]; exact (Below.refl _ _).alloc (Nat.le_refl _) _); clear e1) | ((with_reducible refine dst_is 4 ?_); refine wl_alloc 4 _ _ zero_arr ?_; intro W2 e2; have z2 : W2.heap.size = w.heap.size + 2 := (by rw [e2]; simp [z1]); replace HA := HA.alloc (.cells (bvs z32).toArray 23); rw [← e2] at HA; have HD : ArrIn W2 (w.heap.size + 1) z32 := (by rw [e2, ← z1]; exact arrIn_new W1 _ rfl); have HB2 : Below w.heap.size w W2 := (by rw [e2]; exact HB1.alloc (by omega) _); rw [z1]; clear e2 HB1))
    have HA2 := Lib.hid HA
    have HB := Lib.hid HB2
    have HD2 : Hid (ArrIn W2 (w.heap.size + 1) (l.take 0 ++ List.replicate (32 - 0) 0)) := HD
    clear HA HB2 HD
    go_loopw [5] (fun v5 wr => ∃ k : Nat, k ≤ 32 ∧ v5 = .int .i64 k ∧ Hid (ArrIn wr (w.heap.size + 1) (l.take k ++ List.replicate (32 - k) 0)) ∧ Hid (ArrIn wr w.heap.size z32) ∧ Hid (Below w.heap.size w wr) ∧ wr.heap.size = w.heap.size + 2) (fun v5 _ => 32 - (intOf v5).toNat)
    case atStart => exact ⟨0, by omega, rfl, HD2.out, HA2.out, HB.out, z2⟩
    case round =>
      obtain ⟨k, hk, rfl, HDr, HAr, HBr, zr⟩ := hrel
      by_cases hlt : k < 32
      · have hbl : b < w.heap.size := World.block_lt_of_cell? w _ (HC.out 0 (by omega))
        have hck : wr.cell? ⟨b, off + k, none⟩ = some (.int .u8 l[k].toNat) := cell_below HBr.out (HC.out k (by omega))
        have hll : (l.take k ++ List.replicate (32 - k) (0 : UInt8)).length = 32 := by simp; omega
        have HDn := Lib.hid (HDr.out.set hll k hlt l[k])
        rw [set_take l k h32 hlt] at HDn
        have HTn := Lib.hid (tch_setCell wr (w.heap.size + 1) k (.int .u8 l[k].toNat))
        have hok1 : wr.cell? ⟨w.heap.size + 1, k, none⟩ = some (.int .u8 (l.take k ++ List.replicate (32 - k) (0 : UInt8))[k].toNat) := HDr.out.cell k (by omega)
        have hok2 := (HDr.out.ok k hlt).2
        go_wp2_with fail
        go_roundw
        case rel => exact ⟨k + 1, by omega, by go_num, HDn.out, HAr.out.tch HTn.out (by omega), HTn.out.below HBr.out (by omega), by rw [HTn.out.size]; exact zr⟩
        case measure => simp [intOf]; omega
      · have hkk : k = 32 := by omega
        have HDf : Hid (ArrIn wr (w.heap.size + 1) l) := by
          have := HDr.out
          rw [hkk, List.take_of_length_le (by omega)] at this
          show ArrIn _ _ _
          simpa using this
        clear hkk
        go_wp2_with (first | ((with_reducible refine dst_is 20 ?_); refine wl_load 20 23 _ (w.heap.size + 1) 0 (bvs l) _ rfl rfl Try.underlying23 rfl (bvs_size l h32) HDf.out.range ?_) | ((with_reducible refine store_is 2 ?_); refine wl_puts 23 _ _ w.heap.size 0 (bvs l) rfl rfl (bvs_size l h32) (bvs_one _) (by rw [bvs_length, h32]; exact HAr.out.there) ?_; intro W5 e5; have HA5 := HAr.out.all l h32; rw [← e5] at HA5; have HT : Tch w.heap.size wr W5 := (by rw [e5]; exact tch_setCells _ _ _ _); have HBl5 := HT.below HBr.out (Nat.le_refl _); clear e5 HT))
        (try simp only [Exit.inBlock, Exit.then])
        exact bodyPost_ret (results_arr_tmp rfl _ rfl HA5 h32) rfl ⟨by rw [HE.out]; rfl, HBl5⟩
  · have HE : Hid (R = (z32, false)) := by show _ = _; rw [HR.out]; exact if_neg h32
    have g : ((l.length : Int) != 32) = true := by simp; omega
    go_enter Try.func45, Try.ntmps45
    go_wp2_with (first | ((with_reducible refine dst_is 2 ?_); refine wl_alloc 2 _ _ zero_arr ?_; intro W1 e1; have z1 : W1.heap.size = w.heap.size + 1 := (by rw [e1]; simp); have HA : ArrIn W1 w.heap.size z32 := (by rw [e1]; exact arrIn_new w _ rfl); have HB1 : Below w.heap.size w W1 := (by rw [e1]; exact (Below.refl _ _).alloc (Nat.le_refl _) _); clear e1) | ((with_reducible refine dst_is 4 ?_); refine wl_alloc 4 _ _ zero_arr ?_; intro W2 e2; have z2 : W2.heap.size = w.heap.size + 2 := (by rw [e2]; simp [z1]); replace HA := HA.alloc (.cells (bvs z32).toArray 23); rw [← e2] at HA; have HD : ArrIn W2 (w.heap.size + 1) z32 := (by rw [e2, ← z1]; exact arrIn_new W1 _ rfl); have HB2 : Below w.heap.size w W2 := (by rw [e2]; exact HB1.alloc (by omega) _); rw [z1]; clear e2 HB1) | ((with_reducible refine dst_is 9 ?_); refine wl_load 9 23 _ (w.heap.size + 1) 0 (bvs z32) _ rfl rfl Try.underlying23 rfl (bvs_size z32 rfl) HD.range ?_) | ((with_reducible refine store_is 2 ?_); refine wl_puts 23 _ _ w.heap.size 0 (bvs z32) rfl rfl (bvs_size z32 rfl) (bvs_one _) (by exact HA.there) ?_; intro W5 e5; have HA5 := HA.all z32 rfl; rw [← e5] at HA5; have HT : Tch w.heap.size W2 W5 := (by rw [e5]; exact tch_setCells _ _ _ _); have HBl5 := HT.below HB2 (Nat.le_refl _); clear e5 HT))
    (try simp only [Exit.inBlock, Exit.then])
    exact bodyPost_ret (results_arr_tmp rfl _ rfl HA5 rfl) rfl ⟨by rw [HE.out]; rfl, HBl5⟩
end Go.Proofs.Ytdohenfbehpplaa
/- tollhouseref06.with. (Printed by a program of mine: wip/gen-with.py.) -/
namespace Go.Proofs.Ytdohenfbehpplaa
set_option linter.unusedVariables false
set_option linter.unusedSimpArgs false
open Go.RowKit
attribute [local irreducible] Go.wpList
attribute [local go_sem ↓] ldm stm bdm

/-- A message with a field of some bytes; false: they are none. -/
def withS (m : Msg) (t : Nat) (l : List UInt8) : Msg × Bool :=
  if t = 1 then ({ m with channel := rdI l }, decide (0 ≤ rdI l)) else
  if t = 3 then ({ m with id := rdI l }, decide (0 ≤ rdI l)) else
  if t = 5 then ({ m with amount := rdI l }, decide (0 ≤ rdI l)) else
  if t = 7 then ({ m with expiry := rdI l }, decide (0 ≤ rdI l)) else
  if t = 9 then ({ m with hash := (hashS l).1 }, (hashS l).2) else
  if t = 11 then ({ m with onion := l }, true) else
  if t = 13 then ({ m with secret := (hashS l).1 }, (hashS l).2) else
  if t = 15 then ({ m with point := (hashS l).1 }, (hashS l).2) else
  if t = 17 then ({ m with tag := (hashS l).1 }, (hashS l).2) else
  if t = 19 then ({ m with number := rdI l }, decide (0 ≤ rdI l)) else
  if t = 21 then ({ m with told := rdI l }, decide (0 ≤ rdI l)) else
  ({ m with reason := l }, true)
theorem rdI_i64 (l : List UInt8) : isI64 (rdI l) := by
  unfold isI64
  by_cases h : badN l = true
  · rw [rdI_bad h]; omega
  · have h' : badN l = false := by simpa using h
    have := be_take_ok h' l.length
    rw [List.take_length] at this
    rw [rdI_good h']; omega
theorem withS_wf {m : Msg} (hm : m.Wf) (t : Nat) (l : List UInt8) (hl : l.length ≤ 140737488351232) : (withS m t l).1.Wf := by
  obtain ⟨a1, a2, a3, a4, a5, a6, a7, a8, a9, a10, a11, a12, a13⟩ := hm
  have r1 := rdI_i64 l
  have r2 := hashS_len l
  unfold withS
  by_cases e1 : t = 1
  · rw [if_pos e1]; constructor <;> assumption
  rw [if_neg e1]
  by_cases e3 : t = 3
  · rw [if_pos e3]; constructor <;> assumption
  rw [if_neg e3]
  by_cases e5 : t = 5
  · rw [if_pos e5]; constructor <;> assumption
  rw [if_neg e5]
  by_cases e7 : t = 7
  · rw [if_pos e7]; constructor <;> assumption
  rw [if_neg e7]
  by_cases e9 : t = 9
  · rw [if_pos e9]; constructor <;> assumption
  rw [if_neg e9]
  by_cases e11 : t = 11
  · rw [if_pos e11]; constructor <;> assumption
  rw [if_neg e11]
  by_cases e13 : t = 13
  · rw [if_pos e13]; constructor <;> assumption
  rw [if_neg e13]
  by_cases e15 : t = 15
  · rw [if_pos e15]; constructor <;> assumption
  rw [if_neg e15]
  by_cases e17 : t = 17
  · rw [if_pos e17]; constructor <;> assumption
  rw [if_neg e17]
  by_cases e19 : t = 19
  · rw [if_pos e19]; constructor <;> assumption
  rw [if_neg e19]
  by_cases e21 : t = 21
  · rw [if_pos e21]; constructor <;> assumption
  rw [if_neg e21]
  constructor <;> assumption
/-- The types that a message's fields have. -/
def isType (t : Nat) : Prop := t = 1 ∨ t = 3 ∨ t = 5 ∨ t = 7 ∨ t = 9 ∨ t = 11 ∨ t = 13 ∨ t = 15 ∨ t = 17 ∨ t = 19 ∨ t = 21 ∨ t = 23
set_option maxRecDepth 20000 in
set_option maxHeartbeats 3200000 in
/-- tollhouseref06.with. -/
theorem with_ok (m : Msg) (t : Nat) (l : List UInt8) (o r v : Value) (w : World) (hm : m.Wf) (ho : o.oneCell' = true) (hr : r.oneCell' = true) (hv : Bytes w v l) (hl : l.length ≤ 140737488351232) (ht : isType t) :
    Calls Try.prog 26 #[.agg (mc m o r), .int .u64 t, v] w fun e w' => e = .returned (.tuple #[.agg (mc (withS m t l).1 (cpO o v t) (cpR r v t)), .bool (withS m t l).2]) ∧ Below w.heap.size w w' := by
  have HV := Lib.hid hv
  have HW := Lib.hid (withS_wf hm t l hl)
  have hlen := hashS_len l
  obtain ⟨Av, nv, cv, rfl⟩ := hv.slice
  clear hv
  go_enter Try.func26, Try.ntmps26
  go_wp2_with (first | ((with_reducible refine dst_is 3 ?_); refine wl_box 3 _ _ _ rfl ?_; intro W1 e1; have z1 : W1.heap.size = w.heap.size + 1 := (by rw [e1]; simp); have HA : MsgIn W1 w.heap.size m o r := (by rw [e1]; exact msgIn_new w hm); have HB1 : Below w.heap.size w W1 := (by rw [e1]; exact (Below.refl _ _).alloc (Nat.le_refl _) _); clear e1) | ((with_reducible refine dst_is 6 ?_); refine wl_alloc 6 _ _ zero_msg ?_; intro W2 e2; have z2 : W2.heap.size = w.heap.size + 2 := (by rw [e2]; simp [z1]); replace HA := HA.alloc (.cells (mc zmsg nil0 nil0) 25); rw [← e2] at HA; have HC : MsgIn W2 (w.heap.size + 1) zmsg nil0 nil0 := (by rw [e2, ← z1]; exact msgIn_new W1 zmsg_wf); have HB2 : Below w.heap.size w W2 := (by rw [e2]; exact HB1.alloc (by omega) _); rw [z1]; clear e2 HB1))
  refine (hash_ok l _ W2 (HV.out.below HB2)).mono ?_
  rintro e W3 ⟨rfl, hb3⟩
  replace HA := HA.below hb3
  replace HC := HC.below hb3
  have HB3 := below_of HB2 hb3 (by omega)
  have z3 := hb3.size
  clear hb3 HB2
  go_wp2_with (first | ((with_reducible refine dst_is 8 ?_); refine wl_alloc 8 _ _ zero_arr ?_; intro W4 e4; have z4 : W4.heap.size = W3.heap.size + 1 := (by rw [e4]; simp); replace HA := HA.alloc (.cells (bvs z32).toArray 23); replace HC := HC.alloc (.cells (bvs z32).toArray 23); rw [← e4] at HA HC; have HX : ArrIn W4 W3.heap.size z32 := (by rw [e4]; exact arrIn_new W3 _ rfl); have HB4 : Below w.heap.size w W4 := (by rw [e4]; exact HB3.alloc (by omega) _); clear e4 HB3) | ((with_reducible refine store_is 8 ?_); refine wl_puts 23 _ _ W3.heap.size 0 (bvs (hashS l).1) rfl rfl (bvs_size _ hlen) (bvs_one _) (by rw [bvs_length, hlen]; exact HX.there) ?_; intro W5 e5; replace HX := HX.all (hashS l).1 hlen; rw [← e5] at HX; have HT : Tch W3.heap.size W4 W5 := (by rw [e5]; exact tch_setCells _ _ _ _); have HB5 := HT.below HB4 (by omega); replace HA := HA.tch HT (by omega); replace HC := HC.tch HT (by omega); have z5 := HT.size; clear e5 HT HB4))
  refine (readI_ok l _ W5 (HV.out.below HB5)).mono ?_
  rintro e W6 ⟨rfl, hb6⟩
  replace HA := HA.below hb6
  replace HC := HC.below hb6
  replace HX := HX.below hb6
  have HB6 := below_of HB5 hb6 (by omega)
  clear hb6 HB5
  obtain ⟨x, hx⟩ : ∃ x, x = rdI l := ⟨_, rfl⟩
  rw [← hx]
  have HX2 := Lib.hid hx
  clear hx
  rcases ht with rfl | rfl | rfl | rfl | rfl | rfl | rfl | rfl | rfl | rfl | rfl | rfl
  · have hoo : (o : Value).oneCell' = true := ho
    have hrr : (r : Value).oneCell' = true := hr
    have HW' : ({ m with channel := x } : Msg).Wf := by have := HW.out; rw [HX2.out]; exact this
    go_wp2_with (first | ((with_reducible refine store_is 25 ?_); refine wl_put 3 _ _ w.heap.size 1 (.int .i64 x) rfl rfl (by kernel_rfl) rfl rfl (HA.ok 1 (by decide)).1 (HA.ok 1 (by decide)).2 ?_; intro W7 e7; have HT : Tch w.heap.size W6 W7 := (by rw [e7]; exact tch_setCell _ _ _ _); replace HA := HA.s1 x; rw [← e7] at HA; replace HC := HC.tch HT (by omega); have HB7 := HT.below HB6 (Nat.le_refl _); clear e7 HT HB6) | ((with_reducible refine dst_is 75 ?_); refine wl_load 75 25 _ w.heap.size 0 (mcl { m with channel := x } o r) _ rfl rfl Try.underlying25 rfl (size_mc _ _ _ HW') HA.range ?_) | ((with_reducible refine store_is 6 ?_); refine wl_puts 25 _ _ (w.heap.size + 1) 0 (mcl { m with channel := x } o r) rfl rfl (size_mc _ _ _ HW') (mcl_one hoo hrr) (by rw [mcl_length HW']; exact HC.there) ?_; intro W8 e8; replace HC := HC.all zmsg_wf HW' (o' := o) (r' := r); rw [← e8] at HC; have HT : Tch (w.heap.size + 1) W7 W8 := (by rw [e8]; exact tch_setCells _ _ _ _); have HB8 := HT.below HB7 (by omega); clear e8 HT HB7))
    (try simp only [Exit.inBlock, Exit.then])
    refine bodyPost_ret (results_msg_tmp rfl _ rfl HC HW') rfl ⟨?_, HB8⟩
    have e9 : withS m 1 l = ({ m with channel := x }, decide (0 ≤ x)) := by unfold withS; simp [HX2.out]
    rw [e9]; rfl
  · have hoo : (o : Value).oneCell' = true := ho
    have hrr : (r : Value).oneCell' = true := hr
    have HW' : ({ m with id := x } : Msg).Wf := by have := HW.out; rw [HX2.out]; exact this
    go_wp2_with (first | ((with_reducible refine store_is 29 ?_); refine wl_put 3 _ _ w.heap.size 2 (.int .i64 x) rfl rfl (by kernel_rfl) rfl rfl (HA.ok 2 (by decide)).1 (HA.ok 2 (by decide)).2 ?_; intro W7 e7; have HT : Tch w.heap.size W6 W7 := (by rw [e7]; exact tch_setCell _ _ _ _); replace HA := HA.s2 x; rw [← e7] at HA; replace HC := HC.tch HT (by omega); have HB7 := HT.below HB6 (Nat.le_refl _); clear e7 HT HB6) | ((with_reducible refine dst_is 75 ?_); refine wl_load 75 25 _ w.heap.size 0 (mcl { m with id := x } o r) _ rfl rfl Try.underlying25 rfl (size_mc _ _ _ HW') HA.range ?_) | ((with_reducible refine store_is 6 ?_); refine wl_puts 25 _ _ (w.heap.size + 1) 0 (mcl { m with id := x } o r) rfl rfl (size_mc _ _ _ HW') (mcl_one hoo hrr) (by rw [mcl_length HW']; exact HC.there) ?_; intro W8 e8; replace HC := HC.all zmsg_wf HW' (o' := o) (r' := r); rw [← e8] at HC; have HT : Tch (w.heap.size + 1) W7 W8 := (by rw [e8]; exact tch_setCells _ _ _ _); have HB8 := HT.below HB7 (by omega); clear e8 HT HB7))
    (try simp only [Exit.inBlock, Exit.then])
    refine bodyPost_ret (results_msg_tmp rfl _ rfl HC HW') rfl ⟨?_, HB8⟩
    have e9 : withS m 3 l = ({ m with id := x }, decide (0 ≤ x)) := by unfold withS; simp [HX2.out]
    rw [e9]; rfl
  · have hoo : (o : Value).oneCell' = true := ho
    have hrr : (r : Value).oneCell' = true := hr
    have HW' : ({ m with amount := x } : Msg).Wf := by have := HW.out; rw [HX2.out]; exact this
    go_wp2_with (first | ((with_reducible refine store_is 33 ?_); refine wl_put 3 _ _ w.heap.size 3 (.int .i64 x) rfl rfl (by kernel_rfl) rfl rfl (HA.ok 3 (by decide)).1 (HA.ok 3 (by decide)).2 ?_; intro W7 e7; have HT : Tch w.heap.size W6 W7 := (by rw [e7]; exact tch_setCell _ _ _ _); replace HA := HA.s3 x; rw [← e7] at HA; replace HC := HC.tch HT (by omega); have HB7 := HT.below HB6 (Nat.le_refl _); clear e7 HT HB6) | ((with_reducible refine dst_is 75 ?_); refine wl_load 75 25 _ w.heap.size 0 (mcl { m with amount := x } o r) _ rfl rfl Try.underlying25 rfl (size_mc _ _ _ HW') HA.range ?_) | ((with_reducible refine store_is 6 ?_); refine wl_puts 25 _ _ (w.heap.size + 1) 0 (mcl { m with amount := x } o r) rfl rfl (size_mc _ _ _ HW') (mcl_one hoo hrr) (by rw [mcl_length HW']; exact HC.there) ?_; intro W8 e8; replace HC := HC.all zmsg_wf HW' (o' := o) (r' := r); rw [← e8] at HC; have HT : Tch (w.heap.size + 1) W7 W8 := (by rw [e8]; exact tch_setCells _ _ _ _); have HB8 := HT.below HB7 (by omega); clear e8 HT HB7))
    (try simp only [Exit.inBlock, Exit.then])
    refine bodyPost_ret (results_msg_tmp rfl _ rfl HC HW') rfl ⟨?_, HB8⟩
    have e9 : withS m 5 l = ({ m with amount := x }, decide (0 ≤ x)) := by unfold withS; simp [HX2.out]
    rw [e9]; rfl
  · have hoo : (o : Value).oneCell' = true := ho
    have hrr : (r : Value).oneCell' = true := hr
    have HW' : ({ m with expiry := x } : Msg).Wf := by have := HW.out; rw [HX2.out]; exact this
    go_wp2_with (first | ((with_reducible refine store_is 37 ?_); refine wl_put 3 _ _ w.heap.size 4 (.int .i64 x) rfl rfl (by kernel_rfl) rfl rfl (HA.ok 4 (by decide)).1 (HA.ok 4 (by decide)).2 ?_; intro W7 e7; have HT : Tch w.heap.size W6 W7 := (by rw [e7]; exact tch_setCell _ _ _ _); replace HA := HA.s4 x; rw [← e7] at HA; replace HC := HC.tch HT (by omega); have HB7 := HT.below HB6 (Nat.le_refl _); clear e7 HT HB6) | ((with_reducible refine dst_is 75 ?_); refine wl_load 75 25 _ w.heap.size 0 (mcl { m with expiry := x } o r) _ rfl rfl Try.underlying25 rfl (size_mc _ _ _ HW') HA.range ?_) | ((with_reducible refine store_is 6 ?_); refine wl_puts 25 _ _ (w.heap.size + 1) 0 (mcl { m with expiry := x } o r) rfl rfl (size_mc _ _ _ HW') (mcl_one hoo hrr) (by rw [mcl_length HW']; exact HC.there) ?_; intro W8 e8; replace HC := HC.all zmsg_wf HW' (o' := o) (r' := r); rw [← e8] at HC; have HT : Tch (w.heap.size + 1) W7 W8 := (by rw [e8]; exact tch_setCells _ _ _ _); have HB8 := HT.below HB7 (by omega); clear e8 HT HB7))
    (try simp only [Exit.inBlock, Exit.then])
    refine bodyPost_ret (results_msg_tmp rfl _ rfl HC HW') rfl ⟨?_, HB8⟩
    have e9 : withS m 7 l = ({ m with expiry := x }, decide (0 ≤ x)) := by unfold withS; simp [HX2.out]
    rw [e9]; rfl
  · have hoo : (o : Value).oneCell' = true := ho
    have hrr : (r : Value).oneCell' = true := hr
    have HW' : ({ m with hash := (hashS l).1 } : Msg).Wf := by have := HW.out;  exact this
    go_wp2_with (first | ((with_reducible refine dst_is 40 ?_); refine wl_load 40 23 _ W3.heap.size 0 (bvs (hashS l).1) _ rfl rfl Try.underlying23 rfl (bvs_size _ hlen) HX.range ?_) | ((with_reducible refine store_is 41 ?_); refine wl_puts 23 _ _ w.heap.size 5 (bvs (hashS l).1) rfl rfl (bvs_size _ hlen) (bvs_one _) (fun j hj => HA.ok (5 + j) (by rw [bvs_length, hlen] at hj; omega)) ?_; intro W7 e7; have HT : Tch w.heap.size W6 W7 := (by rw [e7]; exact tch_setCells _ _ _ _); replace HA := HA.s5 hm (hashS l).1 hlen; rw [← e7] at HA; replace HC := HC.tch HT (by omega); have HB7 := HT.below HB6 (Nat.le_refl _); clear e7 HT HB6) | ((with_reducible refine dst_is 42 ?_); refine wl_load 42 25 _ w.heap.size 0 (mcl { m with hash := (hashS l).1 } o r) _ rfl rfl Try.underlying25 rfl (size_mc _ _ _ HW') HA.range ?_) | ((with_reducible refine store_is 6 ?_); refine wl_puts 25 _ _ (w.heap.size + 1) 0 (mcl { m with hash := (hashS l).1 } o r) rfl rfl (size_mc _ _ _ HW') (mcl_one hoo hrr) (by rw [mcl_length HW']; exact HC.there) ?_; intro W8 e8; replace HC := HC.all zmsg_wf HW' (o' := o) (r' := r); rw [← e8] at HC; have HT : Tch (w.heap.size + 1) W7 W8 := (by rw [e8]; exact tch_setCells _ _ _ _); have HB8 := HT.below HB7 (by omega); clear e8 HT HB7))
    (try simp only [Exit.inBlock, Exit.then])
    refine bodyPost_ret (results_msg_tmp rfl _ rfl HC HW') rfl ⟨?_, HB8⟩
    rfl
  · have hoo : ((.slice Av nv cv) : Value).oneCell' = true := rfl
    have hrr : (r : Value).oneCell' = true := hr
    have HW' : ({ m with onion := l } : Msg).Wf := by have := HW.out;  exact this
    go_wp2_with (first | ((with_reducible refine store_is 47 ?_); refine wl_put 22 _ _ w.heap.size 37 (.slice Av nv cv) rfl rfl (by kernel_rfl) rfl rfl (HA.ok 37 (by decide)).1 (HA.ok 37 (by decide)).2 ?_; intro W7 e7; have HT : Tch w.heap.size W6 W7 := (by rw [e7]; exact tch_setCell _ _ _ _); replace HA := HA.s6 hm (.slice Av nv cv) l; rw [← e7] at HA; replace HC := HC.tch HT (by omega); have HB7 := HT.below HB6 (Nat.le_refl _); clear e7 HT HB6) | ((with_reducible refine dst_is 48 ?_); refine wl_load 48 25 _ w.heap.size 0 (mcl { m with onion := l } (.slice Av nv cv) r) _ rfl rfl Try.underlying25 rfl (size_mc _ _ _ HW') HA.range ?_) | ((with_reducible refine store_is 6 ?_); refine wl_puts 25 _ _ (w.heap.size + 1) 0 (mcl { m with onion := l } (.slice Av nv cv) r) rfl rfl (size_mc _ _ _ HW') (mcl_one hoo hrr) (by rw [mcl_length HW']; exact HC.there) ?_; intro W8 e8; replace HC := HC.all zmsg_wf HW' (o' := (.slice Av nv cv)) (r' := r); rw [← e8] at HC; have HT : Tch (w.heap.size + 1) W7 W8 := (by rw [e8]; exact tch_setCells _ _ _ _); have HB8 := HT.below HB7 (by omega); clear e8 HT HB7))
    (try simp only [Exit.inBlock, Exit.then])
    refine bodyPost_ret (results_msg_tmp rfl _ rfl HC HW') rfl ⟨?_, HB8⟩
    rfl
  · have hoo : (o : Value).oneCell' = true := ho
    have hrr : (r : Value).oneCell' = true := hr
    have HW' : ({ m with secret := (hashS l).1 } : Msg).Wf := by have := HW.out;  exact this
    go_wp2_with (first | ((with_reducible refine dst_is 51 ?_); refine wl_load 51 23 _ W3.heap.size 0 (bvs (hashS l).1) _ rfl rfl Try.underlying23 rfl (bvs_size _ hlen) HX.range ?_) | ((with_reducible refine store_is 52 ?_); refine wl_puts 23 _ _ w.heap.size 38 (bvs (hashS l).1) rfl rfl (bvs_size _ hlen) (bvs_one _) (fun j hj => HA.ok (38 + j) (by rw [bvs_length, hlen] at hj; omega)) ?_; intro W7 e7; have HT : Tch w.heap.size W6 W7 := (by rw [e7]; exact tch_setCells _ _ _ _); replace HA := HA.s7 hm (hashS l).1 hlen; rw [← e7] at HA; replace HC := HC.tch HT (by omega); have HB7 := HT.below HB6 (Nat.le_refl _); clear e7 HT HB6) | ((with_reducible refine dst_is 53 ?_); refine wl_load 53 25 _ w.heap.size 0 (mcl { m with secret := (hashS l).1 } o r) _ rfl rfl Try.underlying25 rfl (size_mc _ _ _ HW') HA.range ?_) | ((with_reducible refine store_is 6 ?_); refine wl_puts 25 _ _ (w.heap.size + 1) 0 (mcl { m with secret := (hashS l).1 } o r) rfl rfl (size_mc _ _ _ HW') (mcl_one hoo hrr) (by rw [mcl_length HW']; exact HC.there) ?_; intro W8 e8; replace HC := HC.all zmsg_wf HW' (o' := o) (r' := r); rw [← e8] at HC; have HT : Tch (w.heap.size + 1) W7 W8 := (by rw [e8]; exact tch_setCells _ _ _ _); have HB8 := HT.below HB7 (by omega); clear e8 HT HB7))
    (try simp only [Exit.inBlock, Exit.then])
    refine bodyPost_ret (results_msg_tmp rfl _ rfl HC HW') rfl ⟨?_, HB8⟩
    rfl
  · have hoo : (o : Value).oneCell' = true := ho
    have hrr : (r : Value).oneCell' = true := hr
    have HW' : ({ m with point := (hashS l).1 } : Msg).Wf := by have := HW.out;  exact this
    go_wp2_with (first | ((with_reducible refine dst_is 57 ?_); refine wl_load 57 23 _ W3.heap.size 0 (bvs (hashS l).1) _ rfl rfl Try.underlying23 rfl (bvs_size _ hlen) HX.range ?_) | ((with_reducible refine store_is 58 ?_); refine wl_puts 23 _ _ w.heap.size 70 (bvs (hashS l).1) rfl rfl (bvs_size _ hlen) (bvs_one _) (fun j hj => HA.ok (70 + j) (by rw [bvs_length, hlen] at hj; omega)) ?_; intro W7 e7; have HT : Tch w.heap.size W6 W7 := (by rw [e7]; exact tch_setCells _ _ _ _); replace HA := HA.s8 hm (hashS l).1 hlen; rw [← e7] at HA; replace HC := HC.tch HT (by omega); have HB7 := HT.below HB6 (Nat.le_refl _); clear e7 HT HB6) | ((with_reducible refine dst_is 59 ?_); refine wl_load 59 25 _ w.heap.size 0 (mcl { m with point := (hashS l).1 } o r) _ rfl rfl Try.underlying25 rfl (size_mc _ _ _ HW') HA.range ?_) | ((with_reducible refine store_is 6 ?_); refine wl_puts 25 _ _ (w.heap.size + 1) 0 (mcl { m with point := (hashS l).1 } o r) rfl rfl (size_mc _ _ _ HW') (mcl_one hoo hrr) (by rw [mcl_length HW']; exact HC.there) ?_; intro W8 e8; replace HC := HC.all zmsg_wf HW' (o' := o) (r' := r); rw [← e8] at HC; have HT : Tch (w.heap.size + 1) W7 W8 := (by rw [e8]; exact tch_setCells _ _ _ _); have HB8 := HT.below HB7 (by omega); clear e8 HT HB7))
    (try simp only [Exit.inBlock, Exit.then])
    refine bodyPost_ret (results_msg_tmp rfl _ rfl HC HW') rfl ⟨?_, HB8⟩
    rfl
  · have hoo : (o : Value).oneCell' = true := ho
    have hrr : (r : Value).oneCell' = true := hr
    have HW' : ({ m with tag := (hashS l).1 } : Msg).Wf := by have := HW.out;  exact this
    go_wp2_with (first | ((with_reducible refine dst_is 63 ?_); refine wl_load 63 23 _ W3.heap.size 0 (bvs (hashS l).1) _ rfl rfl Try.underlying23 rfl (bvs_size _ hlen) HX.range ?_) | ((with_reducible refine store_is 64 ?_); refine wl_puts 23 _ _ w.heap.size 102 (bvs (hashS l).1) rfl rfl (bvs_size _ hlen) (bvs_one _) (fun j hj => HA.ok (102 + j) (by rw [bvs_length, hlen] at hj; omega)) ?_; intro W7 e7; have HT : Tch w.heap.size W6 W7 := (by rw [e7]; exact tch_setCells _ _ _ _); replace HA := HA.s9 hm (hashS l).1 hlen; rw [← e7] at HA; replace HC := HC.tch HT (by omega); have HB7 := HT.below HB6 (Nat.le_refl _); clear e7 HT HB6) | ((with_reducible refine dst_is 65 ?_); refine wl_load 65 25 _ w.heap.size 0 (mcl { m with tag := (hashS l).1 } o r) _ rfl rfl Try.underlying25 rfl (size_mc _ _ _ HW') HA.range ?_) | ((with_reducible refine store_is 6 ?_); refine wl_puts 25 _ _ (w.heap.size + 1) 0 (mcl { m with tag := (hashS l).1 } o r) rfl rfl (size_mc _ _ _ HW') (mcl_one hoo hrr) (by rw [mcl_length HW']; exact HC.there) ?_; intro W8 e8; replace HC := HC.all zmsg_wf HW' (o' := o) (r' := r); rw [← e8] at HC; have HT : Tch (w.heap.size + 1) W7 W8 := (by rw [e8]; exact tch_setCells _ _ _ _); have HB8 := HT.below HB7 (by omega); clear e8 HT HB7))
    (try simp only [Exit.inBlock, Exit.then])
    refine bodyPost_ret (results_msg_tmp rfl _ rfl HC HW') rfl ⟨?_, HB8⟩
    rfl
  · have hoo : (o : Value).oneCell' = true := ho
    have hrr : (r : Value).oneCell' = true := hr
    have HW' : ({ m with number := x } : Msg).Wf := by have := HW.out; rw [HX2.out]; exact this
    go_wp2_with (first | ((with_reducible refine store_is 70 ?_); refine wl_put 3 _ _ w.heap.size 134 (.int .i64 x) rfl rfl (by kernel_rfl) rfl rfl (HA.ok 134 (by decide)).1 (HA.ok 134 (by decide)).2 ?_; intro W7 e7; have HT : Tch w.heap.size W6 W7 := (by rw [e7]; exact tch_setCell _ _ _ _); replace HA := HA.s10 hm x; rw [← e7] at HA; replace HC := HC.tch HT (by omega); have HB7 := HT.below HB6 (Nat.le_refl _); clear e7 HT HB6) | ((with_reducible refine dst_is 75 ?_); refine wl_load 75 25 _ w.heap.size 0 (mcl { m with number := x } o r) _ rfl rfl Try.underlying25 rfl (size_mc _ _ _ HW') HA.range ?_) | ((with_reducible refine store_is 6 ?_); refine wl_puts 25 _ _ (w.heap.size + 1) 0 (mcl { m with number := x } o r) rfl rfl (size_mc _ _ _ HW') (mcl_one hoo hrr) (by rw [mcl_length HW']; exact HC.there) ?_; intro W8 e8; replace HC := HC.all zmsg_wf HW' (o' := o) (r' := r); rw [← e8] at HC; have HT : Tch (w.heap.size + 1) W7 W8 := (by rw [e8]; exact tch_setCells _ _ _ _); have HB8 := HT.below HB7 (by omega); clear e8 HT HB7))
    (try simp only [Exit.inBlock, Exit.then])
    refine bodyPost_ret (results_msg_tmp rfl _ rfl HC HW') rfl ⟨?_, HB8⟩
    have e9 : withS m 19 l = ({ m with number := x }, decide (0 ≤ x)) := by unfold withS; simp [HX2.out]
    rw [e9]; rfl
  · have hoo : (o : Value).oneCell' = true := ho
    have hrr : (r : Value).oneCell' = true := hr
    have HW' : ({ m with told := x } : Msg).Wf := by have := HW.out; rw [HX2.out]; exact this
    go_wp2_with (first | ((with_reducible refine store_is 74 ?_); refine wl_put 3 _ _ w.heap.size 135 (.int .i64 x) rfl rfl (by kernel_rfl) rfl rfl (HA.ok 135 (by decide)).1 (HA.ok 135 (by decide)).2 ?_; intro W7 e7; have HT : Tch w.heap.size W6 W7 := (by rw [e7]; exact tch_setCell _ _ _ _); replace HA := HA.s11 hm x; rw [← e7] at HA; replace HC := HC.tch HT (by omega); have HB7 := HT.below HB6 (Nat.le_refl _); clear e7 HT HB6) | ((with_reducible refine dst_is 75 ?_); refine wl_load 75 25 _ w.heap.size 0 (mcl { m with told := x } o r) _ rfl rfl Try.underlying25 rfl (size_mc _ _ _ HW') HA.range ?_) | ((with_reducible refine store_is 6 ?_); refine wl_puts 25 _ _ (w.heap.size + 1) 0 (mcl { m with told := x } o r) rfl rfl (size_mc _ _ _ HW') (mcl_one hoo hrr) (by rw [mcl_length HW']; exact HC.there) ?_; intro W8 e8; replace HC := HC.all zmsg_wf HW' (o' := o) (r' := r); rw [← e8] at HC; have HT : Tch (w.heap.size + 1) W7 W8 := (by rw [e8]; exact tch_setCells _ _ _ _); have HB8 := HT.below HB7 (by omega); clear e8 HT HB7))
    (try simp only [Exit.inBlock, Exit.then])
    refine bodyPost_ret (results_msg_tmp rfl _ rfl HC HW') rfl ⟨?_, HB8⟩
    have e9 : withS m 21 l = ({ m with told := x }, decide (0 ≤ x)) := by unfold withS; simp [HX2.out]
    rw [e9]; rfl
  · have hoo : (o : Value).oneCell' = true := ho
    have hrr : ((.slice Av nv cv) : Value).oneCell' = true := rfl
    have HW' : ({ m with reason := l } : Msg).Wf := by have := HW.out;  exact this
    go_wp2_with (first | ((with_reducible refine store_is 20 ?_); refine wl_put 22 _ _ w.heap.size 136 (.slice Av nv cv) rfl rfl (by kernel_rfl) rfl rfl (HA.ok 136 (by decide)).1 (HA.ok 136 (by decide)).2 ?_; intro W7 e7; have HT : Tch w.heap.size W6 W7 := (by rw [e7]; exact tch_setCell _ _ _ _); replace HA := HA.s12 hm (.slice Av nv cv) l; rw [← e7] at HA; replace HC := HC.tch HT (by omega); have HB7 := HT.below HB6 (Nat.le_refl _); clear e7 HT HB6) | ((with_reducible refine dst_is 21 ?_); refine wl_load 21 25 _ w.heap.size 0 (mcl { m with reason := l } o (.slice Av nv cv)) _ rfl rfl Try.underlying25 rfl (size_mc _ _ _ HW') HA.range ?_) | ((with_reducible refine store_is 6 ?_); refine wl_puts 25 _ _ (w.heap.size + 1) 0 (mcl { m with reason := l } o (.slice Av nv cv)) rfl rfl (size_mc _ _ _ HW') (mcl_one hoo hrr) (by rw [mcl_length HW']; exact HC.there) ?_; intro W8 e8; replace HC := HC.all zmsg_wf HW' (o' := o) (r' := (.slice Av nv cv)); rw [← e8] at HC; have HT : Tch (w.heap.size + 1) W7 W8 := (by rw [e8]; exact tch_setCells _ _ _ _); have HB8 := HT.below HB7 (by omega); clear e8 HT HB7))
    (try simp only [Exit.inBlock, Exit.then])
    refine bodyPost_ret (results_msg_tmp rfl _ rfl HC HW') rfl ⟨?_, HB8⟩
    rfl
end Go.Proofs.Ytdohenfbehpplaa
/- Cuts of slices of bytes that are read. -/
namespace Go.Proofs.Ytdohenfbehpplaa
set_option linter.unusedVariables false
set_option linter.unusedSimpArgs false
open Go.RowKit

/-- b[lo:hi], lo ≤ hi ≤ cap. -/
theorem run_slice_gen {P : Program} (t e : TypeId) (ht : P.underlying t = some (.slice e)) (hsz : (P.info? e).map (·.size) = some 1) (A : Option Addr) (n c lo hi : Nat) (h1 : lo ≤ hi) (h2 : hi ≤ c) (k1 k2 : IntKind) (W : World) :
    (Instr.slice t (.slice A n c) (some (.int k1 lo)) (some (.int k2 hi)) none).run P W = .ok (.slice (if c = lo then A else A.map (·.add lo)) (hi - lo) (c - lo)) W := by
  obtain ⟨i, hi', hz⟩ := Option.map_eq_some_iff.1 hsz
  simp [Instr.slice, run_underlying ht, Instr.sliceBounds, Instr.sliceBound, asIntOf, sizeOf, typeInfo, hi', hz, h1, h2]
theorem run_slice_from {P : Program} (t e : TypeId) (ht : P.underlying t = some (.slice e)) (hsz : (P.info? e).map (·.size) = some 1) (A : Option Addr) (n c lo : Nat) (h1 : lo ≤ n) (k1 : IntKind) (W : World) :
    (Instr.slice t (.slice A n c) (some (.int k1 lo)) none none).run P W = .ok (.slice (if c = lo then A else A.map (·.add lo)) (n - lo) (c - lo)) W := by
  obtain ⟨i, hi', hz⟩ := Option.map_eq_some_iff.1 hsz
  simp [Instr.slice, run_underlying ht, Instr.sliceBounds, Instr.sliceBound, asIntOf, sizeOf, typeInfo, hi', hz]
  intro hh; omega
theorem run_slice_to {P : Program} (t e : TypeId) (ht : P.underlying t = some (.slice e)) (hsz : (P.info? e).map (·.size) = some 1) (A : Option Addr) (n c hi : Nat) (h2 : hi ≤ c) (k2 : IntKind) (W : World) :
    (Instr.slice t (.slice A n c) none (some (.int k2 hi)) none).run P W = .ok (.slice (if c = 0 then A else A.map (·.add 0)) hi c) W := by
  obtain ⟨i, hi', hz⟩ := Option.map_eq_some_iff.1 hsz
  simp [Instr.slice, run_underlying ht, Instr.sliceBounds, Instr.sliceBound, asIntOf, sizeOf, typeInfo, hi', hz, h2]
theorem rd_cut {w : World} {A : Option Addr} {n c : Nat} {vs : List Value} (h : Rd w (.slice A n c) 1 vs) (lo hi : Nat) (h1 : lo ≤ hi) (h2 : hi ≤ n) :
    Rd w (.slice (if c = lo then A else A.map (·.add lo)) (hi - lo) (c - lo)) 1 ((vs.drop lo).take (hi - lo)) := by
  obtain ⟨A', n', c', e, hl, hc1, hc2, h4, h3⟩ := h
  simp only [Value.slice.injEq] at e
  obtain ⟨rfl, rfl, rfl⟩ := e
  refine ⟨_, _, _, rfl, by simp at *; omega, by omega, by omega, ?_, fun hn => ?_⟩
  · intro he
    split at he
    · omega
    · rename_i hne
      have : A = none := by cases A <;> simp_all
      have := h4 this
      omega
  · obtain ⟨b, off, rfl, hc⟩ := h3 (by omega)
    refine ⟨b, off + lo, ?_, fun j u hu => ?_⟩
    · rw [if_neg (by omega)]; simp [add_off]
    · rw [List.getElem?_take] at hu
      split at hu
      · rw [List.getElem?_drop] at hu
        rw [Nat.add_assoc]; exact hc _ _ hu
      · cases hu
/-- b[lo:], b[lo:hi] as bytes: a run for every world, and what is read. -/
theorem bytes_from {P : Program} (t e : TypeId) (ht : P.underlying t = some (.slice e)) (hsz : (P.info? e).map (·.size) = some 1) {w : World} {A : Option Addr} {n c : Nat} {l : List UInt8} (h : Bytes w (.slice A n c) l) (lo : Nat) (h1 : lo ≤ l.length) :
    ∃ A' c', (∀ (k1 : IntKind) W, (Instr.slice t (.slice A n c) (some (.int k1 lo)) none none).run P W = .ok (.slice A' (l.length - lo) c') W) ∧ Bytes w (.slice A' (l.length - lo) c') (l.drop lo) := by
  have hn : n = l.length := by
    obtain ⟨A', n', c', e, hl, _⟩ := h
    simp only [Value.slice.injEq] at e
    have : l.length = n' := by simpa [bvs] using hl
    omega
  subst hn
  refine ⟨_, _, run_slice_from t e ht hsz A _ c lo h1, ?_⟩
  have := rd_cut h lo l.length h1 (Nat.le_refl _)
  have e : ((bvs l).drop lo).take (l.length - lo) = bvs (l.drop lo) := by
    rw [List.take_of_length_le (by simp [bvs])]; simp [bvs, List.map_drop]
  rwa [e] at this
theorem bytes_mid {P : Program} (t e : TypeId) (ht : P.underlying t = some (.slice e)) (hsz : (P.info? e).map (·.size) = some 1) {w : World} {A : Option Addr} {n c : Nat} {l : List UInt8} (h : Bytes w (.slice A n c) l) (lo hi : Nat) (h1 : lo ≤ hi) (h2 : hi ≤ l.length) :
    ∃ A' c', (∀ (k1 k2 : IntKind) W, (Instr.slice t (.slice A n c) (some (.int k1 lo)) (some (.int k2 hi)) none).run P W = .ok (.slice A' (hi - lo) c') W) ∧ Bytes w (.slice A' (hi - lo) c') ((l.drop lo).take (hi - lo)) := by
  have hn : n = l.length ∧ n ≤ c := by
    obtain ⟨A', n', c', e, hl, hc, _⟩ := h
    simp only [Value.slice.injEq] at e
    have : l.length = n' := by simpa [bvs] using hl
    omega
  obtain ⟨rfl, hc⟩ := hn
  refine ⟨_, _, run_slice_gen t e ht hsz A _ c lo hi h1 (by omega), ?_⟩
  have := rd_cut h lo hi h1 h2
  have e : ((bvs l).drop lo).take (hi - lo) = bvs ((l.drop lo).take (hi - lo)) := by simp [bvs, List.map_drop, List.map_take]
  rwa [e] at this
theorem bytes_to {P : Program} (t e : TypeId) (ht : P.underlying t = some (.slice e)) (hsz : (P.info? e).map (·.size) = some 1) {w : World} {A : Option Addr} {n c : Nat} {l : List UInt8} (h : Bytes w (.slice A n c) l) (hi : Nat) (h2 : hi ≤ l.length) :
    ∃ A' c', (∀ (k2 : IntKind) W, (Instr.slice t (.slice A n c) none (some (.int k2 hi)) none).run P W = .ok (.slice A' hi c') W) ∧ Bytes w (.slice A' hi c') (l.take hi) := by
  have hn : n = l.length ∧ n ≤ c := by
    obtain ⟨A', n', c', e, hl, hc, _⟩ := h
    simp only [Value.slice.injEq] at e
    have : l.length = n' := by simpa [bvs] using hl
    omega
  obtain ⟨rfl, hc⟩ := hn
  refine ⟨_, _, run_slice_to t e ht hsz A _ c hi (by omega), ?_⟩
  have := rd_cut h 0 hi (Nat.zero_le _) h2
  have e : ((bvs l).drop 0).take (hi - 0) = bvs (l.take hi) := by simp [bvs, List.map_take]
  rw [e] at this
  exact this
end Go.Proofs.Ytdohenfbehpplaa
/- Rows of one's own: small words. -/
namespace Go.Proofs.Ytdohenfbehpplaa
set_option linter.unusedVariables false
set_option linter.unusedSimpArgs false
open Go.RowKit
theorem own_form {w : World} {base n : Nat} {e : TypeId} {size : Nat} {v : Value} {xs : List Value} (h : w.ownsRow base e size v n xs) : ∃ A c, v = .slice A n c ∧ n ≤ c ∧ c ≤ 9223372036854775807 := by
  rcases h.2 with ⟨rfl, rfl⟩ | ⟨g, cap, cur, rfl, _, _, h1, h2, _⟩
  · exact ⟨none, 0, rfl, Nat.le_refl _, by omega⟩
  · exact ⟨_, cap, rfl, h1, by simpa [maxLen] using h2⟩
section
variable {P : Program} {ops : Array Oper} {rest : List Oper} {a : Act} {Q : Exit → Act → World → Prop} {W : World} {ty : TypeId} {pos : String} {after : Array Edge}
/-- append(v, x...) of bytes, at slot d: the new slice written out, its length k. -/
theorem wl_app_len (d : Tmp) (s x : Operand) (t e : TypeId) (ht : P.underlying t = some (.slice e)) (hinfo : (P.info? e).map (fun i => (i.zero, i.size, i.bytes)) = some (some (.int .u8 0), 1, 1))
    (base : Nat) (v : Value) (xs : List UInt8) (hs : a.eval s = v) (hown : W.ownsRow base e 1 v xs.length (bvs xs)) (xv : Value) (ys : List UInt8) (hx : a.eval x = xv) (hr : Bytes W xv ys)
    (k : Nat) (hk : (xs ++ ys).length = k) (hbytes : k ≤ 140737488355328) (hbase : base ≤ W.heap.size)
    (h : ∀ A' c' w', w'.ownsRow base e 1 (.slice A' k c') k (bvs (xs ++ ys)) → W.grownBy w' v.ownBlock → k ≤ c' → c' ≤ 9223372036854775807 → wpList P ops Q rest (a.put (some d) (.slice A' k c')) w') :
    wpList P ops Q ({ dst := some d, op := .call { callee := .builtin .append, args := #[s, x], argTypes := #[t, t] }, type := ty, pos := pos, after := after, guard := none } :: rest) a W := by
  subst hk
  refine wl_app d s x t e ht hinfo base v xs hs hown xv ys hx hr (by simpa using hbytes) hbase ?_
  intro v' w' ho hg _
  obtain ⟨A', c', rfl, h1, h2⟩ := own_form ho
  exact h A' c' w' ho hg h1 h2
end
end Go.Proofs.Ytdohenfbehpplaa
/- bigsize.Decode (no even type known), in plain Lean. -/
namespace Go.Proofs.Ytdohenfbehpplaa
set_option linter.unusedVariables false
set_option linter.unusedSimpArgs false

def lastT (out : List (Nat × List UInt8)) : Nat := (out.getD (out.length - 1) (0, [])).1
def decF : Nat → List (Nat × List UInt8) → List UInt8 → List (Nat × List UInt8) × Nat
  | 0, _, _ => ([], 10)
  | f + 1, out, b => if b = [] then (out, 0) else if 64 ≤ out.length then ([], 3) else
      match rdN b with
      | none => ([], 10)
      | some (t, n) => if 0 < out.length ∧ t ≤ lastT out then ([], 11) else
          match rdN (b.drop n) with
          | none => ([], 10)
          | some (k, m) => if (b.drop (n + m)).length < k then ([], 10) else if t % 2 = 0 then ([], 12) else decF f (out ++ [(t, (b.drop (n + m)).take k)]) (b.drop (n + m + k))
def decS (b : List UInt8) : List (Nat × List UInt8) × Nat := if 65536 < b.length then ([], 3) else decF (b.length + 1) [] b
theorem rdN_some {b : List UInt8} {x n : Nat} (h : rdN b = some (x, n)) : 1 ≤ n ∧ n ≤ 9 ∧ n ≤ b.length ∧ x < 18446744073709551616 := by
  cases b with
  | nil => simp [rdN] at h
  | cons c r =>
    simp only [rdN] at h
    have hc : c.toNat < 256 := c.toNat_lt
    split at h
    · simp only [Option.some.injEq, Prod.mk.injEq] at h; simp; omega
    · split at h
      · cases h
      · split at h
        · cases h
        · simp only [Option.some.injEq, Prod.mk.injEq] at h
          have hm : more c = 2 ∨ more c = 4 ∨ more c = 8 := by unfold more; split <;> (try split) <;> omega
          have := be_take_lt8 r (more c) (by omega)
          simp; omega
end Go.Proofs.Ytdohenfbehpplaa
/- bigsize.Decode: a contract (no even type known). -/
namespace Go.Proofs.Ytdohenfbehpplaa
set_option linter.unusedVariables false
set_option linter.unusedSimpArgs false
open Go.RowKit
attribute [local irreducible] Go.wpList

theorem size_u8 : (Try.prog.info? 5).map (·.size) = some 1 := by kernel_rfl
theorem info_rec : (Try.prog.info? 37).map (fun i => (i.zero, i.size, i.bytes)) = some (some (.agg #[.int .u64 0, .slice none 0 0]), 2, 32) := by kernel_rfl

/-- slices.Index, slices.Contains upon nothing. -/
theorem index_nil (x : Int) (w : World) : Calls Try.prog 52 #[.slice none 0 0, .int .u64 x] w fun e w' => e = .returned (.int .i64 (-1)) ∧ w = w' := by
  go_enter Try.func52, Try.ntmps52
  go_wp2_with fail
  refine wp_loop_rounds 1 ?_
  rw [rounds_succ]
  go_wp2_with fail
  go_ret
  exact ⟨rfl, rfl⟩
theorem contains_nil (x : Int) (w : World) : Calls Try.prog 40 #[.slice none 0 0, .int .u64 x] w fun e w' => e = .returned (.bool false) ∧ w = w' := by
  go_enter Try.func40, Try.ntmps40
  go_wp2_with fail
  refine (index_nil _ _).mono ?_
  rintro e w' ⟨rfl, rfl⟩
  go_wp2_with fail
  go_ret
  exact ⟨rfl, rfl⟩

/-- The records gathered so far, each value a row of one's own. -/
def Gathered (w : World) (base : Nat) (v : Value) (out : List Rec) : Prop :=
  ∃ ps : List (Nat × Value), w.ownsRow base 37 2 v out.length (recCells ps) ∧ ps.length = out.length ∧ ∀ i (h : i < ps.length) (h' : i < out.length), ps[i].1 = out[i].1 ∧ w.ownsRow base 5 1 ps[i].2 out[i].2.length (bvs out[i].2)
theorem Gathered.recs {w : World} {base : Nat} {v : Value} {out : List Rec} (h : Gathered w base v out) : Recs w v out := by
  obtain ⟨ps, h1, h2, h3⟩ := h
  exact ⟨ps, own_rd h1, h2, fun i a b => ⟨(h3 i a b).1, own_bytes (h3 i a b).2⟩⟩
theorem Gathered.below {w w' : World} {base : Nat} {v : Value} {out : List Rec} (h : Gathered w base v out) (hb : Below w.heap.size w w') : Gathered w' base v out := by
  obtain ⟨ps, h1, h2, h3⟩ := h
  exact ⟨ps, own_below h1 hb, h2, fun i a b => ⟨(h3 i a b).1, own_below (h3 i a b).2 hb⟩⟩
theorem Gathered.last {w : World} {base n c : Nat} {A : Option Addr} {out : List Rec} (h : Gathered w base (.slice A n c) out) (h0 : 0 < out.length) :
    ∃ g, A = some ⟨g, 0, none⟩ ∧ w.cell? ⟨g, (out.length - 1) * 2, none⟩ = some (.int .u64 (lastT out : Nat)) := by
  obtain ⟨ps, h1, h2, h3⟩ := h
  rcases h1.2 with ⟨_, h⟩ | ⟨g, cap, cur, e, _⟩
  · omega
  · simp only [Value.slice.injEq] at e
    obtain ⟨rfl, rfl, rfl⟩ := e
    refine ⟨g, rfl, ?_⟩
    have hl : out.length - 1 < ps.length := by omega
    have hc := h1.cells (g := g) rfl _ _ (recCells_at ps (out.length - 1) hl).1
    rw [add_plain, Nat.mul_comm] at hc
    rw [hc, (h3 _ hl (by omega)).1]
    simp [lastT, List.getD_eq_getElem?_getD, List.getElem?_eq_getElem, show out.length - 1 < out.length by omega]
theorem own_type_ne {w : World} {b b' : Nat} {e e' : TypeId} {s s' n n' : Nat} {v v' : Value} {xs xs' : List Value} (h : w.ownsRow b e s v n xs) (h' : w.ownsRow b' e' s' v' n' xs') (hne : e ≠ e') : v.ownBlock = none ∨ v.ownBlock ≠ v'.ownBlock := by
  rcases h.2 with ⟨rfl, _⟩ | ⟨g, cap, cur, rfl, _, hh, _⟩
  · exact .inl rfl
  · refine .inr fun hk => ?_
    rcases h'.2 with ⟨rfl, _⟩ | ⟨g', cap', cur', rfl, _, hh', _⟩
    · simp [Value.ownBlock] at hk
    · have : g = g' := by simpa [Value.ownBlock] using hk
      subst this
      rw [hh] at hh'
      injection hh' with hh'
      injection hh' with _ ht
      exact hne ht
theorem clone_len (l : List UInt8) (k : Nat) (v : Value) (w : World) (h : Bytes w v l) (hk : l.length = k) (hl : k ≤ 140737488355328) :
    Calls Try.prog 36 #[v] w fun e w' => ∃ A c, e = .returned (.slice A k c) ∧ w'.ownsRow w.heap.size 5 1 (.slice A k c) k (bvs l) ∧ Below w.heap.size w w' := by
  subst hk
  refine (clone_ok l v w h hl).mono ?_
  rintro e w' ⟨v', rfl, ho, hb⟩
  obtain ⟨A, c, rfl, _, _⟩ := own_form ho
  exact ⟨A, c, rfl, ho, hb⟩
theorem rd_pair (W : World) (a b : Value) (e : TypeId) : Rd (W.alloc (.cells #[a, b] e)) (.slice (some ⟨W.heap.size, 0, none⟩) 1 1) 2 [a, b] := by
  refine ⟨_, 1, 1, rfl, rfl, Nat.le_refl _, by omega, (fun h => by cases h), fun _ => ⟨W.heap.size, 0, rfl, fun j u hu => ?_⟩⟩
  have hh := heap_alloc_new W (.cells #[a, b] e)
  match j, hu with
  | 0, hu => simp only [World.cell?, hh]; simpa using hu
  | 1, hu => simp only [World.cell?, hh]; simpa using hu
/-- One more record. -/
theorem run_gather {W : World} {base n c : Nat} {A : Option Addr} (ty : TypeId) (out : List Rec) (t : Nat) (sv : Value) (val : List UInt8) (hG : Gathered W base (.slice A n c) out) (hsv : W.ownsRow base 5 1 sv val.length (bvs val)) (h1 : sv.oneCell' = true)
    (x : Value) (hx : Rd W x 2 [.int .u64 t, sv]) (hlen : out.length ≤ 1000000) (hbase : base ≤ W.heap.size) :
    ∃ v' w', (Builtin.append_ #[38, 38] ty #[.slice A n c, x]).run Try.prog W = .ok v' w' ∧ Gathered w' base v' (out ++ [(t, val)]) ∧ W.grownBy w' (Value.slice A n c).ownBlock := by
  obtain ⟨ps, h2, h3, h4⟩ := hG
  obtain ⟨v', w', hr, ho, hg, _⟩ := run_append_any (P := Try.prog) (w := W) base 38 ty 37 Try.underlying38 info_rec rfl (by omega) _ out.length (recCells ps) h2 x 1 [.int .u64 t, sv] hx rfl (by simp [Value.oneCell'] at *; exact h1) (by omega) (by omega) hbase
  refine ⟨v', w', hr, ⟨ps ++ [(t, sv)], ?_, by simp [h3], fun i hi hi' => ?_⟩, hg⟩
  · have e : recCells (ps ++ [(t, sv)]) = recCells ps ++ [.int .u64 t, sv] := by simp [recCells]
    rw [e, List.length_append]; exact ho
  · by_cases hlt : i < ps.length
    · have hlt' : i < out.length := by omega
      obtain ⟨e1, e2⟩ := h4 i hlt hlt'
      rw [List.getElem_append_left hlt, List.getElem_append_left hlt']
      exact ⟨e1, e2.kept hg (own_type_ne e2 h2 (by decide))⟩
    · have e1 : i = ps.length := by simp at hi; omega
      have e2 : i = out.length := by omega
      have g1 : (ps ++ [(t, sv)])[i] = (t, sv) := by simp [e1]
      have g2 : (out ++ [(t, val)])[i] = (t, val) := by simp [e2]
      rw [g1, g2]
      exact ⟨rfl, hsv.kept hg (own_type_ne hsv h2 (by decide))⟩
theorem step_run {P : Program} {W : World} {ops : Array Oper} {o : Oper} {a : Act} {K : Act → World → Prop} {Q : Exit → Act → World → Prop} {E : Prop} (hgd : o.guard = none) (s x : Operand) (t : TypeId)
    (ho : o.op = .call { callee := .builtin .append, args := #[s, x], argTypes := #[t, t] }) (vs vx : Value) (hs : a.eval s = vs) (hx : a.eval x = vx) (v' : Value) (w' : World) (hr : (Builtin.append_ #[t, t] o.type #[vs, vx]).run P W = .ok v' w') (h : K (a.put o.dst v') w') :
    if Region.wanted o (yielded ops a.tmps) = true then Oper.wp P o a W K Q else E := by
  have hw : Region.wanted o (yielded ops a.tmps) = true := by simp [Region.wanted, hgd]
  rw [if_pos hw]
  exact Lib.wp_append_run W s x t t ho vs vx hs hx v' w' hr h
/-- 'out = append(out, Record{..})' as one step of a region that draws. -/
theorem step_gather {wa : World} {ops : Array Oper} {o : Oper} {a : Act} {K : Act → World → Prop} {Q : Exit → Act → World → Prop} {E : Prop} (hgd : o.guard = none) (s x : Operand)
    (ho : o.op = .call { callee := .builtin .append, args := #[s, x], argTypes := #[38, 38] }) (base base' : Nat) (out : List Rec) (t : Nat) (As : Option Addr) (cS : Nat) (val : List UInt8) (A : Option Addr) (n c k : Nat)
    (hs : a.eval s = .slice A n c) (hx : a.eval x = .slice (some ⟨wa.heap.size, 0, none⟩) 1 1) (hG : Gathered wa base (.slice A n c) out) (hk : val.length = k) (hsv : wa.ownsRow base' 5 1 (.slice As k cS) k (bvs val)) (hbb : base ≤ base') (hbase : base ≤ wa.heap.size) (hol : out.length ≤ 1000000)
    (h : ∀ v4 w4, Gathered w4 base v4 (out ++ [(t, val)]) → (wa.alloc (.cells #[.int .u64 t, .slice As k cS] 37)).grownBy w4 (Value.slice A n c).ownBlock → K (a.put o.dst v4) w4) :
    if Region.wanted o (yielded ops a.tmps) = true then Oper.wp Try.prog o a (wa.alloc (.cells #[.int .u64 t, .slice As k cS] 37)) K Q else E := by
  subst hk
  have hb := (Below.refl wa.heap.size wa).alloc (Nat.le_refl _) (.cells #[.int .u64 t, .slice As val.length cS] 37)
  obtain ⟨v4, w4, hr4, hG4, hg4⟩ := run_gather o.type out t _ val (hG.below hb) (own_below (own_lower hsv hbb) hb) rfl _ (rd_pair wa _ _ _) hol (by simp; omega)
  exact step_run hgd s x _ ho _ _ hs hx v4 w4 hr4 (h v4 w4 hG4 hg4)
theorem wl_gather {wa : World} {ops : Array Oper} {rest : List Oper} {a : Act} {Q : Exit → Act → World → Prop} {ty : TypeId} {pos : String} {after : Array Edge} (d : Tmp) (s x : Operand)
    (base base' : Nat) (out : List Rec) (t : Nat) (As : Option Addr) (cS : Nat) (val : List UInt8) (A : Option Addr) (n c k : Nat)
    (hs : a.eval s = .slice A n c) (hx : a.eval x = .slice (some ⟨wa.heap.size, 0, none⟩) 1 1) (hG : Gathered wa base (.slice A n c) out) (hk : val.length = k) (hsv : wa.ownsRow base' 5 1 (.slice As k cS) k (bvs val)) (hbb : base ≤ base') (hbase : base ≤ wa.heap.size) (hol : out.length ≤ 1000000)
    (h : ∀ v4 w4, Gathered w4 base v4 (out ++ [(t, val)]) → (wa.alloc (.cells #[.int .u64 t, .slice As k cS] 37)).grownBy w4 (Value.slice A n c).ownBlock → wpList Try.prog ops Q rest (a.put (some d) v4) w4) :
    wpList Try.prog ops Q ({ dst := some d, op := .call { callee := .builtin .append, args := #[s, x], argTypes := #[38, 38] }, type := ty, pos := pos, after := after, guard := none } :: rest) a (wa.alloc (.cells #[.int .u64 t, .slice As k cS] 37)) := by
  subst hk
  have hb := (Below.refl wa.heap.size wa).alloc (Nat.le_refl _) (.cells #[.int .u64 t, .slice As val.length cS] 37)
  obtain ⟨v4, w4, hr4, hG4, hg4⟩ := run_gather ty out t _ val (hG.below hb) (own_below (own_lower hsv hbb) hb) rfl _ (rd_pair wa _ _ _) hol (by simp; omega)
  exact wl_run d s x _ _ _ _ hs hx v4 w4 hr4 (h v4 w4 hG4 hg4)

set_option maxRecDepth 20000 in
set_option maxHeartbeats 3200000 in
theorem decode_ok (l : List UInt8) (v : Value) (w : World) (h : Bytes w v l) :
    Calls Try.prog 21 #[v, .slice none 0 0] w fun e w' => ∃ v', e = .returned (.tuple #[v', .int .i64 (decS l).2]) ∧ Gathered w' w.heap.size v' (decS l).1 ∧ Below w.heap.size w w' := by
  have HH := Lib.hid h
  obtain ⟨R, hR⟩ : ∃ R, R = decS l := ⟨_, rfl⟩
  rw [← hR]
  have HR := Lib.hid hR
  obtain ⟨A, n, c, rfl, hln, h1, h2, _⟩ := h
  have hn : n = l.length := by simpa [bvs] using hln.symm
  subst hn
  clear hR hln
  by_cases hl : l.length ≤ 65536
  · go_enter Try.func21, Try.ntmps21
    go_wp2_with fail
    go_step3
    go_wp2_with fail
    go_step3
    go_wp2_with fail
    have HR2 : Hid (R = decF (l.length + 1) [] l) := by show _ = _; rw [HR.out]; unfold decS; rw [if_neg (by omega)]
    go_loopw [6, 7, 8] (fun v6 v7 v8 wr => ∃ (at_ f : Nat) (out : List Rec), v7 = .int .i64 0 ∧ v8 = .int .i64 at_ ∧ at_ ≤ l.length ∧ l.length < f + at_ ∧ Hid (R = decF f out (l.drop at_)) ∧ Hid (Gathered wr w.heap.size v6 out) ∧ Hid (Below w.heap.size w wr)) (fun _ _ v8 _ => l.length - (intOf v8).toNat)
    case atStart => exact ⟨0, l.length + 1, [], rfl, rfl, by omega, by omega, HR2.out, ⟨[], World.ownsRow_nil _ _ _ _, rfl, fun i h => by simp at h⟩, Below.refl _ _⟩
    case round =>
      obtain ⟨at_, f, out, rfl, rfl, hat, hf, HRf, HG, HB⟩ := hrel
      have hsr := HB.out.size
      obtain ⟨A6, c6, rfl, hc61, hc62⟩ := own_form HG.out.choose_spec.1
      cases f with
      | zero => omega
      | succ f =>
      by_cases hlt : at_ < l.length
      · have hne : l.drop at_ ≠ [] := by intro hh; have := congrArg List.length hh; simp at this; omega
        obtain ⟨AS, cs, hs1, hS1⟩ := bytes_from (P := Try.prog) 22 5 Try.underlying22 size_u8 HH.out at_ hat
        have hs1 := hs1 .i64
        have HS1 := Lib.hid hS1
        clear hS1
        by_cases h64 : 64 ≤ out.length
        · have HE : Hid (R = ([], 3)) := by show _ = _; rw [HRf.out]; simp only [decF]; rw [if_neg hne, if_pos h64]
          clear hs1
          -- <
          go_wp2_with fail
          rw [Exit.noGoto_ret]
          go_ret2
          exact ⟨_, by rw [HE.out]; rfl, by rw [HE.out]; exact ⟨[], World.ownsRow_nil _ _ _ _, rfl, fun i h => by simp at h⟩, HB.out⟩
          -- >
        · have HBw := HB.out.trans ((Below.refl w.heap.size wr).alloc hsr (.cells #[.int .u64 0, .int .u64 0] 68))
          cases hrd : rdN (l.drop at_) with
          | none =>
            have HE : Hid (R = ([], 10)) := by show _ = _; rw [HRf.out]; simp only [decF]; rw [if_neg hne, if_neg h64, hrd]
            have HRD := Lib.hid hrd
            clear hrd
            -- <
            go_wp2_with fail
            refine wp_loop_rounds 3 ?_
            rw [rounds_succ]
            go_wp2_with fail
            refine (read_none (l.drop at_) _ _ (HS1.out.below HBw) HRD.out).mono ?_
            rintro e w' ⟨rfl, rfl⟩
            clear hs1
            go_wp2_with fail
            rw [Exit.noGoto_ret]
            go_ret2
            exact ⟨_, by rw [HE.out]; rfl, by rw [HE.out]; exact ⟨[], World.ownsRow_nil _ _ _ _, rfl, fun i h => by simp at h⟩, HBw⟩
            -- >
          | some p =>
            obtain ⟨t, n⟩ := p
            obtain ⟨hn1, hn2, hn3, ht⟩ := rdN_some hrd
            rw [List.length_drop] at hn3
            have HRD := Lib.hid hrd
            clear hrd
            by_cases hord : 0 < out.length ∧ t ≤ lastT out
            · obtain ⟨ho1, ho2⟩ := hord
              have HE : Hid (R = ([], 11)) := by show _ = _; rw [HRf.out]; simp only [decF]; rw [if_neg hne, if_neg h64, HRD.out]; simp only []; rw [if_pos ⟨ho1, ho2⟩]
              obtain ⟨g, rfl, hlast⟩ := HG.out.last ho1
              obtain ⟨m, hm⟩ : ∃ m, m + 1 = out.length := ⟨out.length - 1, by omega⟩
              have hlast' := cell_alloc hlast (.cells #[.int .u64 0, .int .u64 0] 68)
              -- <
              go_wp2_with fail
              refine wp_loop_rounds 3 ?_
              rw [rounds_succ]
              go_wp2_with fail
              refine (read_some (l.drop at_) _ _ t n (HS1.out.below HBw) HRD.out).mono ?_
              rintro e w' ⟨rfl, rfl⟩
              clear hs1
              go_wp2_with fail
              rw [Exit.noGoto_ret]
              go_ret2
              exact ⟨_, by rw [HE.out]; rfl, by rw [HE.out]; exact ⟨[], World.ownsRow_nil _ _ _ _, rfl, fun i h => by simp at h⟩, HBw⟩
              -- >
            · obtain ⟨AT, ct, hs2, hS2⟩ := bytes_from (P := Try.prog) 22 5 Try.underlying22 size_u8 HH.out (at_ + n) (by omega)
              have hs2' : ∀ W, (Instr.slice 22 (.slice A l.length c) (some (.int .i64 ((at_ : Int) + (n : Int)))) none none).run Try.prog W = .ok (.slice AT (l.length - (at_ + n)) ct) W := fun W => by have := hs2 .i64 W; rwa [Int.natCast_add] at this
              have HS2 := Lib.hid hS2
              clear hs2 hS2
              have hlast : 0 < out.length → lastT out < t := fun h => by omega
              obtain ⟨o0, ho0⟩ : ∃ o0, o0 = out := ⟨_, rfl⟩
              have HG0 : Hid (Gathered wr w.heap.size (.slice A6 out.length c6) o0) := by rw [ho0]; exact HG.out
              have HL0 : Hid (o0.length = out.length) := by rw [ho0]; exact rfl
              have e0 : ∀ X : List Rec × Nat, (match rdN ((l.drop at_).drop n) with | none => ([], 10) | some (k, m) => if ((l.drop at_).drop (n + m)).length < k then ([], 10) else if t % 2 = 0 then ([], 12) else decF f (o0 ++ [(t, ((l.drop at_).drop (n + m)).take k)]) ((l.drop at_).drop (n + m + k))) = X → R = X := fun X hX => by
                rw [HRf.out, ← hX, ho0]; simp only [decF]; rw [if_neg hne, if_neg h64, HRD.out]; simp only []; rw [if_neg (by omega)]; try rfl
              have E0 := Lib.hid e0
              have HGB : Hid (∀ k', (Value.slice A6 out.length c6).ownBlock = some k' → w.heap.size ≤ k' ∧ k' < wr.heap.size) := fun k' hk' => HG.out.choose_spec.1.lt k' hk'
              clear e0 ho0
              have hlr : 0 < out.length → ∃ g, A6 = some ⟨g, 0, none⟩ ∧ wr.cell? ⟨g, (out.length - 1) * 2, none⟩ = some (.int .u64 (lastT out : Nat)) := fun h => HG.out.last h
              rcases Nat.eq_zero_or_pos out.length with h0 | h0
              obtain rfl := List.eq_nil_of_length_eq_zero h0
              clear h0
              simp only [List.length_nil] at h64 hc61 HG hlr HG0 HL0 HGB
              rotate_left
              obtain ⟨g, rfl, hlc⟩ := hlr h0
              have hlc' := cell_alloc hlc (.cells #[.int .u64 0, .int .u64 0] 68)
              have hlt2 := hlast h0
              all_goals
                clear hlast hlr hord
                cases hrd2 : rdN ((l.drop at_).drop n) with
                | none =>
                  have HE : Hid (R = ([], 10)) := E0.out _ (by rw [hrd2])
                  have HRD2 := Lib.hid hrd2
                  clear hrd2
                  -- <
                  go_wp2_with fail
                  refine wp_loop_rounds 3 ?_
                  rw [rounds_succ]
                  go_wp2_with fail
                  refine (read_some (l.drop at_) _ _ t n (HS1.out.below HBw) HRD.out).mono ?_
                  rintro e w' ⟨rfl, rfl⟩
                  go_wp2_with fail
                  rw [rounds_succ]
                  go_wp2_with fail
                  refine (read_none ((l.drop at_).drop n) _ _ (by rw [List.drop_drop]; exact HS2.out.below (HB.out.trans ((Below.refl _ _).alloc hsr _))) HRD2.out).mono ?_
                  rintro e w' ⟨rfl, rfl⟩
                  go_wp2_with fail
                  rw [Exit.noGoto_ret]
                  go_ret2
                  exact ⟨_, by rw [HE.out]; rfl, by rw [HE.out]; exact ⟨[], World.ownsRow_nil _ _ _ _, rfl, fun i h => by simp at h⟩, HB.out.trans ((Below.refl _ _).alloc hsr _)⟩
                  -- >
                | some p2 =>
                  obtain ⟨k, m⟩ := p2
                  obtain ⟨hm1, hm2, hm3, hk⟩ := rdN_some hrd2
                  rw [List.length_drop, List.length_drop] at hm3
                  have hm4 : at_ + n + m ≤ l.length := by omega
                  have E1 := fun X hX => E0.out X (by rw [hrd2]; exact hX)
                  have E2 := Lib.hid E1
                  have HRD2 := Lib.hid hrd2
                  clear hrd2 E1 hm3
                  have wu : IntKind.u64.wrap ((l.length : Int) - ((at_ : Int) + n + m)) = (l.length : Int) - ((at_ : Int) + n + m) := by
                    rw [show (l.length : Int) - ((at_ : Int) + n + m) = ((l.length - (at_ + n + m) : Nat) : Int) by omega]; exact wrap_u64_nat _ (by omega)
                  have hdl : ((l.drop at_).drop (n + m)).length = l.length - (at_ + n + m) := by simp; omega
                  have HDL := Lib.hid hdl
                  clear hdl
                  by_cases hbig : l.length - (at_ + n + m) < k
                  · have HE : Hid (R = ([], 10)) := E2.out _ (by simp only []; rw [if_pos (by rw [HDL.out]; exact hbig)])
                    have hbig' : (l.length : Int) - ((at_ : Int) + n + m) < k := by omega
                    clear hbig
                    -- <
                    go_wp2_with fail
                    refine wp_loop_rounds 3 ?_
                    rw [rounds_succ]
                    go_wp2_with fail
                    refine (read_some (l.drop at_) _ _ t n (HS1.out.below HBw) HRD.out).mono ?_
                    rintro e w' ⟨rfl, rfl⟩
                    go_wp2_with fail
                    rw [rounds_succ]
                    go_wp2_with fail
                    refine (read_some ((l.drop at_).drop n) _ _ k m (by rw [List.drop_drop]; exact HS2.out.below (HB.out.trans ((Below.refl _ _).alloc hsr _))) HRD2.out).mono ?_
                    rintro e w' ⟨rfl, rfl⟩
                    go_wp2_with fail
                    rw [rounds_succ]
                    go_wp2_with fail
                    rw [Exit.noGoto_ret]
                    go_ret2
                    exact ⟨_, by rw [HE.out]; rfl, by rw [HE.out]; exact ⟨[], World.ownsRow_nil _ _ _ _, rfl, fun i h => by simp at h⟩, HB.out.trans ((Below.refl _ _).alloc hsr _)⟩
                    -- >
                  · have hsm : (k : Int) ≤ (l.length : Int) - ((at_ : Int) + n + m) := by omega
                    by_cases hev : t % 2 = 0
                    · have HE : Hid (R = ([], 12)) := E2.out _ (by simp only []; rw [if_neg (by rw [HDL.out]; exact hbig), if_pos hev])
                      have hev' : ((t : Int) % 2 == 0) = true := by rw [beq_iff_eq]; omega
                      clear hbig hev
                      -- <
                      go_wp2_with fail
                      refine wp_loop_rounds 3 ?_
                      rw [rounds_succ]
                      go_wp2_with fail
                      refine (read_some (l.drop at_) _ _ t n (HS1.out.below HBw) HRD.out).mono ?_
                      rintro e w' ⟨rfl, rfl⟩
                      go_wp2_with fail
                      rw [rounds_succ]
                      go_wp2_with fail
                      refine (read_some ((l.drop at_).drop n) _ _ k m (by rw [List.drop_drop]; exact HS2.out.below (HB.out.trans ((Below.refl _ _).alloc hsr _))) HRD2.out).mono ?_
                      rintro e w' ⟨rfl, rfl⟩
                      go_wp2_with fail
                      rw [rounds_succ]
                      go_wp2_with fail
                      refine (contains_nil _ _).mono ?_
                      rintro e w' ⟨rfl, rfl⟩
                      go_wp2_with fail
                      rw [Exit.noGoto_ret]
                      go_ret2
                      exact ⟨_, by rw [HE.out]; rfl, by rw [HE.out]; exact ⟨[], World.ownsRow_nil _ _ _ _, rfl, fun i h => by simp at h⟩, HB.out.trans ((Below.refl _ _).alloc hsr _)⟩
                      -- >
                    · have hev' : ((t : Int) % 2 == 0) = false := by rw [beq_eq_false_iff_ne]; omega
                      have HE : Hid (R = decF f (o0 ++ [(t, ((l.drop at_).drop (n + m)).take k)]) ((l.drop at_).drop (n + m + k))) := E2.out _ (by simp only []; rw [if_neg (by rw [HDL.out]; exact hbig), if_neg hev])
                      clear hbig hev
                      go_wp2_with fail
                      refine wp_loop_rounds 3 ?_
                      rw [rounds_succ]
                      go_wp2_with fail
                      refine (read_some (l.drop at_) _ _ t n (HS1.out.below HBw) HRD.out).mono ?_
                      rintro e w' ⟨rfl, rfl⟩
                      go_wp2_with fail
                      rw [rounds_succ]
                      go_wp2_with fail
                      refine (read_some ((l.drop at_).drop n) _ _ k m (by rw [List.drop_drop]; exact HS2.out.below (HB.out.trans ((Below.refl _ _).alloc hsr _))) HRD2.out).mono ?_
                      rintro e w' ⟨rfl, rfl⟩
                      go_wp2_with fail
                      rw [rounds_succ]
                      go_wp2_with fail
                      obtain ⟨AV, cv, hs3, hS3⟩ := bytes_mid (P := Try.prog) 22 5 Try.underlying22 size_u8 HH.out (at_ + n + m) (at_ + n + m + k) (by omega) (by omega)
                      have hs3' : ∀ W, (Instr.slice 22 (.slice A l.length c) (some (.int .i64 ((at_ : Int) + (n : Int) + (m : Int)))) (some (.int .i64 ((at_ : Int) + (n : Int) + (m : Int) + (k : Int)))) none).run Try.prog W = .ok (.slice AV (at_ + n + m + k - (at_ + n + m)) cv) W := fun W => by
                        have := hs3 .i64 .i64 W; rwa [Int.natCast_add, Int.natCast_add, Int.natCast_add] at this
                      rw [show at_ + n + m + k - (at_ + n + m) = k by omega] at hs3' hS3
                      have HS3 := Lib.hid hS3
                      clear hs3 hS3
                      have hol : o0.length ≤ 1000000 := by have := HL0.out; omega
                      have hlen3 : (List.take k (List.drop (at_ + n + m) l)).length = k := by simp only [List.length_take, List.length_drop]; omega
                      have hlen4 : k ≤ 140737488355328 := by omega
                      have hs1' : w.heap.size ≤ wr.heap.size := hsr
                      have HL3 := Lib.hid hlen3
                      clear hlen3
                      have hsz2 : (wr.alloc (.cells #[.int .u64 (t : Nat), .int .u64 (k : Nat)] 68)).drew.heap.size = wr.heap.size + 1 := by simp
                      have HSZ := Lib.hid hsz2
                      clear hsz2
                      go_region_held3 (fun W => W.cell? ⟨wr.heap.size, 0, none⟩ = some (.int .u64 t))
                        (first | go_keep | (refine cell_below hba ?_; assumption) | (refine hg4.cell ?_ ?_; (first | assumption | (refine cell_alloc ?_ _; assumption)); (intro hh; exact absurd (HGB.out _ hh.symm).2 (Nat.lt_irrefl _))))
                        ((first | (go_at_call 36; refine (clone_len _ k _ _ (HS3.out.below ((HB.out.trans ((Below.refl _ _).alloc hsr _)).drew)) HL3.out hlen4).mono ?_; rintro e wa ⟨As, cS, rfl, hoa, hba⟩; rw [HSZ.out] at hoa; have hza := hba.size; rw [HSZ.out] at hza; have hGa := (HG0.out.below (((Below.refl _ _).alloc (Nat.le_refl _) _).drew)).below hba) | (refine step_gather rfl _ _ rfl w.heap.size (wr.heap.size + 1) o0 t As cS _ _ _ _ _ rfl rfl hGa HL3.out hoa (Nat.le_succ_of_le hs1') (Nat.le_trans (Nat.le_succ_of_le hs1') hza) hol ?_; intro v4 w4 hG4 hg4)))
                      have hz1 : wr.heap.size + 1 ≤ wa.heap.size := hza
                      have HB4 := Lib.hid (((below_of ((HB.out.trans ((Below.refl _ _).alloc hsr _)).drew) hba (by simp; omega)).alloc (by omega) _).grown hg4 (by simp; omega) (fun k' hk' => (HGB.out k' hk').1))
                      have HG4 := Lib.hid hG4
                      have HE3 : Hid (R = decF f (o0 ++ [(t, (l.drop (at_ + n + m)).take k)]) (l.drop (at_ + n + m + k))) := by
                        have := HE.out
                        rw [List.drop_drop, List.drop_drop] at this
                        show _ = _
                        rw [this, show at_ + (n + m) = at_ + n + m by omega, show at_ + (n + m + k) = at_ + n + m + k by omega]
                      clear hG4 hg4 hoa hba hs3' hs2' hs1 wu
                      go_wp2_with fail
                      go_roundw
                      case rel => exact ⟨at_ + n + m + k, f, _, rfl, by go_num, by omega, by omega, HE3.out, HG4.out, HB4.out⟩
                      case measure => simp [intOf]; omega
      · have HE : Hid (R = (out, 0)) := by
          show _ = _
          rw [HRf.out]; simp only [decF]; rw [if_pos (List.drop_eq_nil_of_le (by omega))]
        go_wp2_with fail
        rw [Exit.noGoto_ret]
        go_ret2
        exact ⟨_, by rw [HE.out]; rfl, by rw [HE.out]; exact HG.out, HB.out⟩
  · have HE : Hid (R = ([], 3)) := by show _ = _; rw [HR.out]; unfold decS; rw [if_pos (by omega)]
    go_enter Try.func21, Try.ntmps21
    -- <
    go_wp2_with fail
    go_step3
    go_wp2_with fail
    rw [Exit.noGoto_ret]
    go_ret2
    exact ⟨_, by rw [HE.out]; rfl, by rw [HE.out]; exact ⟨[], World.ownsRow_nil _ _ _ _, rfl, fun i h => by simp at h⟩, Below.refl _ _⟩
    -- >
end Go.Proofs.Ytdohenfbehpplaa
/- tollhouseref01.Number, Read: contracts. -/
namespace Go.Proofs.Ytdohenfbehpplaa
set_option linter.unusedVariables false
set_option linter.unusedSimpArgs false
open Go.RowKit

set_option maxRecDepth 20000 in
set_option maxHeartbeats 1600000 in
theorem number_ok (x : Nat) (w : World) (hx : x < 18446744073709551616) :
    Calls Try.prog 48 #[.int .u64 x] w fun e w' => ∃ v', e = .returned v' ∧ w'.ownsRow w.heap.size 5 1 v' (num x).length (bvs (num x)) ∧ Below w.heap.size w w' := by
  by_cases h1 : x < 253
  · have e : num x = [UInt8.ofNat x] := by unfold num; rw [if_pos h1]
    have HE := Lib.hid e
    have HV : Hid ((x : Int) = ((UInt8.ofNat x).toNat : Int)) := by show _ = _; rw [UInt8.toNat_ofNat']; omega
    clear e
    go_enter Try.func48, Try.ntmps48
    go_wp2_with fail
    go_ret
    refine ⟨_, rfl, ?_, (Below.refl _ _).alloc (Nat.le_refl _) _⟩
    rw [HE.out]
    have := own_lit w w.heap.size 5 [UInt8.ofNat x] 1 rfl (Nat.le_refl _) (by omega)
    have hb : bvs [UInt8.ofNat x] = [.int .u8 (x : Int)] := by simp only [bvs, List.map_cons, List.map_nil, bv, ← HV.out]
    rw [hb] at this ⊢
    simpa using this
  · have hcase : ∃ (f : UInt8) (n : Nat), num x = f :: numB n x ∧ (n = 2 ∧ f = 253 ∧ x ≤ 65535 ∨ n = 4 ∧ f = 254 ∧ 65535 < x ∧ x ≤ 4294967295 ∨ n = 8 ∧ f = 255 ∧ 4294967295 < x) := by
      unfold num
      rw [if_neg h1]
      by_cases h2 : x ≤ 65535
      · exact ⟨253, 2, by rw [if_pos h2], .inl ⟨rfl, rfl, h2⟩⟩
      · by_cases h3 : x ≤ 4294967295
        · exact ⟨254, 4, by rw [if_neg h2, if_pos h3], .inr (.inl ⟨rfl, rfl, by omega, h3⟩)⟩
        · exact ⟨255, 8, by rw [if_neg h2, if_neg h3], .inr (.inr ⟨rfl, rfl, by omega⟩)⟩
    obtain ⟨f, n, hnum, hn⟩ := hcase
    have HN := Lib.hid hnum
    clear hnum
    have h1' : 253 ≤ x := by omega
    rcases hn with ⟨rfl, rfl, h2⟩ | ⟨rfl, rfl, h2, h3⟩ | ⟨rfl, rfl, h2⟩
    · have d1 : decide ((x : Int) < 253) = false := by simp; omega
      have d2 : decide ((x : Int) ≤ 65535) = true := by simp; omega
      go_enter Try.func48, Try.ntmps48
      go_wp2_with fail
      go_loopw [4, 5] (fun v4 v5 wr => ∃ (k : Nat) (j : Int), k ≤ 2 ∧ -1 ≤ j ∧ j < 2 ∧ Hid (j = 2 - 1 - k) ∧ v5 = .int .i64 j ∧ Hid (wr.ownsRow w.heap.size 5 1 v4 (253 :: (numB 2 x).take k).length (bvs (253 :: (numB 2 x).take k))) ∧ Hid (Below w.heap.size w wr)) (fun _ v5 _ => (intOf v5 + 1).toNat)
      case atStart => exact ⟨0, 2 - 1, by omega, by omega, by omega, by show _ = _; omega, rfl, Lib.hid (by simpa [bvs, bv] using own_lit w w.heap.size 5 [253] 1 rfl (Nat.le_refl _) (by omega)), (Below.refl _ _).alloc (Nat.le_refl _) _⟩
      case round =>
        obtain ⟨k, j, hk, hj1, hj2, HJ, rfl, HO, HBr⟩ := hrel
        have hsr := HBr.out.size
        by_cases hlt : 0 ≤ j
        · have hkn : k < 2 := by have := HJ.out; omega
          have hlk : (253 :: (numB 2 x).take k).length + 1 ≤ 140737488355328 := by
            have : ((numB 2 x).take k).length ≤ 2 := by rw [List.length_take, numB_length]; omega
            simp only [List.length_cons]; omega
          have HV : Hid (((x : Int) / 2 ^ (8 * j).toNat % 256) = ((UInt8.ofNat (x / 2 ^ (8 * (2 - 1 - k)))).toNat : Int)) := by
            have e : (8 * j).toNat = 8 * (2 - 1 - k) := by have := HJ.out; omega
            show _ = _
            rw [e, UInt8.toNat_ofNat']
            have : ((2 : Int) ^ (8 * (2 - 1 - k))) = ((2 ^ (8 * (2 - 1 - k)) : Nat) : Int) := by simp
            rw [this]; omega
          have HT := Lib.hid (numB_take 2 x k hkn)
          go_wp2_with (at_builtin; refine wl_app 34 _ _ _ _ Try.underlying22 info_u8 w.heap.size u4 (253 :: (numB 2 x).take k) rfl (HO.out.alloc _) _ [UInt8.ofNat (x / 2 ^ (8 * (2 - 1 - k)))] rfl (bytes_one wr _ _ _ HV.out) ?hlen ?hbase ?_; (case hlen => simpa using hlk); (case hbase => simp; omega); intro v9 w9 ho9 hg9 hat9)
          have HB9 := Lib.hid (below_append (HBr.out.alloc hsr _) (HO.out.alloc _) hg9 (by simp; omega) (Nat.le_refl _))
          have HO9 := Lib.hid ho9
          clear ho9 hg9 hat9
          go_roundw
          case rel => exact ⟨k + 1, j - 1, by omega, by omega, by omega, by have := HJ.out; show _ = _; omega, rfl, by have := HO9.out; rw [HT.out]; exact Lib.hid (by simpa using this), HB9.out⟩
          case measure => simp [intOf]; omega
        · obtain rfl : j = -1 := by omega
          have hkn : k = 2 := by have := HJ.out; omega
          subst hkn
          go_wp2_with fail
          go_ret
          exact ⟨_, rfl, by have := HO.out; rw [List.take_of_length_le (by rw [numB_length]; exact Nat.le_refl _)] at this; rw [HN.out]; simpa using this, HBr.out⟩
    · have d1 : decide ((x : Int) < 253) = false := by simp; omega
      have d2 : decide ((x : Int) ≤ 65535) = false := by simp; omega
      have d3 : decide ((x : Int) ≤ 4294967295) = true := by simp; omega
      go_enter Try.func48, Try.ntmps48
      go_wp2_with fail
      go_loopw [4, 5] (fun v4 v5 wr => ∃ (k : Nat) (j : Int), k ≤ 4 ∧ -1 ≤ j ∧ j < 4 ∧ Hid (j = 4 - 1 - k) ∧ v5 = .int .i64 j ∧ Hid (wr.ownsRow w.heap.size 5 1 v4 (254 :: (numB 4 x).take k).length (bvs (254 :: (numB 4 x).take k))) ∧ Hid (Below w.heap.size w wr)) (fun _ v5 _ => (intOf v5 + 1).toNat)
      case atStart => exact ⟨0, 4 - 1, by omega, by omega, by omega, by show _ = _; omega, rfl, Lib.hid (by simpa [bvs, bv] using own_lit w w.heap.size 5 [254] 1 rfl (Nat.le_refl _) (by omega)), (Below.refl _ _).alloc (Nat.le_refl _) _⟩
      case round =>
        obtain ⟨k, j, hk, hj1, hj2, HJ, rfl, HO, HBr⟩ := hrel
        have hsr := HBr.out.size
        by_cases hlt : 0 ≤ j
        · have hkn : k < 4 := by have := HJ.out; omega
          have hlk : (254 :: (numB 4 x).take k).length + 1 ≤ 140737488355328 := by
            have : ((numB 4 x).take k).length ≤ 4 := by rw [List.length_take, numB_length]; omega
            simp only [List.length_cons]; omega
          have HV : Hid (((x : Int) / 2 ^ (8 * j).toNat % 256) = ((UInt8.ofNat (x / 2 ^ (8 * (4 - 1 - k)))).toNat : Int)) := by
            have e : (8 * j).toNat = 8 * (4 - 1 - k) := by have := HJ.out; omega
            show _ = _
            rw [e, UInt8.toNat_ofNat']
            have : ((2 : Int) ^ (8 * (4 - 1 - k))) = ((2 ^ (8 * (4 - 1 - k)) : Nat) : Int) := by simp
            rw [this]; omega
          have HT := Lib.hid (numB_take 4 x k hkn)
          go_wp2_with (at_builtin; refine wl_app 34 _ _ _ _ Try.underlying22 info_u8 w.heap.size u4 (254 :: (numB 4 x).take k) rfl (HO.out.alloc _) _ [UInt8.ofNat (x / 2 ^ (8 * (4 - 1 - k)))] rfl (bytes_one wr _ _ _ HV.out) ?hlen ?hbase ?_; (case hlen => simpa using hlk); (case hbase => simp; omega); intro v9 w9 ho9 hg9 hat9)
          have HB9 := Lib.hid (below_append (HBr.out.alloc hsr _) (HO.out.alloc _) hg9 (by simp; omega) (Nat.le_refl _))
          have HO9 := Lib.hid ho9
          clear ho9 hg9 hat9
          go_roundw
          case rel => exact ⟨k + 1, j - 1, by omega, by omega, by omega, by have := HJ.out; show _ = _; omega, rfl, by have := HO9.out; rw [HT.out]; exact Lib.hid (by simpa using this), HB9.out⟩
          case measure => simp [intOf]; omega
        · obtain rfl : j = -1 := by omega
          have hkn : k = 4 := by have := HJ.out; omega
          subst hkn
          go_wp2_with fail
          go_ret
          exact ⟨_, rfl, by have := HO.out; rw [List.take_of_length_le (by rw [numB_length]; exact Nat.le_refl _)] at this; rw [HN.out]; simpa using this, HBr.out⟩
    · have d1 : decide ((x : Int) < 253) = false := by simp; omega
      have d2 : decide ((x : Int) ≤ 65535) = false := by simp; omega
      have d3 : decide ((x : Int) ≤ 4294967295) = false := by simp; omega
      go_enter Try.func48, Try.ntmps48
      go_wp2_with fail
      go_loopw [4, 5] (fun v4 v5 wr => ∃ (k : Nat) (j : Int), k ≤ 8 ∧ -1 ≤ j ∧ j < 8 ∧ Hid (j = 8 - 1 - k) ∧ v5 = .int .i64 j ∧ Hid (wr.ownsRow w.heap.size 5 1 v4 (255 :: (numB 8 x).take k).length (bvs (255 :: (numB 8 x).take k))) ∧ Hid (Below w.heap.size w wr)) (fun _ v5 _ => (intOf v5 + 1).toNat)
      case atStart => exact ⟨0, 8 - 1, by omega, by omega, by omega, by show _ = _; omega, rfl, Lib.hid (by simpa [bvs, bv] using own_lit w w.heap.size 5 [255] 1 rfl (Nat.le_refl _) (by omega)), (Below.refl _ _).alloc (Nat.le_refl _) _⟩
      case round =>
        obtain ⟨k, j, hk, hj1, hj2, HJ, rfl, HO, HBr⟩ := hrel
        have hsr := HBr.out.size
        by_cases hlt : 0 ≤ j
        · have hkn : k < 8 := by have := HJ.out; omega
          have hlk : (255 :: (numB 8 x).take k).length + 1 ≤ 140737488355328 := by
            have : ((numB 8 x).take k).length ≤ 8 := by rw [List.length_take, numB_length]; omega
            simp only [List.length_cons]; omega
          have HV : Hid (((x : Int) / 2 ^ (8 * j).toNat % 256) = ((UInt8.ofNat (x / 2 ^ (8 * (8 - 1 - k)))).toNat : Int)) := by
            have e : (8 * j).toNat = 8 * (8 - 1 - k) := by have := HJ.out; omega
            show _ = _
            rw [e, UInt8.toNat_ofNat']
            have : ((2 : Int) ^ (8 * (8 - 1 - k))) = ((2 ^ (8 * (8 - 1 - k)) : Nat) : Int) := by simp
            rw [this]; omega
          have HT := Lib.hid (numB_take 8 x k hkn)
          go_wp2_with (at_builtin; refine wl_app 34 _ _ _ _ Try.underlying22 info_u8 w.heap.size u4 (255 :: (numB 8 x).take k) rfl (HO.out.alloc _) _ [UInt8.ofNat (x / 2 ^ (8 * (8 - 1 - k)))] rfl (bytes_one wr _ _ _ HV.out) ?hlen ?hbase ?_; (case hlen => simpa using hlk); (case hbase => simp; omega); intro v9 w9 ho9 hg9 hat9)
          have HB9 := Lib.hid (below_append (HBr.out.alloc hsr _) (HO.out.alloc _) hg9 (by simp; omega) (Nat.le_refl _))
          have HO9 := Lib.hid ho9
          clear ho9 hg9 hat9
          go_roundw
          case rel => exact ⟨k + 1, j - 1, by omega, by omega, by omega, by have := HJ.out; show _ = _; omega, rfl, by have := HO9.out; rw [HT.out]; exact Lib.hid (by simpa using this), HB9.out⟩
          case measure => simp [intOf]; omega
        · obtain rfl : j = -1 := by omega
          have hkn : k = 8 := by have := HJ.out; omega
          subst hkn
          go_wp2_with fail
          go_ret
          exact ⟨_, rfl, by have := HO.out; rw [List.take_of_length_le (by rw [numB_length]; exact Nat.le_refl _)] at this; rw [HN.out]; simpa using this, HBr.out⟩

set_option maxRecDepth 20000 in
set_option maxHeartbeats 1600000 in
theorem rread_long (b : UInt8) (r : List UInt8) (m : Nat) (bl off c : Nat) (w : World) (hb : ¬ b.toNat < 253) (hbm : b.toNat = 253 ∧ m = 2 ∨ b.toNat = 254 ∧ m = 4 ∨ b.toNat = 255 ∧ m = 8)
    (hc1 : r.length + 1 ≤ c) (hc2 : c ≤ 9223372036854775807) (hl : m ≤ r.length) (h0 : w.cell? ⟨bl, off, none⟩ = some (.int .u8 b.toNat))
    (hcell : ∀ j (hj : j < r.length), w.cell? ⟨bl, off + (j + 1), none⟩ = some (.int .u8 (r[j]).toNat)) :
    Calls Try.prog 43 #[.slice (some ⟨bl, off, none⟩) (r.length + 1) c] w fun e w' => e = .returned (rdV (if size (be (r.take m)) ≠ m + 1 then none else some (be (r.take m), m + 1))) ∧ Below w.heap.size w w' := by
  have HC := Lib.hid hcell; clear hcell
  obtain ⟨V, hV⟩ : ∃ V, V = rdV (if size (be (r.take m)) ≠ m + 1 then none else some (be (r.take m), m + 1)) := ⟨_, rfl⟩
  rw [← hV]
  have HV1 : Hid (size (be (r.take m)) = m + 1 → V = .tuple #[.int .u64 (be (r.take m)), .int .i64 (m + 1 : Nat), .int .i64 0]) := fun h => by rw [hV, if_neg (by omega)]; rfl
  have HV2 : Hid (size (be (r.take m)) ≠ m + 1 → V = .tuple #[.int .u64 0, .int .i64 0, .int .i64 10]) := fun h => by rw [hV, if_pos h]; rfl
  clear hV
  rcases hbm with ⟨h1, h2⟩ | ⟨h1, h2⟩ | ⟨h1, h2⟩
  · subst h2
    rw [h1] at h0
    clear hb h1
    go_enter Try.func43, Try.ntmps43
    go_wp2_with fail
    go_loop [6, 7] (fun x i => ∃ k : Nat, k ≤ 2 ∧ i = .int .i64 ((k : Int) + 1) ∧ x = .int .u64 (be (r.take k))) (fun _ i => 2 + 1 - (intOf i).toNat)
    case atStart => exact ⟨0, Nat.zero_le _, rfl, rfl⟩
    case round =>
      obtain ⟨k, hk, rfl, rfl⟩ := hrel
      by_cases hlt : k < 2
      · have hc := HC.out k (by omega)
        have h56 := be_take_lt r k (by omega)
        have hby : ((r[k]'(by omega)).toNat) < 256 := (r[k]'(by omega)).toNat_lt
        have HS : Hid (be (r.take (k + 1)) = be (r.take k) * 256 + (r[k]'(by omega)).toNat) := be_take_snoc r k (by omega)
        go_wp2_with fail
        go_round
        case rel => exact ⟨k + 1, by omega, by go_num, by rw [HS.out]; go_num⟩
        case measure => simp [intOf]; omega
      · obtain rfl : k = 2 := by omega
        have hb8 := be_take_lt8 r 2 (by omega)
        have HZ := Lib.hid (number_ok (be (r.take 2)) w hb8)
        have HL := Lib.hid (num_length (be (r.take 2)))
        by_cases hz : size (be (r.take 2)) = 2 + 1
        · have HV := Lib.hid (HV1.out hz)
          have HQ := Lib.hid hz; clear hz
          go_wp2_with fail
          refine HZ.out.mono ?_
          rintro e w1 ⟨v1, rfl, ho1, hb1⟩
          obtain ⟨A1, c1, rfl, _, _⟩ := own_form ho1
          rw [HL.out, HQ.out]
          clear ho1
          go_wp2_with fail
          go_ret3
          exact ⟨by rw [HV.out]; simp, hb1⟩
        · have HV := Lib.hid (HV2.out hz)
          have HQ : ((size (be (r.take 2)) : Int) != 3) = true := by rw [bne_iff_ne]; omega
          clear hz
          go_wp2_with fail
          refine HZ.out.mono ?_
          rintro e w1 ⟨v1, rfl, ho1, hb1⟩
          obtain ⟨A1, c1, rfl, _, _⟩ := own_form ho1
          rw [HL.out]
          clear ho1
          go_wp2_with fail
          go_ret3
          exact ⟨by rw [HV.out]; simp, hb1⟩
  · subst h2
    rw [h1] at h0
    clear hb h1
    go_enter Try.func43, Try.ntmps43
    go_wp2_with fail
    go_loop [6, 7] (fun x i => ∃ k : Nat, k ≤ 4 ∧ i = .int .i64 ((k : Int) + 1) ∧ x = .int .u64 (be (r.take k))) (fun _ i => 4 + 1 - (intOf i).toNat)
    case atStart => exact ⟨0, Nat.zero_le _, rfl, rfl⟩
    case round =>
      obtain ⟨k, hk, rfl, rfl⟩ := hrel
      by_cases hlt : k < 4
      · have hc := HC.out k (by omega)
        have h56 := be_take_lt r k (by omega)
        have hby : ((r[k]'(by omega)).toNat) < 256 := (r[k]'(by omega)).toNat_lt
        have HS : Hid (be (r.take (k + 1)) = be (r.take k) * 256 + (r[k]'(by omega)).toNat) := be_take_snoc r k (by omega)
        go_wp2_with fail
        go_round
        case rel => exact ⟨k + 1, by omega, by go_num, by rw [HS.out]; go_num⟩
        case measure => simp [intOf]; omega
      · obtain rfl : k = 4 := by omega
        have hb8 := be_take_lt8 r 4 (by omega)
        have HZ := Lib.hid (number_ok (be (r.take 4)) w hb8)
        have HL := Lib.hid (num_length (be (r.take 4)))
        by_cases hz : size (be (r.take 4)) = 4 + 1
        · have HV := Lib.hid (HV1.out hz)
          have HQ := Lib.hid hz; clear hz
          go_wp2_with fail
          refine HZ.out.mono ?_
          rintro e w1 ⟨v1, rfl, ho1, hb1⟩
          obtain ⟨A1, c1, rfl, _, _⟩ := own_form ho1
          rw [HL.out, HQ.out]
          clear ho1
          go_wp2_with fail
          go_ret3
          exact ⟨by rw [HV.out]; simp, hb1⟩
        · have HV := Lib.hid (HV2.out hz)
          have HQ : ((size (be (r.take 4)) : Int) != 5) = true := by rw [bne_iff_ne]; omega
          clear hz
          go_wp2_with fail
          refine HZ.out.mono ?_
          rintro e w1 ⟨v1, rfl, ho1, hb1⟩
          obtain ⟨A1, c1, rfl, _, _⟩ := own_form ho1
          rw [HL.out]
          clear ho1
          go_wp2_with fail
          go_ret3
          exact ⟨by rw [HV.out]; simp, hb1⟩
  · subst h2
    rw [h1] at h0
    clear hb h1
    go_enter Try.func43, Try.ntmps43
    go_wp2_with fail
    go_loop [6, 7] (fun x i => ∃ k : Nat, k ≤ 8 ∧ i = .int .i64 ((k : Int) + 1) ∧ x = .int .u64 (be (r.take k))) (fun _ i => 8 + 1 - (intOf i).toNat)
    case atStart => exact ⟨0, Nat.zero_le _, rfl, rfl⟩
    case round =>
      obtain ⟨k, hk, rfl, rfl⟩ := hrel
      by_cases hlt : k < 8
      · have hc := HC.out k (by omega)
        have h56 := be_take_lt r k (by omega)
        have hby : ((r[k]'(by omega)).toNat) < 256 := (r[k]'(by omega)).toNat_lt
        have HS : Hid (be (r.take (k + 1)) = be (r.take k) * 256 + (r[k]'(by omega)).toNat) := be_take_snoc r k (by omega)
        go_wp2_with fail
        go_round
        case rel => exact ⟨k + 1, by omega, by go_num, by rw [HS.out]; go_num⟩
        case measure => simp [intOf]; omega
      · obtain rfl : k = 8 := by omega
        have hb8 := be_take_lt8 r 8 (by omega)
        have HZ := Lib.hid (number_ok (be (r.take 8)) w hb8)
        have HL := Lib.hid (num_length (be (r.take 8)))
        by_cases hz : size (be (r.take 8)) = 8 + 1
        · have HV := Lib.hid (HV1.out hz)
          have HQ := Lib.hid hz; clear hz
          go_wp2_with fail
          refine HZ.out.mono ?_
          rintro e w1 ⟨v1, rfl, ho1, hb1⟩
          obtain ⟨A1, c1, rfl, _, _⟩ := own_form ho1
          rw [HL.out, HQ.out]
          clear ho1
          go_wp2_with fail
          go_ret3
          exact ⟨by rw [HV.out]; simp, hb1⟩
        · have HV := Lib.hid (HV2.out hz)
          have HQ : ((size (be (r.take 8)) : Int) != 9) = true := by rw [bne_iff_ne]; omega
          clear hz
          go_wp2_with fail
          refine HZ.out.mono ?_
          rintro e w1 ⟨v1, rfl, ho1, hb1⟩
          obtain ⟨A1, c1, rfl, _, _⟩ := own_form ho1
          rw [HL.out]
          clear ho1
          go_wp2_with fail
          go_ret3
          exact ⟨by rw [HV.out]; simp, hb1⟩

set_option maxRecDepth 20000 in
theorem rread_short (x n bl off c : Nat) (w : World) (hx : x < 253) (hc1 : n + 1 ≤ c) (hc2 : c ≤ 9223372036854775807) (h0 : w.cell? ⟨bl, off, none⟩ = some (.int .u8 x)) :
    Calls Try.prog 43 #[.slice (some ⟨bl, off, none⟩) (n + 1) c] w fun e w' => e = .returned (.tuple #[.int .u64 x, .int .i64 1, .int .i64 0]) ∧ w = w' := by
  have e1 : ((x : Int) == 253) = false := by rw [beq_eq_false_iff_ne]; omega
  have e2 : ((x : Int) == 254) = false := by rw [beq_eq_false_iff_ne]; omega
  have e3 : ((x : Int) == 255) = false := by rw [beq_eq_false_iff_ne]; omega
  go_enter Try.func43, Try.ntmps43
  go_wp2_with fail
  go_ret3
  exact ⟨rfl, rfl⟩

/-- tollhouseref01.Read, whatever the bytes. -/
theorem rread_ok (l : List UInt8) (v : Value) (w : World) (h : Bytes w v l) :
    Calls Try.prog 43 #[v] w fun e w' => e = .returned (rdV (rdN l)) ∧ Below w.heap.size w w' := by
  rcases h.open with ⟨rfl, A, c, rfl, hc, hA⟩ | ⟨h0, bl, off, c, rfl, hc1, hc2, hcell⟩
  · go_enter Try.func43, Try.ntmps43
    go_wp2_with fail
    go_ret3
    exact ⟨rfl, Below.refl _ _⟩
  · obtain ⟨b, r, rfl⟩ : ∃ b r, l = b :: r := by cases l with | nil => simp at h0 | cons b r => exact ⟨b, r, rfl⟩
    have hc0 : w.cell? ⟨bl, off, none⟩ = some (.int .u8 b.toNat) := hcell 0 h0
    have hcr : ∀ j (hj : j < r.length), w.cell? ⟨bl, off + (j + 1), none⟩ = some (.int .u8 (r[j]).toNat) := fun j hj => hcell (j + 1) (by simp; omega)
    simp only [List.length_cons] at hc1 ⊢
    have hlt : b.toNat < 256 := b.toNat_lt
    by_cases hb : b.toNat < 253
    · have e : rdN (b :: r) = some (b.toNat, 1) := by simp [rdN, hb]
      rw [e]
      exact (rread_short b.toNat r.length bl off c w hb hc1 hc2 hc0).mono fun _ _ ⟨h1, h2⟩ => ⟨h1, h2 ▸ Below.refl _ _⟩
    · have hm : b.toNat = 253 ∧ more b = 2 ∨ b.toNat = 254 ∧ more b = 4 ∨ b.toNat = 255 ∧ more b = 8 := by unfold more; split <;> (try split) <;> omega
      by_cases hl : more b ≤ r.length
      · have e : rdN (b :: r) = (if size (be (r.take (more b))) ≠ more b + 1 then none else some (be (r.take (more b)), more b + 1)) := by
          simp only [rdN]; rw [if_neg hb, if_neg (by omega)]
        rw [e]
        exact rread_long b r (more b) bl off c w hb hm hc1 hc2 hl hc0 hcr
      · have e : rdN (b :: r) = none := by
          simp only [rdN]; rw [if_neg hb, if_pos (by omega)]
        rw [e]
        clear hcell hcr h0 e
        rcases hm with ⟨hm1, hm2⟩ | ⟨hm1, hm2⟩ | ⟨hm1, hm2⟩
        all_goals
          rw [hm2] at hl
          rw [hm1] at hc0
          clear hm1 hm2
          go_enter Try.func43, Try.ntmps43
          go_wp2_with fail
          go_ret3
          exact ⟨rfl, Below.refl _ _⟩
theorem rread_none (l : List UInt8) (v : Value) (w : World) (h : Bytes w v l) (hr : rdN l = none) :
    Calls Try.prog 43 #[v] w fun e w' => e = .returned (.tuple #[.int .u64 0, .int .i64 0, .int .i64 10]) ∧ Below w.heap.size w w' := by
  have := rread_ok l v w h
  rw [hr] at this
  exact this
theorem rread_some (l : List UInt8) (v : Value) (w : World) (x n : Nat) (h : Bytes w v l) (hr : rdN l = some (x, n)) :
    Calls Try.prog 43 #[v] w fun e w' => e = .returned (.tuple #[.int .u64 x, .int .i64 n, .int .i64 0]) ∧ Below w.heap.size w w' := by
  have := rread_ok l v w h
  rw [hr] at this
  exact this
end Go.Proofs.Ytdohenfbehpplaa
/- bigsize.Encode, in plain Lean. -/
namespace Go.Proofs.Ytdohenfbehpplaa
set_option linter.unusedVariables false
set_option linter.unusedSimpArgs false

/-- Is each type greater than the one before it? (i: how many are looked at) -/
def ordTo (l : List (Nat × List UInt8)) (i : Nat) : Bool := (List.range i).all fun k => k == 0 || decide ((l.getD (k - 1) (0, [])).1 < (l.getD k (0, [])).1)
def recSize (r : Nat × List UInt8) : Nat := size r.1 + size r.2.length + r.2.length
def recsSize (l : List (Nat × List UInt8)) : Nat := (l.map recSize).sum
def recBytes (r : Nat × List UInt8) : List UInt8 := num r.1 ++ num r.2.length ++ r.2
def recsBytes (l : List (Nat × List UInt8)) : List UInt8 := l.flatMap recBytes
theorem recBytes_length (r : Nat × List UInt8) : (recBytes r).length = recSize r := by
  simp [recBytes, recSize, num_length]; omega
theorem recsBytes_length (l : List (Nat × List UInt8)) : (recsBytes l).length = recsSize l := by
  induction l with
  | nil => rfl
  | cons r l ih => simp only [recsBytes, recsSize, List.flatMap_cons, List.length_append, List.map_cons, List.sum_cons, recBytes_length] at *; omega
theorem recsSize_take_succ (l : List (Nat × List UInt8)) (k : Nat) (h : k < l.length) : recsSize (l.take (k + 1)) = recsSize (l.take k) + recSize l[k] := by
  rw [List.take_succ_eq_append_getElem h]; simp only [recsSize, List.map_append, List.sum_append, List.map_cons, List.map_nil, List.sum_cons, List.sum_nil, Nat.add_zero]
theorem recsBytes_take_succ (l : List (Nat × List UInt8)) (k : Nat) (h : k < l.length) : recsBytes (l.take (k + 1)) = recsBytes (l.take k) ++ recBytes l[k] := by
  rw [List.take_succ_eq_append_getElem h]; simp only [recsBytes, List.flatMap_append, List.flatMap_cons, List.flatMap_nil, List.append_nil]
theorem recsSize_take_le (l : List (Nat × List UInt8)) (B : Nat) (hB : ∀ r ∈ l, r.2.length ≤ B) (k : Nat) : recsSize (l.take k) ≤ k * (B + 18) := by
  induction k with
  | zero => simp [recsSize]
  | succ k ih =>
    by_cases h : k < l.length
    · rw [recsSize_take_succ l k h]
      have h1 := hB l[k] (List.getElem_mem h)
      have h2 := size_le l[k].1
      have h3 := size_le l[k].2.length
      unfold recSize
      rw [Nat.succ_mul]; omega
    · rw [List.take_of_length_le (by omega)] at *
      exact Nat.le_trans ih (Nat.mul_le_mul_right _ (by omega))
/-- A stream: bytes and a code. -/
def encS (l : List (Nat × List UInt8)) : List UInt8 × Nat :=
  if ordTo l l.length = false then ([], 11) else if 64 < l.length ∨ 65536 < recsSize l then ([], 3) else (recsBytes l, 0)
theorem ordTo_succ (l : List (Nat × List UInt8)) (i : Nat) : ordTo l (i + 1) = (ordTo l i && (i == 0 || decide ((l.getD (i - 1) (0, [])).1 < (l.getD i (0, [])).1))) := by
  simp [ordTo, List.range_succ]
theorem ordTo_false (l : List (Nat × List UInt8)) (i : Nat) (h : ordTo l i = false) : ∀ j, i ≤ j → ordTo l j = false := by
  intro j hj
  obtain ⟨d, rfl⟩ := Nat.exists_eq_add_of_le hj
  induction d with
  | zero => exact h
  | succ d ih => rw [← Nat.add_assoc, ordTo_succ, ih (by omega)]; rfl
end Go.Proofs.Ytdohenfbehpplaa
/- tollhouseref01.Encode: a contract. -/
namespace Go.Proofs.Ytdohenfbehpplaa
set_option linter.unusedVariables false
set_option linter.unusedSimpArgs false
open Go.RowKit

theorem own_kept_lt {w w' : World} {base n : Nat} {e : TypeId} {sz : Nat} {v : Value} {xs : List Value} {row : Option Nat} (h : w.ownsRow base e sz v n xs) (hg : w.grownBy w' row) (hr : ∀ k, row = some k → k < base) : w'.ownsRow base e sz v n xs := by
  refine h.kept hg ?_
  cases hb : v.ownBlock with
  | none => exact .inl rfl
  | some k =>
    refine .inr fun he => ?_
    have h1 := own_base h k hb
    have h2 := hr k he.symm
    omega
theorem ordTo_le {l : List Rec} {k : Nat} (h : ordTo l k = true) (h1 : 1 ≤ k) (h2 : l.length ≤ k) (h3 : k ≤ l.length ∨ k = 1) : ordTo l l.length = true := by
  rcases h3 with h3 | h3
  · rw [show l.length = k by omega]; exact h
  · subst h3
    rcases Nat.eq_zero_or_pos l.length with h0 | h0
    · rw [h0]; rfl
    · rw [show l.length = 1 by omega]; exact h

set_option maxRecDepth 20000 in
set_option maxHeartbeats 3200000 in
theorem rencode_ok (l : List Rec) (v : Value) (w : World) (h : Recs w v l) (hl : l.length ≤ 64) (hB : ∀ r ∈ l, r.2.length ≤ 1000000 ∧ r.1 < 18446744073709551616) :
    Calls Try.prog 28 #[v] w fun e w' => ∃ v', e = .returned (.tuple #[v', .int .i64 (encS l).2]) ∧ w'.ownsRow w.heap.size 5 1 v' (encS l).1.length (bvs (encS l).1) ∧ Below w.heap.size w w' := by
  have HH := Lib.hid h
  obtain ⟨A, c, rfl, h1, h2, h4, h3⟩ := h.open
  obtain ⟨E, hE⟩ : ∃ E, E = encS l := ⟨_, rfl⟩
  rw [← hE]
  have HE := Lib.hid hE
  have HB := Lib.hid hB
  clear h h3 h4 hE hB
  go_enter Try.func28, Try.ntmps28
  go_wp2_with fail
  go_loopw [4] (fun v4 wr => ∃ k : Nat, 1 ≤ k ∧ (k ≤ l.length ∨ k = 1) ∧ v4 = .int .i64 k ∧ Hid (ordTo l k = true) ∧ Hid (Below w.heap.size w wr)) (fun v4 _ => l.length - (intOf v4).toNat)
  case atStart => exact ⟨1, by omega, by omega, rfl, by show _ = _; simp [ordTo], Below.refl _ _⟩
  case round =>
    obtain ⟨k, hk1, hk2, rfl, HO, HBr⟩ := hrel
    have hsr := HBr.out.size
    by_cases hlt : k < l.length
    · obtain ⟨b, off, rfl, _, hc⟩ := HH.out.at_ HBr.out (by omega)
      obtain ⟨A', c', hc1, hc2, hc3⟩ := hc k hlt
      obtain ⟨m, hm⟩ : ∃ m, m + 1 = k := ⟨k - 1, by omega⟩
      have hml : m < l.length := by omega
      obtain ⟨A2, c2, hp1, _, _⟩ := hc m hml
      have hw1 : IntKind.i64.wrap ((k : Int) - 1) = (m : Int) := by rw [IntKind.wrap_i64]; omega
      have HOS := Lib.hid (ordTo_succ l k)
      have hgd : (l.getD (k - 1) (0, [])).1 = l[m].1 ∧ (l.getD k (0, [])).1 = l[k].1 := by
        rw [show k - 1 = m by omega]
        simp [List.getD_eq_getElem?_getD, List.getElem?_eq_getElem, hml, hlt]
      have HG := Lib.hid hgd
      clear hm hgd hc hc3
      by_cases ho : l[m].1 < l[k].1
      · have ho' : ¬ ((l[k].1 : Int) ≤ l[m].1) := by omega
        have HO2 : Hid (ordTo l (k + 1) = true) := by
          show _ = _
          rw [HOS.out, HO.out, HG.out.1, HG.out.2, decide_eq_true ho]; simp
        go_wp2_with fail
        go_quiet (fail)
        clear hw1
        go_wp2_with fail
        go_roundw
        case rel => exact ⟨k + 1, by omega, by omega, by go_num, HO2, below_drewN HBr.out _⟩
        case measure => simp [intOf]; omega
      · have ho' : ((l[k].1 : Int) ≤ l[m].1) := by omega
        have HO2 : Hid (ordTo l l.length = false) := by
          refine ordTo_false l (k + 1) ?_ _ (by omega)
          rw [HOS.out, HO.out, HG.out.1, HG.out.2, decide_eq_false ho]
          have : (k == 0) = false := by rw [beq_eq_false_iff_ne]; omega
          simp [this]
        have HE2 : Hid (E = ([], 11)) := by
          show _ = _
          rw [HE.out]; unfold encS; rw [if_pos HO2.out]
        go_wp2_with fail
        go_quiet (fail)
        clear hw1
        go_wp2_with fail
        go_ret2
        exact ⟨_, by rw [HE2.out]; rfl, by rw [HE2.out]; exact World.ownsRow_nil _ _ _ _, below_drewN HBr.out _⟩
    · have HT : Hid (ordTo l l.length = true) := ordTo_le HO.out hk1 (by omega) hk2
      clear HO hk2
      have hge : l.length ≤ k := by omega
      go_wp2_with fail
      obtain ⟨wo, rfl⟩ : ∃ wo : World, wo = wr := ⟨_, rfl⟩
      go_loopw [5, 6] (fun v5 v6 wr => ∃ j : Nat, j ≤ l.length ∧ v6 = .int .i64 j ∧ Hid (wr.ownsRow w.heap.size 5 1 v5 (recsBytes (l.take j)).length (bvs (recsBytes (l.take j)))) ∧ Hid (Below w.heap.size w wr) ∧ Hid ((recsBytes (l.take j)).length ≤ 65536)) (fun _ v6 _ => l.length - (intOf v6).toNat)
      case atStart => exact ⟨0, Nat.zero_le _, rfl, World.ownsRow_nil _ _ _ _, HBr.out, Nat.zero_le _⟩
      case round =>
        obtain ⟨j, hj, rfl, HOj, HBj, HLj⟩ := hrel
        have hsj := HBj.out.size
        by_cases hjl : j < l.length
        · obtain ⟨b, off, rfl, _, hc⟩ := HH.out.at_ HBj.out (by omega)
          obtain ⟨A', c', hc1, hc2, hc3⟩ := hc j hjl
          obtain ⟨bw, offw, ebw, _, hcw⟩ := HH.out.at_ (Below.refl w.heap.size w) (by omega)
          simp only [Option.some.injEq, Addr.mk.injEq, and_true] at ebw
          obtain ⟨rfl, rfl⟩ := ebw
          obtain ⟨A9, c9, hw1, hw2, hw3⟩ := hcw j hjl
          have hsame : some (Value.slice A9 l[j].2.length c9) = some (Value.slice A' l[j].2.length c') := hw2.symm.trans ((HBj.out.cell (World.block_lt_of_cell? w ⟨b, off + j * 2 + 1, none⟩ hw2)).symm.trans hc2)
          have HC0 : Hid (Bytes w (.slice A' l[j].2.length c') l[j].2) := by rw [← Option.some.inj hsame]; exact hw3
          have HBL : Hid (b < w.heap.size) := World.block_lt_of_cell? w ⟨b, off + j * 2, none⟩ hw1
          have HW1 := Lib.hid hw1
          have HW2 : Hid (w.cell? ⟨b, off + j * 2 + 1, none⟩ = some (.slice A' l[j].2.length c')) := ((HBj.out.cell HBL.out).symm.trans hc2)
          clear hw1 hw2 hw3 hcw hsame
          have HC3 := Lib.hid hc3
          obtain ⟨hb1, hb2⟩ := HB.out l[j] (List.getElem_mem hjl)
          have HS := Lib.hid (recsBytes_take_succ l j hjl)
          have hz1 := size_le l[j].1
          have hz2 := size_le l[j].2.length
          have wu : IntKind.u64.wrap (l[j].2.length : Int) = (l[j].2.length : Int) := wrap_u64_nat _ (by omega)
          have HN1 := Lib.hid (num_length l[j].1)
          have HN2 := Lib.hid (num_length l[j].2.length)
          have hub : ∀ k', u5.ownBlock = some k' → k' < wr.heap.size := fun k' hk' => (HOj.out.lt k' hk').2
          have HUB := Lib.hid hub
          clear hc hc3 hub
          go_wp2_with fail
          have tok1 : True := trivial
          have hbl : b < w.heap.size := HBL.out
          have HBC : Below w.heap.size w wr.drew := HBj.out.drew
          have HOUT : wr.drew.ownsRow w.heap.size 5 1 u5 (recsBytes (l.take j)).length (bvs (recsBytes (l.take j))) := own_below HOj.out ((Below.refl wr.heap.size wr).drew)
          have hq1 : (recsBytes (l.take j)).length + (num l[j].1).length ≤ 140737488355328 := by have := HLj.out; have := HN1.out; omega
          have hq2 : (recsBytes (l.take j) ++ num l[j].1).length + (num l[j].2.length).length ≤ 140737488355328 := by have := HLj.out; have := HN1.out; have := HN2.out; rw [List.length_append]; omega
          have hx2 : l[j].2.length < 18446744073709551616 := by omega
          go_region_held3 (fun W => W.cell? ⟨b, off + j * 2, none⟩ = some (.int .u64 (l[j].1 : Nat)) ∧ W.cell? ⟨b, off + j * 2 + 1, none⟩ = some (.slice A' l[j].2.length c'))
            (first | go_keep | exact ⟨(HBC.cell hbl).trans HW1.out, (HBC.cell hbl).trans HW2.out⟩)
            ((first | (go_at_call 48; have _t := tok1; refine (number_ok l[j].1 _ hb2).mono ?_; rintro e wa ⟨va, rfl, hoa, hba⟩; replace HBC := below_of HBC hba HBC.size; replace HOUT := own_below HOUT hba; have HNA := hoa; clear tok1) | (go_at_call 48; refine (number_ok l[j].2.length _ hx2).mono ?_; rintro e wb ⟨vb, rfl, hob, hbb⟩; replace HBC := below_of HBC hbb HBC.size; replace HOUT := own_below HOUT hbb; replace HNA := own_below HNA hbb; have HNB := hob) | (have _q := HNB; refine step_app rfl (.tmp 34) (.tmp 40) _ _ rfl Try.underlying22 info_u8 w.heap.size u5 (recsBytes (l.take j)) rfl HOUT _ (num l[j].1) rfl (own_bytes HNA) hq1 HBC.size ?_; intro v3 w3 ho3 hg3 hat3; replace HBC := below_append HBC HOUT hg3 HBC.size (Nat.le_refl _); replace HNB := own_kept_lt HNB hg3 (fun k' hk' => Nat.lt_of_lt_of_le (HUB.out k' hk') hba.size); replace HOUT := ho3) | (refine step_app rfl (.tmp 34) (.tmp 40) _ _ rfl Try.underlying22 info_u8 w.heap.size u5 (recsBytes (l.take j)) rfl HOUT _ (num l[j].1) rfl (own_bytes HNA) hq1 HBC.size ?_; intro v3 w3 ho3 hg3 hat3; have HNA2 := HNA; replace HBC := below_append HBC HOUT hg3 HBC.size (Nat.le_refl _); replace HNA := own_kept_lt HNA hg3 (fun k' hk' => HUB.out k' hk'); replace HOUT := ho3) | (refine step_app rfl (.tmp 41) (.tmp 49) _ _ rfl Try.underlying22 info_u8 w.heap.size v3 (recsBytes (l.take j) ++ num l[j].1) rfl HOUT _ (num l[j].2.length) rfl (own_bytes HNB) hq2 HBC.size ?_; intro v4 w4 ho4 hg4 hat4; replace HBC := below_append HBC HOUT hg4 HBC.size (Nat.le_refl _); replace HOUT := ho4)))
          all_goals
            have HB4 := Lib.hid HBC
            have HO4 := Lib.hid HOUT
            have HL4 : Hid ((recsBytes (l.take j) ++ num l[j].1 ++ num l[j].2.length).length + l[j].2.length ≤ 140737488355328) := by show _ ≤ _; have := HLj.out; have := HN1.out; have := HN2.out; rw [List.length_append, List.length_append]; omega
            clear HBC HOUT
            have hcv : w4.cell? ⟨b, off + j * 2 + 1, none⟩ = some (.slice A' l[j].2.length c') := (HB4.out.cell hbl).trans HW2.out
            have hx4 : Bytes w4 (.slice A' l[j].2.length c') l[j].2 := HC0.out.below HB4.out
            have HX4 := Lib.hid hx4
            have HS2 : Hid (recsBytes (l.take j) ++ num l[j].1 ++ num l[j].2.length ++ l[j].2 = recsBytes (l.take (j + 1))) := by show _ = _; rw [HS.out]; simp [recBytes]
            clear hx4
            have hsz4 := HB4.out.size
            by_cases hbig : (recsBytes (l.take (j + 1))).length ≤ 65536
            · go_wp2_with (at_builtin; refine wl_app_len 57 _ _ _ _ Try.underlying22 info_u8 w.heap.size v4 (recsBytes (l.take j) ++ num l[j].1 ++ num l[j].2.length) rfl HO4.out _ l[j].2 rfl HX4.out (recsBytes (l.take (j + 1))).length ?hk ?hlen hsz4 ?_; (case hk => rw [HS2.out]); (case hlen => rw [← HS2.out, List.length_append]; exact HL4.out); intro A5 c5 w5 ho5 hg5 hc51 hc52; have HB5 := Lib.hid (below_append HB4.out HO4.out hg5 hsz4 (Nat.le_refl _)); have HO5 := Lib.hid ho5; clear ho5 hg5)
              rw [HS2.out] at HO5
              go_roundw
              case rel => exact ⟨j + 1, by omega, by go_num, HO5, HB5, hbig⟩
              case measure => simp [intOf]; omega
            · have HE2 : Hid (E = ([], 3)) := by
                show _ = _
                have h1 : (recsBytes (l.take (j + 1))).length ≤ (recsBytes l).length := by
                  rw [recsBytes_length, recsBytes_length]
                  have : recsSize l = recsSize (l.take (j + 1)) + recsSize (l.drop (j + 1)) := by
                    conv => lhs; rw [← List.take_append_drop (j + 1) l]
                    simp only [recsSize, List.map_append, List.sum_append]
                  omega
                rw [recsBytes_length l] at h1
                rw [HE.out]; unfold encS; rw [if_neg (by rw [HT.out]; simp), if_pos (by omega)]
              go_wp2_with (at_builtin; refine wl_app_len 57 _ _ _ _ Try.underlying22 info_u8 w.heap.size v4 (recsBytes (l.take j) ++ num l[j].1 ++ num l[j].2.length) rfl HO4.out _ l[j].2 rfl HX4.out (recsBytes (l.take (j + 1))).length ?hk ?hlen hsz4 ?_; (case hk => rw [HS2.out]); (case hlen => rw [← HS2.out, List.length_append]; exact HL4.out); intro A5 c5 w5 ho5 hg5 hc51 hc52; have HB5 := Lib.hid (below_append HB4.out HO4.out hg5 hsz4 (Nat.le_refl _)); have HO5 := Lib.hid ho5; clear ho5 hg5)
              go_ret2
              exact ⟨_, by rw [HE2.out]; rfl, by rw [HE2.out]; exact World.ownsRow_nil _ _ _ _, HB5.out⟩
        · have hjl' : j = l.length := by omega
          have HT2 : Hid (l.take j = l) := List.take_of_length_le (by omega)
          have HE2 : Hid (E = (recsBytes l, 0)) := by
            show _ = _
            have h1 := HLj.out
            rw [HT2.out, recsBytes_length] at h1
            rw [HE.out]; unfold encS; rw [if_neg (by rw [HT.out]; simp), if_neg (by omega)]
          clear hjl'
          go_wp2_with fail
          go_ret2
          exact ⟨_, by rw [HE2.out]; rfl, by rw [HE2.out]; have := HOj.out; rw [HT2.out] at this; simpa using this, HBj.out⟩
end Go.Proofs.Ytdohenfbehpplaa
/- tollhouseref06.value. (Printed by a program of mine: wip/gen-value.py.) -/
namespace Go.Proofs.Ytdohenfbehpplaa
set_option linter.unusedVariables false
set_option linter.unusedSimpArgs false
open Go.RowKit
attribute [local irreducible] Go.wpList
attribute [local go_sem ↓] ldm stm bdm
theorem slice_arr (b k : Nat) (W : World) : (Instr.sliceAt 23 (.pointer (some ⟨b, k, none⟩)) none none none).run Try.prog W = .ok (.slice (some ⟨b, k, none⟩) 32 32) W := by
  have h1 := run_size_u8 W
  simp [Instr.sliceAt, run_underlying Try.underlying23, Instr.sliceBounds, Instr.sliceBound, asIntOf, Addr.add, Instr.sureAddr, h1]
theorem bytes_range {w : World} {b k : Nat} {l : List UInt8} (h : w.rangeAt b k (bvs l)) (hl : l.length = 32) : Bytes w (.slice (some ⟨b, k, none⟩) 32 32) l :=
  Bytes.mk hl (Nat.le_refl _) (by omega) (fun j hj => h j _ (by simp [bvs, hj]))
/-- A field's bytes. -/
def valS (m : Msg) (t : Nat) : List UInt8 :=
  if t = 1 then nbF m.channel.toNat else
  if t = 3 then nbF m.id.toNat else
  if t = 5 then nbF m.amount.toNat else
  if t = 7 then nbF m.expiry.toNat else
  if t = 9 then m.hash else
  if t = 11 then m.onion else
  if t = 13 then m.secret else
  if t = 15 then m.point else
  if t = 17 then m.tag else
  if t = 19 then nbF m.number.toNat else
  if t = 21 then nbF m.told.toNat else
  m.reason
/-- Bytes that are the message's own slices, or lie in a block made since that holds no records. -/
def Lone (w w' : World) (m : Msg) (o r v : Value) (t : Nat) : Prop := (t = 11 ∧ v = o) ∨ (t = 23 ∧ v = r) ∨ ∀ b, v.ownBlock = some b → w.heap.size ≤ b ∧ ∃ C ty fr, w'.heap[b]? = some (.cells C ty fr) ∧ ty ≠ 37
theorem lone_own {w w' : World} {m : Msg} {o r v : Value} {t n : Nat} {xs : List Value} {base : Nat} (h : w'.ownsRow base 5 1 v n xs) (hb : w.heap.size ≤ base) : Lone w w' m o r v t := by
  refine .inr (.inr fun b hv => ?_)
  rcases h.2 with ⟨rfl, _⟩ | ⟨g, cap, cur, rfl, e2, e3, _⟩
  · simp [Value.ownBlock] at hv
  · simp only [Value.ownBlock, Option.some.injEq] at hv
    subst hv
    exact ⟨Nat.le_trans hb e2, _, _, _, e3, by decide⟩
set_option maxRecDepth 20000 in
set_option maxHeartbeats 3200000 in
/-- tollhouseref06.value. -/
theorem value_ok (m : Msg) (t : Nat) (o r : Value) (w : World) (hm : m.Wf) (ho : Bytes w o m.onion) (hr : Bytes w r m.reason) (ht : isType t) :
    Calls Try.prog 27 #[.agg (mc m o r), .int .u64 t] w fun e w' => ∃ A c, e = .returned (.slice A (valS m t).length c) ∧ Bytes w' (.slice A (valS m t).length c) (valS m t) ∧ Lone w w' m o r (.slice A (valS m t).length c) t ∧ Below w.heap.size w w' := by
  have HO := Lib.hid ho
  have HR := Lib.hid hr
  obtain ⟨Ao, no, co, rfl⟩ := ho.slice
  obtain rfl := bytes_len ho
  obtain ⟨Ar, nr, cr, rfl⟩ := hr.slice
  obtain rfl := bytes_len hr
  clear ho hr
  have HB := Lib.hid ((Below.refl w.heap.size w).alloc (Nat.le_refl _) (.cells (mc m (.slice Ao m.onion.length co) (.slice Ar m.reason.length cr)) 25))
  have hblk : Hid ((w.alloc (.cells (mc m (.slice Ao m.onion.length co) (.slice Ar m.reason.length cr)) 25)).heap[w.heap.size]? = some (.cells (mc m (.slice Ao m.onion.length co) (.slice Ar m.reason.length cr)) 25)) := heap_alloc_last _ _
  have HM := Lib.hid (msgIn_new (o := .slice Ao m.onion.length co) (r := .slice Ar m.reason.length cr) w hm)
  rcases ht with rfl | rfl | rfl | rfl | rfl | rfl | rfl | rfl | rfl | rfl | rfl | rfl
  · go_enter Try.func27, Try.ntmps27
    go_wp2_with (first | ((with_reducible refine dst_is 2 ?_); refine wl_box 2 _ _ _ rfl ?_; intro W1 e1; rw [← e1] at HB hblk HM; clear e1; have c1 := HM.out.cell 1 _ mc_1))
    refine (numberI_ok m.channel W1 hm.channel).mono ?_
    rintro e w2 ⟨v2, rfl, ho2, hb2⟩
    obtain ⟨A2, c2, rfl, _, _⟩ := own_form ho2
    have HO2 := Lib.hid ho2
    have HB2 := Lib.hid (below_of HB.out hb2 HB.out.size)
    clear ho2 hb2 c1
    go_wp2_with fail
    go_ret
    exact ⟨A2, c2, rfl, own_bytes HO2.out, lone_own HO2.out HB.out.size, HB2.out⟩
  · go_enter Try.func27, Try.ntmps27
    go_wp2_with (first | ((with_reducible refine dst_is 2 ?_); refine wl_box 2 _ _ _ rfl ?_; intro W1 e1; rw [← e1] at HB hblk HM; clear e1; have c1 := HM.out.cell 2 _ mc_2))
    refine (numberI_ok m.id W1 hm.id).mono ?_
    rintro e w2 ⟨v2, rfl, ho2, hb2⟩
    obtain ⟨A2, c2, rfl, _, _⟩ := own_form ho2
    have HO2 := Lib.hid ho2
    have HB2 := Lib.hid (below_of HB.out hb2 HB.out.size)
    clear ho2 hb2 c1
    go_wp2_with fail
    go_ret
    exact ⟨A2, c2, rfl, own_bytes HO2.out, lone_own HO2.out HB.out.size, HB2.out⟩
  · go_enter Try.func27, Try.ntmps27
    go_wp2_with (first | ((with_reducible refine dst_is 2 ?_); refine wl_box 2 _ _ _ rfl ?_; intro W1 e1; rw [← e1] at HB hblk HM; clear e1; have c1 := HM.out.cell 3 _ mc_3))
    refine (numberI_ok m.amount W1 hm.amount).mono ?_
    rintro e w2 ⟨v2, rfl, ho2, hb2⟩
    obtain ⟨A2, c2, rfl, _, _⟩ := own_form ho2
    have HO2 := Lib.hid ho2
    have HB2 := Lib.hid (below_of HB.out hb2 HB.out.size)
    clear ho2 hb2 c1
    go_wp2_with fail
    go_ret
    exact ⟨A2, c2, rfl, own_bytes HO2.out, lone_own HO2.out HB.out.size, HB2.out⟩
  · go_enter Try.func27, Try.ntmps27
    go_wp2_with (first | ((with_reducible refine dst_is 2 ?_); refine wl_box 2 _ _ _ rfl ?_; intro W1 e1; rw [← e1] at HB hblk HM; clear e1; have c1 := HM.out.cell 4 _ mc_4))
    refine (numberI_ok m.expiry W1 hm.expiry).mono ?_
    rintro e w2 ⟨v2, rfl, ho2, hb2⟩
    obtain ⟨A2, c2, rfl, _, _⟩ := own_form ho2
    have HO2 := Lib.hid ho2
    have HB2 := Lib.hid (below_of HB.out hb2 HB.out.size)
    clear ho2 hb2 c1
    go_wp2_with fail
    go_ret
    exact ⟨A2, c2, rfl, own_bytes HO2.out, lone_own HO2.out HB.out.size, HB2.out⟩
  · go_enter Try.func27, Try.ntmps27
    go_wp2_with (first | ((with_reducible refine dst_is 2 ?_); refine wl_box 2 _ _ _ rfl ?_; intro W1 e1; rw [← e1] at HB hblk HM; clear e1; have s1 := slice_arr w.heap.size 5 W1))
    go_ret
    have e9 : (valS m 9).length = 32 := hm.hash
    rw [e9]
    refine ⟨_, _, rfl, bytes_range (HM.out.at_hash) hm.hash, .inr (.inr fun b hb => ?_), HB.out⟩
    simp only [Value.ownBlock, Option.some.injEq] at hb
    subst hb
    exact ⟨Nat.le_refl _, _, _, _, hblk.out, by decide⟩
  · go_enter Try.func27, Try.ntmps27
    go_wp2_with (first | ((with_reducible refine dst_is 2 ?_); refine wl_box 2 _ _ _ rfl ?_; intro W1 e1; rw [← e1] at HB hblk HM; clear e1; have c1 := HM.out.cell 37 _ (mc_37 hm)))
    go_ret
    exact ⟨_, _, rfl, HO.out.below HB.out, .inl ⟨rfl, rfl⟩, HB.out⟩
  · go_enter Try.func27, Try.ntmps27
    go_wp2_with (first | ((with_reducible refine dst_is 2 ?_); refine wl_box 2 _ _ _ rfl ?_; intro W1 e1; rw [← e1] at HB hblk HM; clear e1; have s1 := slice_arr w.heap.size 38 W1))
    go_ret
    have e9 : (valS m 13).length = 32 := hm.secret
    rw [e9]
    refine ⟨_, _, rfl, bytes_range (HM.out.at_secret hm) hm.secret, .inr (.inr fun b hb => ?_), HB.out⟩
    simp only [Value.ownBlock, Option.some.injEq] at hb
    subst hb
    exact ⟨Nat.le_refl _, _, _, _, hblk.out, by decide⟩
  · go_enter Try.func27, Try.ntmps27
    go_wp2_with (first | ((with_reducible refine dst_is 2 ?_); refine wl_box 2 _ _ _ rfl ?_; intro W1 e1; rw [← e1] at HB hblk HM; clear e1; have s1 := slice_arr w.heap.size 70 W1))
    go_ret
    have e9 : (valS m 15).length = 32 := hm.point
    rw [e9]
    refine ⟨_, _, rfl, bytes_range (HM.out.at_point hm) hm.point, .inr (.inr fun b hb => ?_), HB.out⟩
    simp only [Value.ownBlock, Option.some.injEq] at hb
    subst hb
    exact ⟨Nat.le_refl _, _, _, _, hblk.out, by decide⟩
  · go_enter Try.func27, Try.ntmps27
    go_wp2_with (first | ((with_reducible refine dst_is 2 ?_); refine wl_box 2 _ _ _ rfl ?_; intro W1 e1; rw [← e1] at HB hblk HM; clear e1; have s1 := slice_arr w.heap.size 102 W1))
    go_ret
    have e9 : (valS m 17).length = 32 := hm.tag
    rw [e9]
    refine ⟨_, _, rfl, bytes_range (HM.out.at_tag hm) hm.tag, .inr (.inr fun b hb => ?_), HB.out⟩
    simp only [Value.ownBlock, Option.some.injEq] at hb
    subst hb
    exact ⟨Nat.le_refl _, _, _, _, hblk.out, by decide⟩
  · go_enter Try.func27, Try.ntmps27
    go_wp2_with (first | ((with_reducible refine dst_is 2 ?_); refine wl_box 2 _ _ _ rfl ?_; intro W1 e1; rw [← e1] at HB hblk HM; clear e1; have c1 := HM.out.cell 134 _ (mc_134 hm)))
    refine (numberI_ok m.number W1 hm.number).mono ?_
    rintro e w2 ⟨v2, rfl, ho2, hb2⟩
    obtain ⟨A2, c2, rfl, _, _⟩ := own_form ho2
    have HO2 := Lib.hid ho2
    have HB2 := Lib.hid (below_of HB.out hb2 HB.out.size)
    clear ho2 hb2 c1
    go_wp2_with fail
    go_ret
    exact ⟨A2, c2, rfl, own_bytes HO2.out, lone_own HO2.out HB.out.size, HB2.out⟩
  · go_enter Try.func27, Try.ntmps27
    go_wp2_with (first | ((with_reducible refine dst_is 2 ?_); refine wl_box 2 _ _ _ rfl ?_; intro W1 e1; rw [← e1] at HB hblk HM; clear e1; have c1 := HM.out.cell 135 _ (mc_135 hm)))
    refine (numberI_ok m.told W1 hm.told).mono ?_
    rintro e w2 ⟨v2, rfl, ho2, hb2⟩
    obtain ⟨A2, c2, rfl, _, _⟩ := own_form ho2
    have HO2 := Lib.hid ho2
    have HB2 := Lib.hid (below_of HB.out hb2 HB.out.size)
    clear ho2 hb2 c1
    go_wp2_with fail
    go_ret
    exact ⟨A2, c2, rfl, own_bytes HO2.out, lone_own HO2.out HB.out.size, HB2.out⟩
  · go_enter Try.func27, Try.ntmps27
    go_wp2_with (first | ((with_reducible refine dst_is 2 ?_); refine wl_box 2 _ _ _ rfl ?_; intro W1 e1; rw [← e1] at HB hblk HM; clear e1; have c1 := HM.out.cell 136 _ (mc_136 hm)))
    go_ret
    exact ⟨_, _, rfl, HR.out.below HB.out, .inr (.inl ⟨rfl, rfl⟩), HB.out⟩
end Go.Proofs.Ytdohenfbehpplaa
/- wire.numbers, hashes, texts: where a message has a field of a type. -/
namespace Go.Proofs.Ytdohenfbehpplaa
set_option linter.unusedVariables false
set_option linter.unusedSimpArgs false
open Go.RowKit
attribute [local irreducible] Go.wpList

theorem tch_cell {b : Nat} {w w' : World} (h : Tch b w w') {a : Addr} (hne : a.block ≠ b) : w'.cell? a = w.cell? a := World.cell?_of_block (h.block a.block hne)
def offN (t : Nat) : Option Nat := if t = 1 then some 1 else if t = 3 then some 2 else if t = 5 then some 3 else if t = 7 then some 4 else if t = 19 then some 134 else if t = 21 then some 135 else none
def offH (t : Nat) : Option Nat := if t = 9 then some 5 else if t = 13 then some 38 else if t = 15 then some 70 else if t = 17 then some 102 else none
def offT (t : Nat) : Option Nat := if t = 11 then some 37 else if t = 23 then some 136 else none
def ptrAt (b : Nat) : Option Nat → Value
  | none => .pointer none
  | some k => .pointer (some ⟨b, k, none⟩)
set_option maxRecDepth 20000 in
theorem numbers_ok (b t : Nat) (w : World) (ht : isType t) : Calls Try.prog 34 #[.pointer (some ⟨b, 0, none⟩), .int .u64 t] w fun e w' => e = .returned (ptrAt b (offN t)) ∧ w = w' := by
  unfold isType at ht
  rcases ht with rfl | rfl | rfl | rfl | rfl | rfl | rfl | rfl | rfl | rfl | rfl | rfl
  all_goals
    go_enter Try.func34, Try.ntmps34
    go_wp2_with fail
    go_ret
    exact ⟨rfl, rfl⟩
set_option maxRecDepth 20000 in
theorem hashes_ok (b t : Nat) (w : World) (ht : isType t) : Calls Try.prog 35 #[.pointer (some ⟨b, 0, none⟩), .int .u64 t] w fun e w' => e = .returned (ptrAt b (offH t)) ∧ w = w' := by
  unfold isType at ht
  rcases ht with rfl | rfl | rfl | rfl | rfl | rfl | rfl | rfl | rfl | rfl | rfl | rfl
  all_goals
    go_enter Try.func35, Try.ntmps35
    go_wp2_with fail
    go_ret
    exact ⟨rfl, rfl⟩
set_option maxRecDepth 20000 in
theorem texts_ok (b t : Nat) (w : World) (ht : isType t) : Calls Try.prog 37 #[.pointer (some ⟨b, 0, none⟩), .int .u64 t] w fun e w' => e = .returned (ptrAt b (offT t)) ∧ w = w' := by
  unfold isType at ht
  rcases ht with rfl | rfl | rfl | rfl | rfl | rfl | rfl | rfl | rfl | rfl | rfl | rfl
  all_goals
    go_enter Try.func37, Try.ntmps37
    go_wp2_with fail
    go_ret
    exact ⟨rfl, rfl⟩
/-- A type is a number's, a hash's or a text's. -/
theorem type_cases {t : Nat} (ht : isType t) : (∃ k, offN t = some k ∧ offH t = none ∧ offT t = none) ∨ (∃ k, offN t = none ∧ offH t = some k ∧ offT t = none) ∨ (∃ k, offN t = none ∧ offH t = none ∧ offT t = some k) := by
  unfold isType at ht
  rcases ht with rfl | rfl | rfl | rfl | rfl | rfl | rfl | rfl | rfl | rfl | rfl | rfl
  all_goals first | exact .inl ⟨_, rfl, rfl, rfl⟩ | exact .inr (.inl ⟨_, rfl, rfl, rfl⟩) | exact .inr (.inr ⟨_, rfl, rfl, rfl⟩)
section
variable {t k : Nat}
theorem offN_cases (h : offN t = some k) : (t = 1 ∧ k = 1) ∨ (t = 3 ∧ k = 2) ∨ (t = 5 ∧ k = 3) ∨ (t = 7 ∧ k = 4) ∨ (t = 19 ∧ k = 134) ∨ (t = 21 ∧ k = 135) := by
  unfold offN at h
  split at h
  · simp at h; omega
  split at h
  · simp at h; omega
  split at h
  · simp at h; omega
  split at h
  · simp at h; omega
  split at h
  · simp at h; omega
  split at h
  · simp at h; omega
  · simp at h
theorem offH_cases (h : offH t = some k) : (t = 9 ∧ k = 5) ∨ (t = 13 ∧ k = 38) ∨ (t = 15 ∧ k = 70) ∨ (t = 17 ∧ k = 102) := by
  unfold offH at h
  split at h
  · simp at h; omega
  split at h
  · simp at h; omega
  split at h
  · simp at h; omega
  split at h
  · simp at h; omega
  · simp at h
theorem offT_cases (h : offT t = some k) : (t = 11 ∧ k = 37) ∨ (t = 23 ∧ k = 136) := by
  unfold offT at h
  split at h
  · simp at h; omega
  split at h
  · simp at h; omega
  · simp at h
end
/-- The number, the hash, the text of a type; with another one. -/
def numV (m : Msg) (t : Nat) : Int := if t = 1 then m.channel else if t = 3 then m.id else if t = 5 then m.amount else if t = 7 then m.expiry else if t = 19 then m.number else m.told
def hashV (m : Msg) (t : Nat) : List UInt8 := if t = 9 then m.hash else if t = 13 then m.secret else if t = 15 then m.point else m.tag
def textV (m : Msg) (t : Nat) : List UInt8 := if t = 11 then m.onion else m.reason
def setN (m : Msg) (t : Nat) (x : Int) : Msg := if t = 1 then { m with channel := x } else if t = 3 then { m with id := x } else if t = 5 then { m with amount := x } else if t = 7 then { m with expiry := x } else if t = 19 then { m with number := x } else { m with told := x }
def setH (m : Msg) (t : Nat) (l : List UInt8) : Msg := if t = 9 then { m with hash := l } else if t = 13 then { m with secret := l } else if t = 15 then { m with point := l } else { m with tag := l }
def setT (m : Msg) (t : Nat) (l : List UInt8) : Msg := if t = 11 then { m with onion := l } else { m with reason := l }
section
variable {t k : Nat} {m to : Msg} {o r : Value} {l : List UInt8}
theorem num_val (h : offN t = some k) : valS m t = nbF (numV m t).toNat := by
  rcases offN_cases h with ⟨rfl, rfl⟩ | ⟨rfl, rfl⟩ | ⟨rfl, rfl⟩ | ⟨rfl, rfl⟩ | ⟨rfl, rfl⟩ | ⟨rfl, rfl⟩ <;> rfl
theorem hash_val (h : offH t = some k) : valS m t = hashV m t := by
  rcases offH_cases h with ⟨rfl, rfl⟩ | ⟨rfl, rfl⟩ | ⟨rfl, rfl⟩ | ⟨rfl, rfl⟩ <;> rfl
theorem text_val (h : offT t = some k) : valS m t = textV m t := by
  rcases offT_cases h with ⟨rfl, rfl⟩ | ⟨rfl, rfl⟩ <;> rfl
theorem num_cp (h : offN t = some k) : cp to m t = setN to t (numV m t) := by
  rcases offN_cases h with ⟨rfl, rfl⟩ | ⟨rfl, rfl⟩ | ⟨rfl, rfl⟩ | ⟨rfl, rfl⟩ | ⟨rfl, rfl⟩ | ⟨rfl, rfl⟩ <;> rfl
theorem hash_cp (h : offH t = some k) : cp to m t = setH to t (hashV m t) := by
  rcases offH_cases h with ⟨rfl, rfl⟩ | ⟨rfl, rfl⟩ | ⟨rfl, rfl⟩ | ⟨rfl, rfl⟩ <;> rfl
theorem text_cp (h : offT t = some k) : cp to m t = setT to t (textV m t) := by
  rcases offT_cases h with ⟨rfl, rfl⟩ | ⟨rfl, rfl⟩ <;> rfl
theorem num_with (h : offN t = some k) : withS m t l = (setN m t (rdI l), decide (0 ≤ rdI l)) := by
  rcases offN_cases h with ⟨rfl, rfl⟩ | ⟨rfl, rfl⟩ | ⟨rfl, rfl⟩ | ⟨rfl, rfl⟩ | ⟨rfl, rfl⟩ | ⟨rfl, rfl⟩ <;> rfl
theorem hash_with (h : offH t = some k) : withS m t l = (setH m t (hashS l).1, (hashS l).2) := by
  rcases offH_cases h with ⟨rfl, rfl⟩ | ⟨rfl, rfl⟩ | ⟨rfl, rfl⟩ | ⟨rfl, rfl⟩ <;> rfl
theorem text_with (h : offT t = some k) : withS m t l = (setT m t l, true) := by
  rcases offT_cases h with ⟨rfl, rfl⟩ | ⟨rfl, rfl⟩ <;> rfl
theorem num_set (h : offN t = some k) (x y : Int) : setN (setN m t x) t y = setN m t y := by
  rcases offN_cases h with ⟨rfl, rfl⟩ | ⟨rfl, rfl⟩ | ⟨rfl, rfl⟩ | ⟨rfl, rfl⟩ | ⟨rfl, rfl⟩ | ⟨rfl, rfl⟩ <;> rfl
theorem num_get (h : offN t = some k) (x : Int) : numV (setN m t x) t = x := by
  rcases offN_cases h with ⟨rfl, rfl⟩ | ⟨rfl, rfl⟩ | ⟨rfl, rfl⟩ | ⟨rfl, rfl⟩ | ⟨rfl, rfl⟩ | ⟨rfl, rfl⟩ <;> rfl
theorem num_same (h : offN t = some k) : setN m t (numV m t) = m := by
  rcases offN_cases h with ⟨rfl, rfl⟩ | ⟨rfl, rfl⟩ | ⟨rfl, rfl⟩ | ⟨rfl, rfl⟩ | ⟨rfl, rfl⟩ | ⟨rfl, rfl⟩ <;> rfl
theorem num_i64 (hm : m.Wf) (t : Nat) : isI64 (numV m t) := by
  unfold numV
  split; exact hm.channel
  split; exact hm.id
  split; exact hm.amount
  split; exact hm.expiry
  split; exact hm.number
  exact hm.told
theorem hash_len (hm : m.Wf) (t : Nat) : (hashV m t).length = 32 := by
  unfold hashV
  split; exact hm.hash
  split; exact hm.secret
  split; exact hm.point
  exact hm.tag
theorem num_wf (hm : m.Wf) (t : Nat) {x : Int} (hx : isI64 x) : (setN m t x).Wf := by
  obtain ⟨a1, a2, a3, a4, a5, a6, a7, a8, a9, a10, a11, a12, a13⟩ := hm
  unfold setN
  split; constructor <;> assumption
  split; constructor <;> assumption
  split; constructor <;> assumption
  split; constructor <;> assumption
  split; constructor <;> assumption
  constructor <;> assumption
theorem hash_wf (hm : m.Wf) (t : Nat) (hx : l.length = 32) : (setH m t l).Wf := by
  obtain ⟨a1, a2, a3, a4, a5, a6, a7, a8, a9, a10, a11, a12, a13⟩ := hm
  unfold setH
  split; constructor <;> assumption
  split; constructor <;> assumption
  split; constructor <;> assumption
  constructor <;> assumption
theorem text_wf (hm : m.Wf) (t : Nat) (hx : l.length ≤ 140737488351232) : (setT m t l).Wf := by
  obtain ⟨a1, a2, a3, a4, a5, a6, a7, a8, a9, a10, a11, a12, a13⟩ := hm
  unfold setT
  split; constructor <;> assumption
  constructor <;> assumption
theorem mc_num (hm : m.Wf) (h : offN t = some k) : (mc m o r)[k]? = some (.int .i64 (numV m t)) := by
  rcases offN_cases h with ⟨rfl, rfl⟩ | ⟨rfl, rfl⟩ | ⟨rfl, rfl⟩ | ⟨rfl, rfl⟩ | ⟨rfl, rfl⟩ | ⟨rfl, rfl⟩
  · exact mc_1
  · exact mc_2
  · exact mc_3
  · exact mc_4
  · exact mc_134 hm
  · exact mc_135 hm
theorem mc_text (hm : m.Wf) (h : offT t = some k) : (mc m o r)[k]? = some (if t = 11 then o else r) := by
  rcases offT_cases h with ⟨rfl, rfl⟩ | ⟨rfl, rfl⟩
  · exact mc_37 hm
  · exact mc_136 hm
theorem off_lt (h : offN t = some k) : k < 137 := by have := offN_cases h; omega
theorem offT_lt (h : offT t = some k) : k < 137 := by have := offT_cases h; omega
variable {w : World} {b : Nat}
theorem MsgIn.num (hM : MsgIn w b m o r) (hm : m.Wf) (h : offN t = some k) : w.cell? ⟨b, k, none⟩ = some (.int .i64 (numV m t)) := hM.cell k _ (mc_num hm h)
theorem MsgIn.hashAt (hM : MsgIn w b m o r) (hm : m.Wf) (h : offH t = some k) : w.rangeAt b k (bvs (hashV m t)) := by
  rcases offH_cases h with ⟨rfl, rfl⟩ | ⟨rfl, rfl⟩ | ⟨rfl, rfl⟩ | ⟨rfl, rfl⟩
  · exact hM.at_hash
  · exact hM.at_secret hm
  · exact hM.at_point hm
  · exact hM.at_tag hm
theorem MsgIn.text (hM : MsgIn w b m o r) (hm : m.Wf) (h : offT t = some k) : w.cell? ⟨b, k, none⟩ = some (if t = 11 then o else r) := hM.cell k _ (mc_text hm h)
theorem MsgIn.putN (hM : MsgIn w b m o r) (hm : m.Wf) (h : offN t = some k) (x : Int) : MsgIn (w.setCell ⟨b, k, none⟩ (.int .i64 x)) b (setN m t x) o r := by
  rcases offN_cases h with ⟨rfl, rfl⟩ | ⟨rfl, rfl⟩ | ⟨rfl, rfl⟩ | ⟨rfl, rfl⟩ | ⟨rfl, rfl⟩ | ⟨rfl, rfl⟩
  · exact hM.s1 x
  · exact hM.s2 x
  · exact hM.s3 x
  · exact hM.s4 x
  · exact hM.s10 hm x
  · exact hM.s11 hm x
theorem MsgIn.putH (hM : MsgIn w b m o r) (hm : m.Wf) (h : offH t = some k) (hl : l.length = 32) : MsgIn (w.setCells b k (bvs l)) b (setH m t l) o r := by
  rcases offH_cases h with ⟨rfl, rfl⟩ | ⟨rfl, rfl⟩ | ⟨rfl, rfl⟩ | ⟨rfl, rfl⟩
  · exact hM.s5 hm l hl
  · exact hM.s7 hm l hl
  · exact hM.s8 hm l hl
  · exact hM.s9 hm l hl
theorem MsgIn.putT (hM : MsgIn w b m o r) (hm : m.Wf) (h : offT t = some k) (v : Value) : MsgIn (w.setCell ⟨b, k, none⟩ v) b (setT m t l) (cpO o v t) (cpR r v t) := by
  rcases offT_cases h with ⟨rfl, rfl⟩ | ⟨rfl, rfl⟩
  · exact hM.s6 hm v l
  · exact hM.s12 hm v l
end
end Go.Proofs.Ytdohenfbehpplaa
/- slices.Reverse at []byte: a contract. -/
namespace Go.Proofs.Ytdohenfbehpplaa
set_option linter.unusedVariables false
set_option linter.unusedSimpArgs false
open Go.RowKit
attribute [local irreducible] Go.wpList

/-- m is l, its first i elements exchanged with its last ones. -/
def Turned (l m : List UInt8) (i : Nat) : Prop := m.length = l.length ∧ ∀ p, p < l.length → m[p]? = if p < i ∨ l.length ≤ p + i then l[l.length - 1 - p]? else l[p]?
theorem turned_zero (l : List UInt8) : Turned l l 0 := ⟨rfl, fun p hp => by rw [if_neg (by omega)]⟩
theorem turned_end {l m : List UInt8} {i : Nat} (h : Turned l m i) (hi : l.length ≤ 2 * i + 1) : m = l.reverse := by
  apply List.ext_getElem?
  intro p
  by_cases hp : p < l.length
  · rw [h.2 p hp, List.getElem?_reverse hp]
    by_cases c : p < i ∨ l.length ≤ p + i
    · rw [if_pos c]
    · rw [if_neg c, show l.length - 1 - p = p by omega]
  · rw [List.getElem?_eq_none (by rw [h.1]; omega), List.getElem?_eq_none (by simp; omega)]
theorem turned_step {l m : List UInt8} {i j : Nat} (h : Turned l m i) (hij : i + j + 1 = l.length) (hlt : i < j) {x y : UInt8} (hx : m[i]? = some x) (hy : m[j]? = some y) : Turned l ((m.set i y).set j x) (i + 1) := by
  have hl := h.1
  have ei := h.2 i (by omega)
  have ej := h.2 j (by omega)
  rw [if_neg (by omega)] at ei ej
  refine ⟨by simp [h.1], fun p hp => ?_⟩
  rw [List.getElem?_set, List.getElem?_set]
  by_cases c1 : j = p
  · subst c1
    rw [if_pos rfl, if_pos (by simp; omega), if_pos (by omega), show l.length - 1 - j = i by omega, ← ei, hx]
  · rw [if_neg c1]
    by_cases c2 : i = p
    · subst c2
      rw [if_pos rfl, if_pos (by omega), if_pos (by omega), show l.length - 1 - i = j by omega, ← ej, hy]
    · rw [if_neg c2, h.2 p hp]
      by_cases c3 : p < i ∨ l.length ≤ p + i
      · rw [if_pos c3, if_pos (by omega)]
      · rw [if_neg c3, if_neg (by omega)]
theorem bvs_set (l : List UInt8) (j : Nat) (x : UInt8) : (bvs l).set j (bv x) = bvs (l.set j x) := by simp [bvs, List.map_set]
set_option maxRecDepth 20000 in
set_option maxHeartbeats 1600000 in
theorem reverse_ok (l : List UInt8) (v : Value) (base : Nat) (w : World) (h : w.ownsRow base 5 1 v l.length (bvs l)) (hb : base ≤ w.heap.size) :
    Calls Try.prog 51 #[v] w fun e w' => e = .returned (.tuple #[]) ∧ w'.ownsRow base 5 1 v l.reverse.length (bvs l.reverse) ∧ Below base w w' := by
  obtain ⟨A, c, rfl, h1, h2⟩ := own_form h
  have HH := Lib.hid h
  by_cases h0 : l.length = 0
  · obtain rfl := List.eq_nil_of_length_eq_zero h0
    clear h h0
    go_enter Try.func51, Try.ntmps51
    go_wp2_with fail
    refine wp_loop_rounds 1 ?_
    rw [rounds_succ]
    go_wp2_with fail
    go_end0
    exact ⟨rfl, HH.out, Below.refl _ _ |>.mono hb⟩
  · obtain ⟨g, rfl⟩ : ∃ g, A = some ⟨g, 0, none⟩ := by
      rcases h.2 with ⟨e, h0'⟩ | ⟨g, cap, cur, e, _⟩
      · omega
      · simp only [Value.slice.injEq] at e; exact ⟨g, e.1⟩
    clear h
    have HL0 := Lib.hid h0
    clear h0
    go_enter Try.func51, Try.ntmps51
    go_wp2_with fail
    go_loopw [2, 3] (fun v2 v3 wr => ∃ (i : Nat) (j : Int) (m : List UInt8), v2 = .int .i64 i ∧ v3 = .int .i64 j ∧ (i : Int) + j + 1 = l.length ∧ -1 ≤ j ∧ Hid (Turned l m i) ∧ Hid (wr.ownsRow base 5 1 (.slice (some ⟨g, 0, none⟩) l.length c) l.length (bvs m)) ∧ Hid (Below base w wr)) (fun v2 _ _ => l.length - (intOf v2).toNat)
    case atStart => exact ⟨0, (l.length : Int) - 1, l, rfl, rfl, by omega, by omega, turned_zero l, HH.out, Below.refl _ _⟩
    case round =>
      obtain ⟨i, j, m, rfl, rfl, hij, hj, HT, HO, HB⟩ := hrel
      by_cases hlt : (i : Int) < j
      · obtain ⟨j, rfl⟩ : ∃ n : Nat, j = n := ⟨j.toNat, by omega⟩
        have hml : m.length = l.length := HT.out.1
        obtain ⟨x, hx⟩ : ∃ x, m[i]? = some x := ⟨m[i]'(by omega), List.getElem?_eq_getElem _⟩
        obtain ⟨y, hy⟩ : ∃ y, m[j]? = some y := ⟨m[j]'(by omega), List.getElem?_eq_getElem _⟩
        have ci : wr.cell? ⟨g, i, none⟩ = some (.int .u8 x.toNat) := by
          rw [HO.out.cellAt i (by omega)]; simp [bvs, hx, bv]
        have cj : wr.cell? ⟨g, j, none⟩ = some (.int .u8 y.toNat) := by
          rw [HO.out.cellAt j (by omega)]; simp [bvs, hy, bv]
        have fi := HO.out.frozenAt i
        have fj := HO.out.frozenAt j
        have HS := Lib.hid (turned_step HT.out (i := i) (j := j) (by omega) (by omega) hx hy)
        obtain ⟨s1, g1⟩ := HO.out.stored i (bv y)
        obtain ⟨s2, g2⟩ := s1.stored j (bv x)
        rw [bvs_set, bvs_set] at s2
        have HS2 := Lib.hid s2
        have HG1 := Lib.hid g1
        have HG2 := Lib.hid g2
        have hijn : i ≠ j := by omega
        clear hx hy s1 s2 g1 g2 hml
        go_wp2_with fail
        go_region
        have ey : (Value.int IntKind.u8 (y.toNat : Int)) = bv y := rfl
        have ex : (Value.int IntKind.u8 (x.toNat : Int)) = bv x := rfl
        rw [ey, ex]
        have HB2 : Hid (Below base w ((wr.setCell ⟨g, i, none⟩ (bv y)).setCell ⟨g, j, none⟩ (bv x)).drew) :=
          ((HB.out.grown HG1.out (Nat.le_trans hb HB.out.size) (fun k hk => by simp only [Option.some.injEq] at hk; subst hk; exact own_base HO.out _ rfl)).grown HG2.out (Nat.le_trans hb (Nat.le_trans HB.out.size HG1.out.size)) (fun k hk => by simp only [Option.some.injEq] at hk; subst hk; exact own_base HO.out _ rfl)).drew
        have HO2 := Lib.hid (own_below HS2.out ((Below.refl _ _).drew))
        clear HS2 HG1 HG2 HO ci cj fi fj HB ex ey
        generalize ((wr.setCell ⟨g, i, none⟩ (bv y)).setCell ⟨g, j, none⟩ (bv x)).drew = W5 at *
        go_wp2_with fail
        go_roundw
        case rel => exact ⟨i + 1, (j : Int) - 1, _, by go_num, rfl, by omega, by omega, HS.out, HO2.out, HB2.out⟩
        case measure => simp [intOf]; omega
      · have HE := Lib.hid (turned_end HT.out (by omega))
        go_wp2_with fail
        go_end0
        refine ⟨rfl, ?_, HB.out⟩
        have := HO.out
        rw [HE.out] at this
        simpa using this
end Go.Proofs.Ytdohenfbehpplaa
/- wire.get: a contract. -/
namespace Go.Proofs.Ytdohenfbehpplaa
set_option linter.unusedVariables false
set_option linter.unusedSimpArgs false
open Go.RowKit
attribute [local irreducible] Go.wpList
attribute [local go_sem ↓] ldm stm bdm

/-- Bytes that are the message's own slices, or lie in its block, or in a block made since that holds no records. -/
def LoneB (w w' : World) (b : Nat) (o r v : Value) (t : Nat) : Prop := (t = 11 ∧ v = o) ∨ (t = 23 ∧ v = r) ∨ v.ownBlock = some b ∨ ∀ k, v.ownBlock = some k → w.heap.size ≤ k ∧ ∃ C ty fr, w'.heap[k]? = some (.cells C ty fr) ∧ ty ≠ 37
theorem loneB_own {w w' : World} {b : Nat} {o r v : Value} {t n : Nat} {xs : List Value} {base : Nat} (h : w'.ownsRow base 5 1 v n xs) (hb : w.heap.size ≤ base) : LoneB w w' b o r v t := by
  refine .inr (.inr (.inr fun b hv => ?_))
  rcases h.2 with ⟨rfl, _⟩ | ⟨g, cap, cur, rfl, e2, e3, _⟩
  · simp [Value.ownBlock] at hv
  · simp only [Value.ownBlock, Option.some.injEq] at hv
    subst hv
    exact ⟨Nat.le_trans hb e2, _, _, _, e3, by decide⟩
set_option maxRecDepth 20000 in
set_option maxHeartbeats 1600000 in
theorem get_num (m : Msg) (b t k : Nat) (o r : Value) (w : World) (hm : m.Wf) (hM : MsgIn w b m o r) (ht : isType t) (hk : offN t = some k) :
    Calls Try.prog 31 #[.pointer (some ⟨b, 0, none⟩), .int .u64 t] w fun e w' => ∃ v', e = .returned v' ∧ w'.ownsRow w.heap.size 5 1 v' (valS m t).length (bvs (valS m t)) ∧ Below w.heap.size w w' := by
  have hx := num_i64 hm t
  unfold isI64 at hx
  have hc := hM.num hm hk
  obtain ⟨x, hxe⟩ : ∃ x, x = numV m t := ⟨_, rfl⟩
  have HV : Hid (valS m t = nbF x.toNat) := by show _ = _; rw [num_val hk, hxe]
  rw [← hxe] at hx hc
  obtain ⟨N, hN⟩ : ∃ N, N = nbF x.toNat := ⟨_, rfl⟩
  have hN8 : N.length ≤ 8 := by rw [hN]; exact nbF_length 8 _ (by omega)
  have HN := Lib.hid hN
  have HK := Lib.hid hk
  have HTY := Lib.hid ht
  clear hN hxe hM hk ht
  go_enter Try.func31, Try.ntmps31
  go_wp2_with fail
  refine (numbers_ok b t w HTY.out).mono ?_
  rw [HK.out]
  rintro e w' ⟨rfl, rfl⟩
  simp only [ptrAt]
  go_wp2_with fail
  go_loopw [6, 7] (fun v6 v7 wr => ∃ (y : Int) (bs : List UInt8), v7 = .int .i64 y ∧ -9223372036854775808 ≤ y ∧ y ≤ 9223372036854775807 ∧ Hid (nbF y.toNat ++ bs.reverse = N) ∧ Hid (wr.ownsRow w.heap.size 5 1 v6 bs.length (bvs bs)) ∧ Hid (Below w.heap.size w wr)) (fun _ v7 _ => (intOf v7).toNat)
  case atStart => exact ⟨x, [], rfl, hx.1, hx.2, by show _ = _; rw [HN.out]; simp, World.ownsRow_nil _ _ _ _, Below.refl _ _⟩
  case round =>
    obtain ⟨y, bs, rfl, hy0, hy, HE, HO, HB⟩ := hrel
    have hsr := HB.out.size
    obtain ⟨A6, c6, e6, _, _⟩ := own_form HO.out
    subst e6
    by_cases h0 : 0 < y
    · obtain ⟨n, rfl⟩ : ∃ n : Nat, y = n := ⟨y.toNat, by omega⟩
      have hlen : bs.length + 1 ≤ 8 := by have := congrArg List.length HE.out; rw [List.length_append, Int.toNat_natCast, nbF_pos (by omega)] at this; simp at this; omega
      have HE2 : Hid (nbF (n / 256) ++ (bs ++ [UInt8.ofNat n]).reverse = N) := by show _ = _; rw [← HE.out, Int.toNat_natCast, nbF_pos (n := n) (by omega), List.append_assoc]; simp
      have hlit : Hid ((wr.alloc (.cells #[.int .u8 ((n : Int) % 256)] 5)).ownsRow w.heap.size 5 1 (.slice (some ⟨wr.heap.size, 0, none⟩) 1 1) [UInt8.ofNat n].length (bvs [UInt8.ofNat n])) := by
        have := own_lit wr w.heap.size 5 [UInt8.ofNat n] 1 rfl hsr (by omega)
        have e : bvs [UInt8.ofNat n] = [.int .u8 ((n : Int) % 256)] := by simp [bvs, bv]
        rw [e] at this ⊢
        exact this
      have HOA := Lib.hid (HO.out.alloc (.cells #[.int .u8 ((n : Int) % 256)] 5))
      have HBA := Lib.hid (HB.out.alloc hsr (.cells #[.int .u8 ((n : Int) % 256)] 5))
      clear HE
      go_wp2_with (at_builtin; refine wl_app 25 _ _ _ _ Try.underlying22 info_u8 w.heap.size _ bs rfl HOA.out _ [UInt8.ofNat n] rfl (own_bytes hlit.out) ?hl ?hb ?_; (case hl => simp; omega); (case hb => simp; omega); intro v4 w4 ho4 hg4 hat4; have HB4 := Lib.hid (below_append HBA.out HOA.out hg4 (by simp; omega) (Nat.le_refl _)); have HO4 := Lib.hid ho4; clear ho4 hg4 hat4)
      go_roundw
      case rel => exact ⟨((n / 256 : Nat) : Int), bs ++ [UInt8.ofNat n], by go_num, by omega, by omega, HE2, HO4, HB4⟩
      case measure => simp [intOf]; omega
    · have HE2 : Hid (bs.reverse = N) := by show _ = _; rw [← HE.out, show y.toNat = 0 by omega, nbF_zero]; simp
      go_wp2_with fail
      refine (reverse_ok bs _ w.heap.size _ HO.out hsr).mono ?_
      rintro e w3 ⟨rfl, ho3, hb3⟩
      have HO3 := Lib.hid ho3
      have HB3 : Hid (Below w.heap.size w w3) := HB.out.trans hb3
      clear ho3 hb3
      go_wp2_with fail
      go_ret
      refine ⟨_, rfl, ?_, HB3.out⟩
      rw [HV.out, ← HN.out, ← HE2.out]
      exact HO3.out
set_option maxRecDepth 20000 in
set_option maxHeartbeats 1600000 in
theorem get_hash (m : Msg) (b t k : Nat) (o r : Value) (w : World) (hm : m.Wf) (hM : MsgIn w b m o r) (ht : isType t) (hn : offN t = none) (hk : offH t = some k) :
    Calls Try.prog 31 #[.pointer (some ⟨b, 0, none⟩), .int .u64 t] w fun e w' => e = .returned (.slice (some ⟨b, k, none⟩) 32 32) ∧ w = w' := by
  have HK := Lib.hid hk
  have HN := Lib.hid hn
  have HTY := Lib.hid ht
  clear hM hk ht hn
  have hsl := slice_arr b k
  go_enter Try.func31, Try.ntmps31
  go_wp2_with fail
  refine (numbers_ok b t w HTY.out).mono ?_
  rw [HN.out]
  rintro e w' ⟨rfl, rfl⟩
  simp only [ptrAt]
  go_wp2_with fail
  refine (hashes_ok b t w HTY.out).mono ?_
  rw [HK.out]
  rintro e w' ⟨rfl, rfl⟩
  simp only [ptrAt]
  go_wp2_with fail
  go_ret
  exact ⟨rfl, rfl⟩
set_option maxRecDepth 20000 in
set_option maxHeartbeats 1600000 in
theorem get_text (m : Msg) (b t k : Nat) (o r : Value) (w : World) (hm : m.Wf) (hM : MsgIn w b m o r) (ht : isType t) (hn : offN t = none) (hh : offH t = none) (hk : offT t = some k) :
    Calls Try.prog 31 #[.pointer (some ⟨b, 0, none⟩), .int .u64 t] w fun e w' => e = .returned (if t = 11 then o else r) ∧ w = w' := by
  have hc := hM.text hm hk
  obtain ⟨v, hv⟩ : ∃ v, v = if t = 11 then o else r := ⟨_, rfl⟩
  rw [← hv] at hc ⊢
  have HK := Lib.hid hk
  have HN := Lib.hid hn
  have HH := Lib.hid hh
  have HTY := Lib.hid ht
  clear hM hk ht hn hh hv
  go_enter Try.func31, Try.ntmps31
  go_wp2_with fail
  refine (numbers_ok b t w HTY.out).mono ?_
  rw [HN.out]
  rintro e w' ⟨rfl, rfl⟩
  simp only [ptrAt]
  go_wp2_with fail
  refine (hashes_ok b t w HTY.out).mono ?_
  rw [HH.out]
  rintro e w' ⟨rfl, rfl⟩
  simp only [ptrAt]
  go_wp2_with fail
  refine (texts_ok b t w HTY.out).mono ?_
  rw [HK.out]
  rintro e w' ⟨rfl, rfl⟩
  simp only [ptrAt]
  go_wp2_with fail
  go_ret
  exact ⟨rfl, rfl⟩
/-- wire.get. -/
theorem get_ok (m : Msg) (b t : Nat) (o r : Value) (w : World) (hm : m.Wf) (hM : MsgIn w b m o r) (ho : Bytes w o m.onion) (hr : Bytes w r m.reason) (ht : isType t) :
    Calls Try.prog 31 #[.pointer (some ⟨b, 0, none⟩), .int .u64 t] w fun e w' => ∃ A c, e = .returned (.slice A (valS m t).length c) ∧ Bytes w' (.slice A (valS m t).length c) (valS m t) ∧ LoneB w w' b o r (.slice A (valS m t).length c) t ∧ Below w.heap.size w w' := by
  rcases type_cases ht with ⟨k, h1, h2, h3⟩ | ⟨k, h1, h2, h3⟩ | ⟨k, h1, h2, h3⟩
  · refine (get_num m b t k o r w hm hM ht h1).mono ?_
    rintro e w' ⟨v', rfl, ho', hb'⟩
    obtain ⟨A, c, rfl, _⟩ := own_form ho'
    exact ⟨A, c, rfl, own_bytes ho', loneB_own ho' (Nat.le_refl _), hb'⟩
  · refine (get_hash m b t k o r w hm hM ht h1 h2).mono ?_
    rintro e w' ⟨rfl, rfl⟩
    rw [hash_val h2, hash_len hm t]
    exact ⟨_, _, rfl, bytes_range (hM.hashAt hm h2) (hash_len hm t), .inr (.inr (.inl rfl)), Below.refl _ _⟩
  · refine (get_text m b t k o r w hm hM ht h1 h2 h3).mono ?_
    rintro e w' ⟨rfl, rfl⟩
    rw [text_val h3]
    rcases offT_cases h3 with ⟨rfl, rfl⟩ | ⟨rfl, rfl⟩
    · obtain ⟨A, n, c, rfl⟩ := ho.slice
      obtain rfl := bytes_len ho
      exact ⟨A, c, rfl, ho, .inl ⟨rfl, rfl⟩, Below.refl _ _⟩
    · obtain ⟨A, n, c, rfl⟩ := hr.slice
      obtain rfl := bytes_len hr
      exact ⟨A, c, rfl, hr, .inr (.inl ⟨rfl, rfl⟩), Below.refl _ _⟩
end Go.Proofs.Ytdohenfbehpplaa
/- wire.set: a contract. -/
namespace Go.Proofs.Ytdohenfbehpplaa
set_option linter.unusedVariables false
set_option linter.unusedSimpArgs false
open Go.RowKit
attribute [local irreducible] Go.wpList
attribute [local go_sem ↓] ldm stm bdm

theorem wrap_i64_nat (n : Nat) (h : n < 9223372036854775808) : IntKind.i64.wrap (n : Int) = n := by
  rw [IntKind.wrap_i64]; omega
set_option maxRecDepth 20000 in
theorem or_i64 (x : Nat) (c : UInt8) (h : x * 256 + c.toNat < 9223372036854775808) : bits BinOp.or IntKind.i64 ((x : Int) * 256) (c.toNat : Int) = ((x * 256 + c.toNat : Nat) : Int) := by
  have hc := c.toNat_lt
  have h' : x < 72057594037927936 := by omega
  have e3 : x * 256 ||| c.toNat = x * 256 + c.toNat := by
    have := Nat.shiftLeft_add_eq_or_of_lt (i := 8) (b := c.toNat) (by omega) x
    rw [Nat.shiftLeft_eq] at this; simpa using this.symm
  rw [show ((x : Int) * 256) = ((x * 256 : Nat) : Int) by omega]
  show IntKind.i64.wrap ((BitVec.ofInt 64 ((x * 256 : Nat) : Int) ||| BitVec.ofInt 64 ((c.toNat : Nat) : Int)).toNat : Int) = _
  rw [BitVec.toNat_or, BitVec.ofInt_natCast, BitVec.ofInt_natCast, BitVec.toNat_ofNat, BitVec.toNat_ofNat, Nat.mod_eq_of_lt (by omega), Nat.mod_eq_of_lt (by omega), e3]
  exact wrap_i64_nat _ h
theorem bvs_at {l : List UInt8} {j : Nat} {v : Value} (h : (bvs l)[j]? = some v) : ∃ hj : j < l.length, v = bv l[j] := by
  simp only [bvs, List.getElem?_map, Option.map_eq_some_iff] at h
  obtain ⟨x, hx, rfl⟩ := h
  obtain ⟨hj, rfl⟩ := List.getElem?_eq_some_iff.1 hx
  exact ⟨hj, rfl⟩
theorem run_copy_bytes {W : World} {b k n c : Nat} {A : Option Addr} {l : List UInt8} (ty : TypeId) (h : Bytes W (.slice A n c) l) (ht : W.there b k 32) :
    (Builtin.copy_ #[22, 22] ty #[.slice (some ⟨b, k, none⟩) 32 32, .slice A n c]).run Try.prog W = .ok (.int .i64 ((min l.length 32 : Nat) : Int)) (W.setCells b k (bvs (l.take 32))) := by
  obtain rfl := bytes_len h
  rcases h.open with ⟨rfl, A', c', e, _, _⟩ | ⟨h0, b', off, c', e, _, _, hc⟩
  · exact run_copy_none W _ _ ty _ _ _ _ _ _ _ Try.underlying22 size_u8 rfl
  · simp only [Value.slice.injEq] at e
    obtain ⟨rfl, _, rfl⟩ := e
    have hl : (bvs (l.take 32)).length = min l.length 32 := by simp [bvs, Nat.min_comm]
    have := run_copy_cells (P := Try.prog) W 22 22 ty 5 b k 32 32 ⟨b', off, none⟩ l.length c (bvs (l.take 32)) Try.underlying22 size_u8 hl (fun j v hj => by
      obtain ⟨hj1, rfl⟩ := bvs_at hj
      rw [add_off, List.getElem_take]
      exact hc j (by rw [List.length_take] at hj1; omega)) (fun j hj => (ht j (by omega)).1) (fun j hj => (ht j (by omega)).2) (bvs_one _)
    rw [this, hl]
    rfl
theorem wl_copy {ops : Array Oper} {rest : List Oper} {a : Act} {Q : Exit → Act → World → Prop} {W : World} {ty : TypeId} {pos : String} {after : Array Edge} (d : Tmp) (s x : Operand) (b k n c : Nat) (A : Option Addr) (l : List UInt8)
    (hs : a.eval s = .slice (some ⟨b, k, none⟩) 32 32) (hx : a.eval x = .slice A n c) (h : Bytes W (.slice A n c) l) (ht : W.there b k 32)
    (hk : ∀ W', W' = W.setCells b k (bvs (l.take 32)) → wpList Try.prog ops Q rest (a.put (some d) (.int .i64 ((min l.length 32 : Nat) : Int))) W') :
    wpList Try.prog ops Q ({ dst := some d, op := .call { callee := .builtin .copy, args := #[s, x], argTypes := #[22, 22] }, type := ty, pos := pos, after := after, guard := none } :: rest) a W := by
  refine wpList_plain rfl fun K hK => ?_
  unfold Oper.wp execOp
  simp only [resolve, invoke, builtin, Sem.run_bind, Sem.run_pure, Result.andThen_ok, List.map_toArray, List.map_cons, List.map_nil, hs, hx, run_copy_bytes ty h ht]
  exact hK _ _ (hk _ rfl)
theorem MsgIn.thereH {w : World} {b t k : Nat} {m : Msg} {o r : Value} (hM : MsgIn w b m o r) (h : offH t = some k) : w.there b k 32 := fun j hj => by
  have := offH_cases h
  exact hM.ok (k + j) (by omega)
set_option maxRecDepth 20000 in
set_option maxHeartbeats 1600000 in
theorem set_hash (m : Msg) (b t k : Nat) (l : List UInt8) (o r v : Value) (w : World) (hm : m.Wf) (hM : MsgIn w b m o r) (hv : Bytes w v l) (hl : l.length ≤ 140737488351232) (ht : isType t) (hn : offN t = none) (hk : offH t = some k) :
    Calls Try.prog 23 #[.pointer (some ⟨b, 0, none⟩), .int .u64 t, v] w fun e w' => e = .returned (.bool (withS m t l).2) ∧ ((withS m t l).2 = true → MsgIn w' b (withS m t l).1 o r) ∧ Tch b w w' := by
  rw [hash_with hk]
  obtain ⟨A, n, c, rfl⟩ := hv.slice
  obtain rfl := bytes_len hv
  have HK := Lib.hid hk
  have HN := Lib.hid hn
  have HTY := Lib.hid ht
  have HV := Lib.hid hv
  have HT := Lib.hid (hM.thereH hk)
  have HE : Hid ((hashS l).2 = decide (l.length = 32)) := by show _ = _; unfold hashS; split <;> simp [*]
  have HP : Hid (l.length = 32 → MsgIn (w.setCells b k (bvs (l.take 32))) b (setH m t (hashS l).1) o r) := fun h => by
    rw [List.take_of_length_le (by omega)]
    have e : (hashS l).1 = l := by unfold hashS; rw [if_pos h]
    rw [e]
    exact hM.putH hm hk h
  have HTc := Lib.hid (tch_setCells b (bvs (l.take 32)) k w)
  have hsl := slice_arr b k
  clear hM hk ht hn hv
  have main (q1 : ((min l.length 32 : Nat) : Int) = 32 ∨ ((min l.length 32 : Nat) : Int) ≠ 32) : True := trivial
  by_cases h32 : l.length = 32
  · have hq : (((min l.length 32 : Nat) : Int) == 32) = true := by rw [beq_iff_eq]; omega
    have hq2 : ((l.length : Int) == 32) = true := by rw [beq_iff_eq]; omega
    have HQ := Lib.hid h32
    clear h32 main
    go_enter Try.func23, Try.ntmps23
    go_wp2_with fail
    refine (numbers_ok b t w HTY.out).mono ?_
    rw [HN.out]
    rintro e w' ⟨rfl, rfl⟩
    simp only [ptrAt]
    go_wp2_with fail
    refine (hashes_ok b t w HTY.out).mono ?_
    rw [HK.out]
    rintro e w' ⟨rfl, rfl⟩
    simp only [ptrAt]
    go_wp2_with (first | ((with_reducible refine dst_is 67 ?_); refine wl_copy 67 _ _ b k _ c A l rfl rfl HV.out HT.out ?_; intro W1 e1; rw [← e1] at HP HTc; clear e1))
    go_ret
    exact ⟨by rw [HE.out, HQ.out]; rfl, fun _ => HP.out HQ.out, HTc.out⟩
  · have hq2 : ((l.length : Int) == 32) = false := by rw [beq_eq_false_iff_ne]; omega
    have HQ := Lib.hid h32
    have hcases : (((min l.length 32 : Nat) : Int) == 32) = true ∨ (((min l.length 32 : Nat) : Int) == 32) = false := by cases (((min l.length 32 : Nat) : Int) == 32) <;> simp
    clear h32 main
    rcases hcases with hq | hq
    all_goals
      go_enter Try.func23, Try.ntmps23
      go_wp2_with fail
      refine (numbers_ok b t w HTY.out).mono ?_
      rw [HN.out]
      rintro e w' ⟨rfl, rfl⟩
      simp only [ptrAt]
      go_wp2_with fail
      refine (hashes_ok b t w HTY.out).mono ?_
      rw [HK.out]
      rintro e w' ⟨rfl, rfl⟩
      simp only [ptrAt]
      go_wp2_with (first | ((with_reducible refine dst_is 67 ?_); refine wl_copy 67 _ _ b k _ c A l rfl rfl HV.out HT.out ?_; intro W1 e1; rw [← e1] at HP HTc; clear e1))
      go_ret
      have e3 : (hashS l).2 = false := by rw [HE.out]; simpa using HQ.out
      refine ⟨by rw [e3]; rfl, fun h => ?_, HTc.out⟩
      rw [e3] at h; cases h
set_option maxRecDepth 20000 in
set_option maxHeartbeats 1600000 in
theorem set_text (m : Msg) (b t k : Nat) (l : List UInt8) (o r v : Value) (w : World) (hm : m.Wf) (hM : MsgIn w b m o r) (hv : Bytes w v l) (ht : isType t) (hn : offN t = none) (hh : offH t = none) (hk : offT t = some k) :
    Calls Try.prog 23 #[.pointer (some ⟨b, 0, none⟩), .int .u64 t, v] w fun e w' => e = .returned (.bool true) ∧ MsgIn w' b (setT m t l) (cpO o v t) (cpR r v t) ∧ Tch b w w' := by
  obtain ⟨A, n, c, rfl⟩ := hv.slice
  have HK := Lib.hid hk
  have HN := Lib.hid hn
  have HH := Lib.hid hh
  have HTY := Lib.hid ht
  obtain ⟨f1, f2⟩ := hM.ok k (offT_lt hk)
  obtain ⟨u, hu⟩ := Option.isSome_iff_exists.1 f1
  have HP := Lib.hid (hM.putT hm hk (l := l) (.slice A n c))
  have HTc := Lib.hid (tch_setCell w b k (.slice A n c))
  clear hM hk ht hn hv f1 hh
  go_enter Try.func23, Try.ntmps23
  go_wp2_with fail
  refine (numbers_ok b t w HTY.out).mono ?_
  rw [HN.out]
  rintro e w' ⟨rfl, rfl⟩
  simp only [ptrAt]
  go_wp2_with fail
  refine (hashes_ok b t w HTY.out).mono ?_
  rw [HH.out]
  rintro e w' ⟨rfl, rfl⟩
  simp only [ptrAt]
  go_wp2_with fail
  refine (texts_ok b t w HTY.out).mono ?_
  rw [HK.out]
  rintro e w' ⟨rfl, rfl⟩
  simp only [ptrAt]
  go_wp2_with fail
  go_ret
  exact ⟨rfl, HP.out, HTc.out⟩
theorem rdI_hi {x : UInt8} {r : List UInt8} (h : badN (x :: r) = true) : 8 < (x :: r).length ∨ x = 0 ∨ ((x :: r).length = 8 ∧ 127 < x.toNat) := by
  simp only [badN, Bool.or_eq_true, decide_eq_true_eq, beq_iff_eq, Bool.and_eq_true] at h
  exact h
set_option maxRecDepth 20000 in
set_option maxHeartbeats 1600000 in
theorem set_num (m : Msg) (b t k : Nat) (l : List UInt8) (o r v : Value) (w : World) (hm : m.Wf) (hM : MsgIn w b m o r) (hv : Bytes w v l) (hvb : ∀ g, v.ownBlock = some g → g ≠ b) (ht : isType t) (hk : offN t = some k) (h0 : numV m t = 0) :
    Calls Try.prog 23 #[.pointer (some ⟨b, 0, none⟩), .int .u64 t, v] w fun e w' => e = .returned (.bool (withS m t l).2) ∧ ((withS m t l).2 = true → MsgIn w' b (withS m t l).1 o r) ∧ Tch b w w' := by
  rw [num_with hk]
  have HK := Lib.hid hk
  have HTY := Lib.hid ht
  have HRF : Hid (Tch b w w) := ⟨rfl, rfl, rfl, rfl, fun _ _ => rfl⟩
  have HM := Lib.hid hM
  rcases hv.open with ⟨rfl, A, c, rfl, _, _⟩ | ⟨hp, bl, off, c, rfl, hc1, hc2, hc⟩
  · have HE : Hid (setN m t (rdI []) = m) := by show _ = _; have e : rdI [] = numV m t := by rw [h0]; rfl
                                                rw [e]; exact num_same hk
    clear hM hk ht hv hvb h0
    go_enter Try.func23, Try.ntmps23
    go_wp2_with fail
    refine (numbers_ok b t w HTY.out).mono ?_
    rw [HK.out]
    rintro e w' ⟨rfl, rfl⟩
    simp only [ptrAt]
    go_wp2_with fail
    refine wp_loop_rounds 1 ?_
    rw [rounds_succ]
    go_wp2_with fail
    go_ret
    exact ⟨rfl, fun _ => by rw [HE.out]; exact HM.out, HRF.out⟩
  · have hne : bl ≠ b := hvb bl rfl
    obtain ⟨x, rr, hxl⟩ : ∃ x rr, l = x :: rr := by cases l with | nil => simp at hp | cons x rr => exact ⟨x, rr, rfl⟩
    have hl0 : l[0] = x := by subst hxl; rfl
    have hc0 : w.cell? ⟨bl, off, none⟩ = some (.int .u8 x.toNat) := by have := hc 0 hp; rw [hl0] at this; exact this
    have hxx := x.toNat_lt
    by_cases hbad : badN l = true
    · have HE : Hid (decide (0 ≤ rdI l) = false) := by show _ = _; rw [rdI_bad hbad]; rfl
      have hE2 : decide (0 ≤ rdI l) = true → MsgIn w b (setN m t (rdI l)) o r := fun h => by rw [HE.out] at h; cases h
      have HE2 := Lib.hid hE2
      have hcs : 8 < l.length ∨ x = 0 ∨ (l.length = 8 ∧ 127 < x.toNat) := by subst hxl; exact rdI_hi hbad
      clear hM hk ht hv hvb h0 hbad hxl hE2 hl0 hc
      rw [HE.out]
      rw [HE.out] at HE2
      by_cases g8 : 8 < l.length
      · have g8' : (8 : Int) < l.length := by omega
        clear hcs g8
        go_enter Try.func23, Try.ntmps23
        go_wp2_with fail
        refine (numbers_ok b t w HTY.out).mono ?_
        rw [HK.out]
        rintro e w' ⟨rfl, rfl⟩
        simp only [ptrAt]
        go_wp2_with fail
        go_ret
        exact ⟨rfl, HE2.out, HRF.out⟩
      · have g8' : ¬ (8 : Int) < l.length := by omega
        have g0' : (0 : Int) < l.length := by omega
        by_cases hx0 : x = 0
        · subst hx0
          have hc0' : w.cell? ⟨bl, off, none⟩ = some (.int .u8 0) := hc0
          clear hcs g8 hc0 hxx
          go_enter Try.func23, Try.ntmps23
          go_wp2_with fail
          refine (numbers_ok b t w HTY.out).mono ?_
          rw [HK.out]
          rintro e w' ⟨rfl, rfl⟩
          simp only [ptrAt]
          go_wp2_with fail
          go_ret
          exact ⟨rfl, HE2.out, HRF.out⟩
        · have hq : l.length = 8 ∧ 127 < x.toNat := by rcases hcs with h | h | h; exact absurd h g8; exact absurd h hx0; exact h
          have hzb : ((x.toNat : Int) == 0) = false := by rw [beq_eq_false_iff_ne]; omega
          have k8 : ((l.length : Int) == 8) = true := by rw [beq_iff_eq]; omega
          have k7 : ((x.toNat : Int) / 128 == 1) = true := by rw [beq_iff_eq]; omega
          clear hcs g8 hq hx0
          go_enter Try.func23, Try.ntmps23
          go_wp2_with fail
          refine (numbers_ok b t w HTY.out).mono ?_
          rw [HK.out]
          rintro e w' ⟨rfl, rfl⟩
          simp only [ptrAt]
          go_wp2_with fail
          go_ret
          exact ⟨rfl, HE2.out, HRF.out⟩
    · have hgood : badN l = false := by simpa using hbad
      have HG := Lib.hid hgood
      have HE : Hid (rdI l = (be l : Nat)) := rdI_good hgood
      have hk8 : ¬ 8 < l.length ∧ x ≠ 0 ∧ (l.length = 8 → x.toNat ≤ 127) := by
        subst hxl
        simp only [badN, Bool.or_eq_false_iff, decide_eq_false_iff_not, beq_eq_false_iff_ne, Bool.and_eq_false_iff] at hgood
        obtain ⟨a1, a2, a3⟩ := hgood
        refine ⟨a1, a2, fun h => ?_⟩
        rcases a3 with h3 | h3
        · exact absurd h h3
        · omega
      obtain ⟨a1, a2, a3⟩ := hk8
      have g8' : ¬ (8 : Int) < l.length := by omega
      have g0' : (0 : Int) < l.length := by omega
      have hzb : ((x.toNat : Int) == 0) = false := by
        rw [beq_eq_false_iff_ne]; intro e; exact a2 (UInt8.toNat_inj.1 (by simpa using e))
      have hk : (((l.length : Int) == 8) = false) ∨ (((l.length : Int) == 8) = true ∧ ((x.toNat : Int) / 128 == 1) = false) := by
        by_cases q : l.length = 8
        · right; exact ⟨by rw [beq_iff_eq]; omega, by have := a3 q; rw [beq_eq_false_iff_ne]; omega⟩
        · left; rw [beq_eq_false_iff_ne]; omega
      have HC := Lib.hid hc
      have H0 := Lib.hid h0
      have HW := Lib.hid hm
      clear hM ht hv hvb h0 hbad hxl hl0 hc hgood a1 a2 a3 hxx
      go_enter Try.func23, Try.ntmps23
      go_wp2_with fail
      refine (numbers_ok b t w HTY.out).mono ?_
      rw [HK.out]
      rintro e w' ⟨rfl, rfl⟩
      simp only [ptrAt]
      rcases hk with hk | ⟨hk, hk7⟩
      all_goals
        go_wp2_with fail
        go_loopw [44] (fun v44 wr => ∃ j : Nat, j ≤ l.length ∧ v44 = .int .i64 j ∧ Hid (MsgIn wr b (setN m t (be (l.take j) : Nat)) o r) ∧ Hid (Tch b w wr)) (fun v44 _ => l.length - (intOf v44).toNat)
        case atStart => exact ⟨0, Nat.zero_le _, rfl, by
          have e : ((be (l.take 0) : Nat) : Int) = numV m t := by rw [H0.out]; rfl
          show MsgIn _ _ _ _ _; rw [e, num_same HK.out]; exact HM.out, HRF.out⟩
        case round =>
          obtain ⟨j, hj, rfl, HMr, HTr⟩ := hrel
          by_cases hlt : j < l.length
          · have hck : wr.cell? ⟨bl, off + j, none⟩ = some (.int .u8 l[j].toNat) := (tch_cell HTr.out (a := ⟨bl, off + j, none⟩) hne).trans (HC.out j hlt)
            have hb1 := be_take_ok HG.out (j + 1)
            rw [be_take_snoc l j hlt] at hb1
            have hwf : (setN m t (be (l.take j) : Nat)).Wf := num_wf HW.out t (by unfold isI64; omega)
            have hcn := HMr.out.num hwf HK.out
            rw [num_get HK.out] at hcn
            obtain ⟨f1, f2⟩ := HMr.out.ok k (off_lt HK.out)
            have hw1 : IntKind.i64.wrap ((be (l.take j) : Int) * 256) = (be (l.take j) : Int) * 256 := by rw [IntKind.wrap_i64]; omega
            have hw0 : IntKind.i64.wrap (l[j].toNat : Int) = (l[j].toNat : Int) := by have := l[j].toNat_lt; rw [IntKind.wrap_i64]; omega
            have hor := or_i64 (be (l.take j)) l[j] hb1
            have HS := Lib.hid (be_take_snoc l j hlt)
            have HP := Lib.hid (HMr.out.putN hwf HK.out ((be (l.take j) * 256 + l[j].toNat : Nat) : Int))
            have HT2 := Lib.hid (HTr.out.trans (tch_setCell wr b k (.int .i64 ((be (l.take j) * 256 + l[j].toNat : Nat) : Int))))
            clear hb1 hwf f1 HMr
            go_wp2_with fail
            go_roundw
            case rel => exact ⟨j + 1, by omega, by go_num, by show MsgIn _ _ _ _ _; rw [HS.out]; have := HP.out; rw [num_set HK.out] at this; exact this, HT2.out⟩
            case measure => simp [intOf]; omega
          · have HS : Hid (l.take j = l) := List.take_of_length_le (by omega)
            go_wp2_with fail
            go_ret
            refine ⟨by rw [HE.out]; simp, fun _ => ?_, HTr.out⟩
            rw [HE.out]; have := HMr.out; rw [HS.out] at this; exact this
theorem cpO_num {o v : Value} {t k : Nat} (h : offN t = some k) : cpO o v t = o ∧ cpR o v t = o := by
  rcases offN_cases h with ⟨rfl, rfl⟩ | ⟨rfl, rfl⟩ | ⟨rfl, rfl⟩ | ⟨rfl, rfl⟩ | ⟨rfl, rfl⟩ | ⟨rfl, rfl⟩ <;> exact ⟨rfl, rfl⟩
theorem cpO_hash {o v : Value} {t k : Nat} (h : offH t = some k) : cpO o v t = o ∧ cpR o v t = o := by
  rcases offH_cases h with ⟨rfl, rfl⟩ | ⟨rfl, rfl⟩ | ⟨rfl, rfl⟩ | ⟨rfl, rfl⟩ <;> exact ⟨rfl, rfl⟩
/-- wire.set. -/
theorem set_ok (m : Msg) (b t : Nat) (l : List UInt8) (o r v : Value) (w : World) (hm : m.Wf) (hM : MsgIn w b m o r) (hv : Bytes w v l) (hl : l.length ≤ 140737488351232) (hvb : ∀ g, v.ownBlock = some g → g ≠ b) (ht : isType t) (h0 : ∀ k, offN t = some k → numV m t = 0) :
    Calls Try.prog 23 #[.pointer (some ⟨b, 0, none⟩), .int .u64 t, v] w fun e w' => e = .returned (.bool (withS m t l).2) ∧ ((withS m t l).2 = true → MsgIn w' b (withS m t l).1 (cpO o v t) (cpR r v t)) ∧ Tch b w w' := by
  rcases type_cases ht with ⟨k, h1, h2, h3⟩ | ⟨k, h1, h2, h3⟩ | ⟨k, h1, h2, h3⟩
  · rw [(cpO_num (o := o) (v := v) h1).1, (cpO_num (o := r) (v := v) h1).2]
    exact set_num m b t k l o r v w hm hM hv hvb ht h1 (h0 k h1)
  · rw [(cpO_hash (o := o) (v := v) h2).1, (cpO_hash (o := r) (v := v) h2).2]
    exact set_hash m b t k l o r v w hm hM hv hl ht h1 h2
  · refine (set_text m b t k l o r v w hm hM hv ht h1 h2 h3).mono ?_
    rintro e w' ⟨rfl, h, hT⟩
    rw [text_with h3]
    exact ⟨rfl, fun _ => h, hT⟩
end Go.Proofs.Ytdohenfbehpplaa
/- Records that are gathered, their values lying anywhere but among the records. -/
namespace Go.Proofs.Ytdohenfbehpplaa
set_option linter.unusedVariables false
set_option linter.unusedSimpArgs false
open Go.RowKit

/-- v's block is older than base, or holds no records. -/
def Sound (w : World) (base : Nat) (v : Value) (l : List UInt8) : Prop := l = [] ∨ ∀ b, v.ownBlock = some b → b < base ∨ ∃ C ty fr, w.heap[b]? = some (.cells C ty fr) ∧ ty ≠ 37
theorem Sound.below {w w' : World} {base : Nat} {v : Value} {l : List UInt8} (h : Sound w base v l) (hb : Below w.heap.size w w') : Sound w' base v l := by
  refine h.imp id fun h b hv => (h b hv).imp id fun ⟨C, ty, fr, h1, h2⟩ => ⟨C, ty, fr, ?_, h2⟩
  rw [hb.block b (Array.getElem?_eq_some_iff.1 h1).1]; exact h1
/-- Behind a growth of a row of records, from base on. -/
theorem sound_ne {w : World} {base : Nat} {v u : Value} {l : List UInt8} {n : Nat} {xs : List Value} (h : Sound w base v l) (hl : l ≠ []) (ho : w.ownsRow base 37 2 u n xs) (b : Nat) (hb : v.ownBlock = some b) : some b ≠ u.ownBlock := by
  intro he
  rcases h with h | h
  · exact hl h
  · rcases ho.2 with ⟨rfl, _⟩ | ⟨g, cap, cur, rfl, e2, e3, _⟩
    · simp [Value.ownBlock] at he
    · simp only [Value.ownBlock, Option.some.injEq] at he
      subst he
      rcases h b hb with h | ⟨C, ty, fr, h1, h2⟩
      · omega
      · rw [e3] at h1
        injection h1 with h1
        injection h1 with _ ht
        exact h2 ht.symm
theorem bytes_grown {w w' : World} {base : Nat} {v u : Value} {l : List UInt8} {n : Nat} {xs : List Value} (h : Bytes w v l) (hs : Sound w base v l) (ho : w.ownsRow base 37 2 u n xs) (hg : w.grownBy w' u.ownBlock) : Bytes w' v l ∧ Sound w' base v l := by
  by_cases hl : l = []
  · subst hl
    refine ⟨?_, .inl rfl⟩
    obtain ⟨A, n, c, e, hl, h1, h2, h4, h3⟩ := h
    have hn : n = 0 := by simpa [bvs] using hl.symm
    subst hn
    exact ⟨A, 0, c, e, hl, h1, h2, h4, fun h => absurd h (by omega)⟩
  · have hpos : 0 < l.length := List.length_pos_iff.2 hl
    rcases h.open with ⟨h0, _⟩ | ⟨_, b, off, c, rfl, hc1, hc2, hc⟩
    · exact absurd h0 hl
    · have hne := sound_ne hs hl ho b rfl
      have hlt : b < w.heap.size := World.block_lt_of_cell? w _ (hc 0 hpos)
      have hblk := hg.block b hlt hne
      refine ⟨Bytes.mk rfl hc1 hc2 fun j hj => ?_, hs.imp id fun h b' hv => ?_⟩
      · rw [World.cell?_of_block (w := w) (w' := w') (a := ⟨b, off + j, none⟩) hblk]; exact hc j hj
      · simp only [Value.ownBlock, Option.some.injEq] at hv
        subst hv
        exact (h b rfl).imp id fun ⟨C, ty, fr, h1, h2⟩ => ⟨C, ty, fr, by rw [hblk]; exact h1, h2⟩
def Held (w : World) (base : Nat) (v : Value) (out : List Rec) : Prop :=
  ∃ ps : List (Nat × Value), w.ownsRow base 37 2 v out.length (recCells ps) ∧ ps.length = out.length ∧ ∀ i (h : i < ps.length) (h' : i < out.length), ps[i].1 = out[i].1 ∧ Bytes w ps[i].2 out[i].2 ∧ Sound w base ps[i].2 out[i].2
theorem held_nil (w : World) (base : Nat) : Held w base (.slice none 0 0) [] := ⟨[], World.ownsRow_nil _ _ _ _, rfl, fun i h => by simp at h⟩
theorem Held.recs {w : World} {base : Nat} {v : Value} {out : List Rec} (h : Held w base v out) : Recs w v out := by
  obtain ⟨ps, h1, h2, h3⟩ := h
  exact ⟨ps, own_rd h1, h2, fun i a b => ⟨(h3 i a b).1, (h3 i a b).2.1⟩⟩
theorem Held.below {w w' : World} {base : Nat} {v : Value} {out : List Rec} (h : Held w base v out) (hb : Below w.heap.size w w') : Held w' base v out := by
  obtain ⟨ps, h1, h2, h3⟩ := h
  exact ⟨ps, own_below h1 hb, h2, fun i a b => ⟨(h3 i a b).1, (h3 i a b).2.1.below hb, (h3 i a b).2.2.below hb⟩⟩
theorem Held.form {w : World} {base : Nat} {v : Value} {out : List Rec} (h : Held w base v out) : ∃ A c, v = .slice A out.length c := by
  obtain ⟨ps, h1, _⟩ := h
  obtain ⟨A, c, e, _⟩ := own_form h1
  exact ⟨A, c, e⟩
theorem Held.ge {w : World} {base : Nat} {v : Value} {out : List Rec} (h : Held w base v out) (k : Nat) (hk : v.ownBlock = some k) : base ≤ k := by
  obtain ⟨ps, h1, _⟩ := h; exact own_base h1 k hk
/-- One more record. -/
theorem run_held {W : World} {base n c : Nat} {A : Option Addr} (ty : TypeId) (out : List Rec) (t : Nat) (sv : Value) (val : List UInt8) (hG : Held W base (.slice A n c) out) (hsv : Bytes W sv val) (hso : Sound W base sv val)
    (x : Value) (hx : Rd W x 2 [.int .u64 t, sv]) (hlen : out.length ≤ 1000000) (hbase : base ≤ W.heap.size) :
    ∃ v' w', (Builtin.append_ #[38, 38] ty #[.slice A n c, x]).run Try.prog W = .ok v' w' ∧ Held w' base v' (out ++ [(t, val)]) ∧ W.grownBy w' (Value.slice A n c).ownBlock := by
  obtain ⟨ps, h2, h3, h4⟩ := hG
  have h1 : sv.oneCell' = true := hsv.one
  obtain ⟨v', w', hr, ho, hg, _⟩ := run_append_any (P := Try.prog) (w := W) base 38 ty 37 Try.underlying38 info_rec rfl (by omega) _ out.length (recCells ps) h2 x 1 [.int .u64 t, sv] hx rfl (by simp [Value.oneCell'] at *; exact h1) (by omega) (by omega) hbase
  refine ⟨v', w', hr, ⟨ps ++ [(t, sv)], ?_, by simp [h3], fun i hi hi' => ?_⟩, hg⟩
  · have e : recCells (ps ++ [(t, sv)]) = recCells ps ++ [.int .u64 t, sv] := by simp [recCells]
    rw [e, List.length_append]; exact ho
  · by_cases hlt : i < ps.length
    · have hlt' : i < out.length := by omega
      obtain ⟨e1, e2, e3⟩ := h4 i hlt hlt'
      rw [List.getElem_append_left hlt, List.getElem_append_left hlt']
      exact ⟨e1, bytes_grown e2 e3 h2 hg⟩
    · have e1 : i = ps.length := by simp at hi; omega
      have e2 : i = out.length := by omega
      have g1 : (ps ++ [(t, sv)])[i] = (t, sv) := by simp [e1]
      have g2 : (out ++ [(t, val)])[i] = (t, val) := by simp [e2]
      rw [g1, g2]
      exact ⟨rfl, bytes_grown hsv hso h2 hg⟩
/-- 'l = append(l, Record{..})' as one step of a region that draws. -/
theorem step_held {wa : World} {ops : Array Oper} {o : Oper} {a : Act} {K : Act → World → Prop} {Q : Exit → Act → World → Prop} {E : Prop} (hgd : o.guard = none) (s x : Operand)
    (ho : o.op = .call { callee := .builtin .append, args := #[s, x], argTypes := #[38, 38] }) (base : Nat) (out : List Rec) (t : Nat) (As : Option Addr) (cS : Nat) (val : List UInt8) (A : Option Addr) (n c k : Nat)
    (hs : a.eval s = .slice A n c) (hx : a.eval x = .slice (some ⟨wa.heap.size, 0, none⟩) 1 1) (hG : Held wa base (.slice A n c) out) (hsv : Bytes wa (.slice As k cS) val) (hso : Sound wa base (.slice As k cS) val) (hbase : base ≤ wa.heap.size) (hol : out.length ≤ 1000000)
    (h : ∀ v4 w4, Held w4 base v4 (out ++ [(t, val)]) → (wa.alloc (.cells #[.int .u64 t, .slice As k cS] 37)).grownBy w4 (Value.slice A n c).ownBlock → K (a.put o.dst v4) w4) :
    if Region.wanted o (yielded ops a.tmps) = true then Oper.wp Try.prog o a (wa.alloc (.cells #[.int .u64 t, .slice As k cS] 37)) K Q else E := by
  have hb := (Below.refl wa.heap.size wa).alloc (Nat.le_refl _) (.cells #[.int .u64 t, .slice As k cS] 37)
  obtain ⟨v4, w4, hr4, hG4, hg4⟩ := run_held o.type out t _ val (hG.below hb) (hsv.below hb) (hso.below hb) _ (rd_pair wa _ _ _) hol (by simp; omega)
  exact step_run hgd s x _ ho _ _ hs hx v4 w4 hr4 (h v4 w4 hG4 hg4)
theorem wl_held {wa : World} {ops : Array Oper} {rest : List Oper} {a : Act} {Q : Exit → Act → World → Prop} {ty : TypeId} {pos : String} {after : Array Edge} (d : Tmp) (s x : Operand)
    (base : Nat) (out : List Rec) (t : Nat) (As : Option Addr) (cS : Nat) (val : List UInt8) (A : Option Addr) (n c k : Nat)
    (hs : a.eval s = .slice A n c) (hx : a.eval x = .slice (some ⟨wa.heap.size, 0, none⟩) 1 1) (hG : Held wa base (.slice A n c) out) (hsv : Bytes wa (.slice As k cS) val) (hso : Sound wa base (.slice As k cS) val) (hbase : base ≤ wa.heap.size) (hol : out.length ≤ 1000000)
    (h : ∀ v4 w4, Held w4 base v4 (out ++ [(t, val)]) → (wa.alloc (.cells #[.int .u64 t, .slice As k cS] 37)).grownBy w4 (Value.slice A n c).ownBlock → wpList Try.prog ops Q rest (a.put (some d) v4) w4) :
    wpList Try.prog ops Q ({ dst := some d, op := .call { callee := .builtin .append, args := #[s, x], argTypes := #[38, 38] }, type := ty, pos := pos, after := after, guard := none } :: rest) a (wa.alloc (.cells #[.int .u64 t, .slice As k cS] 37)) := by
  have hb := (Below.refl wa.heap.size wa).alloc (Nat.le_refl _) (.cells #[.int .u64 t, .slice As k cS] 37)
  obtain ⟨v4, w4, hr4, hG4, hg4⟩ := run_held ty out t _ val (hG.below hb) (hsv.below hb) (hso.below hb) _ (rd_pair wa _ _ _) hol (by simp; omega)
  exact wl_run d s x _ _ _ _ hs hx v4 w4 hr4 (h v4 w4 hG4 hg4)
/-- The world behind such an append, seen from base. -/
theorem held_below {B base : Nat} {w wa w4 : World} {v : Value} {out : List Rec} {C : Array Value} {ty : TypeId} (h : Below B w wa) (hH : Held wa base v out) (hg : (wa.alloc (.cells C ty)).grownBy w4 v.ownBlock) (hB : B ≤ wa.heap.size) (hb : B ≤ base) : Below B w w4 :=
  (h.alloc hB _).grown hg (by simp; omega) fun k hk => Nat.le_trans hb (hH.ge k hk)
/-- A field's value is sound for records from a base that the message's own slices lie below. -/
theorem lone_sound {w0 w w' : World} {m : Msg} {o r v : Value} {t base : Nat} (h : Lone w w' m o r v t) (ho : Bytes w0 o m.onion) (hr : Bytes w0 r m.reason) (hb : w0.heap.size ≤ base) : Sound w' base v (valS m t) := by
  have key : ∀ (u : Value) (l : List UInt8), Bytes w0 u l → Sound w' base u l := by
    intro u l hu
    by_cases hl : l = []
    · exact .inl hl
    · rcases hu.open with ⟨h0, _⟩ | ⟨hp, b, off, c, rfl, _, _, hc⟩
      · exact absurd h0 hl
      · refine .inr fun b' hv => .inl ?_
        simp only [Value.ownBlock, Option.some.injEq] at hv
        have : b < w0.heap.size := World.block_lt_of_cell? w0 _ (hc 0 hp)
        omega
  rcases h with ⟨rfl, rfl⟩ | ⟨rfl, rfl⟩ | h
  · exact key _ _ ho
  · exact key _ _ hr
  · exact .inr fun b hv => .inr (h b hv).2
end Go.Proofs.Ytdohenfbehpplaa
