/- Lemmas for this seat's claims, joined by a program of mine out of: REnc, Ref2, RDec0, Wire5, Ops, Wire6, Wire7, Enc1, Wire8, Find, DecPlain2, Plain3, RDec, Wire9, Plain4, Plain5, Lives6. -/
import Derived.Test.YtdohenfbehpplaaBb
/- tollhouseref06.Encode. -/
namespace Go.Proofs.Ytdohenfbehpplaa
set_option linter.unusedVariables false
set_option linter.unusedSimpArgs false
open Go.RowKit
attribute [local irreducible] Go.wpList
attribute [local go_sem ↓] ldm stm bdm

theorem range_below {w w' : World} {b o : Nat} {cs : List Value} (h : w.rangeAt b o cs) (hb : Below w.heap.size w w') : w'.rangeAt b o cs := fun j v hv => cell_below hb (h j v hv)
def recsOf (m : Msg) : List Rec := (fieldsOf m.kind).map fun t => (t, valS m t)
def kindB (k : Int) : List UInt8 := [UInt8.ofNat (k.toNat / 256), UInt8.ofNat k.toNat]
/-- A message's bytes. -/
def encM (m : Msg) : List UInt8 × Int := if mayS m = true then (kindB m.kind ++ (encS (recsOf m)).1, 0) else ([], 1)
theorem may_parts {m : Msg} (h : mayS m = true) : fieldsOf m.kind ≠ [] ∧ sameB m (bareS m) = true ∧ inRange m ∧ (m.kind ≠ 1 ∨ m.onion.length = 2112) := by simpa [mayS] using h
theorem may_kind {m : Msg} (h : mayS m = true) : ∃ i : Nat, m.kind = i ∧ 1 ≤ i ∧ i ≤ 6 := by
  rcases fields_dec m.kind with h1 | ⟨_, h0⟩
  · exact h1
  · exact absurd h0 (may_parts h).1
theorem field_type {k : Int} {t : Nat} (h : t ∈ fieldsOf k) : isType t := by
  rcases fields_dec k with ⟨i, rfl, h1, h2⟩ | ⟨_, h0⟩
  · obtain rfl | rfl | rfl | rfl | rfl | rfl : i = 1 ∨ i = 2 ∨ i = 3 ∨ i = 4 ∨ i = 5 ∨ i = 6 := by omega
    all_goals
      simp [fieldsOf] at h
      unfold isType
      omega
  · rw [h0] at h; simp at h
theorem field_11 {k : Int} (h : 11 ∈ fieldsOf k) : k = 1 := by
  rcases fields_dec k with ⟨i, rfl, h1, h2⟩ | ⟨_, h0⟩
  · obtain rfl | rfl | rfl | rfl | rfl | rfl : i = 1 ∨ i = 2 ∨ i = 3 ∨ i = 4 ∨ i = 5 ∨ i = 6 := by omega
    all_goals first | rfl | (simp [fieldsOf] at h)
  · rw [h0] at h; simp at h
theorem val_len {m : Msg} (hm : m.Wf) (h : mayS m = true) {t : Nat} (ht : t ∈ fieldsOf m.kind) : (valS m t).length ≤ 2112 := by
  obtain ⟨_, _, hr, ho⟩ := may_parts h
  have h8 : ∀ x : Int, isI64 x → (nbF x.toNat).length ≤ 2112 := fun x hx => by
    have := nbF_length 8 x.toNat (by unfold isI64 at hx; omega)
    omega
  rcases field_type ht with rfl | rfl | rfl | rfl | rfl | rfl | rfl | rfl | rfl | rfl | rfl | rfl
  · exact h8 _ hm.channel
  · exact h8 _ hm.id
  · exact h8 _ hm.amount
  · exact h8 _ hm.expiry
  · show m.hash.length ≤ _; rw [hm.hash]; omega
  · show m.onion.length ≤ _
    have := field_11 ht
    rcases ho with h | h
    · exact absurd this h
    · omega
  · show m.secret.length ≤ _; rw [hm.secret]; omega
  · show m.point.length ≤ _; rw [hm.point]; omega
  · show m.tag.length ≤ _; rw [hm.tag]; omega
  · exact h8 _ hm.number
  · exact h8 _ hm.told
  · show m.reason.length ≤ _
    obtain ⟨_, _, _, _, _, _, _, _, _, _, _, h⟩ := hr
    omega
theorem recs_take (m : Msg) (k : Nat) (hk : k < (fieldsOf m.kind).length) : (recsOf m).take (k + 1) = (recsOf m).take k ++ [((fieldsOf m.kind)[k], valS m (fieldsOf m.kind)[k])] := by
  rw [List.take_succ_eq_append_getElem (by simpa [recsOf] using hk)]
  simp [recsOf]
theorem recsOf_length (m : Msg) : (recsOf m).length = (fieldsOf m.kind).length := by simp [recsOf]
theorem encS_le (l : List Rec) : (encS l).1.length ≤ 65536 := by
  unfold encS
  split
  · exact Nat.zero_le _
  · split
    · exact Nat.zero_le _
    · rename_i h; rw [recsBytes_length]; omega
theorem kindB_cells {k : Int} {i : Nat} (h : k = i) : bvs (kindB k) = [.int .u8 (k / 256 % 256), .int .u8 (k % 256)] := by
  subst h
  simp [bvs, bv, kindB]
set_option maxRecDepth 20000 in
set_option maxHeartbeats 3200000 in
/-- tollhouseref06.Encode. -/
theorem rencM_ok (m : Msg) (o r : Value) (w : World) (hm : m.Wf) (ho : Bytes w o m.onion) (hr : Bytes w r m.reason) :
    Calls Try.prog 13 #[.agg (mc m o r)] w fun e w' => ∃ v', e = .returned (.tuple #[v', .int .i64 (encM m).2]) ∧ w'.ownsRow w.heap.size 5 1 v' (encM m).1.length (bvs (encM m).1) ∧ Below w.heap.size w w' := by
  have HO := Lib.hid ho
  have HR := Lib.hid hr
  obtain ⟨Ao, no, co, rfl⟩ := ho.slice
  obtain ⟨Ar, nr, cr, rfl⟩ := hr.slice
  obtain ⟨E, hE⟩ : ∃ E, E = encM m := ⟨_, rfl⟩
  rw [← hE]
  have HE := Lib.hid hE
  clear ho hr hE
  go_enter Try.func13, Try.ntmps13
  go_wp2_with (first | ((with_reducible refine dst_is 1 ?_); refine wl_box 1 _ _ _ rfl ?_; intro W1 e1; have z1 : W1.heap.size = w.heap.size + 1 := (by rw [e1]; simp); have HA : MsgIn W1 w.heap.size m (.slice Ao no co) (.slice Ar nr cr) := (by rw [e1]; exact msgIn_new w hm); have HB1 : Below w.heap.size w W1 := (by rw [e1]; exact (Below.refl _ _).alloc (Nat.le_refl _) _); clear e1) | ((with_reducible refine dst_is 9 ?_); refine wl_load 9 25 _ w.heap.size 0 (mcl m (.slice Ao no co) (.slice Ar nr cr)) _ rfl rfl Try.underlying25 rfl (size_mc _ _ _ hm) HA.range ?_))
  refine (rmay_ok m _ _ W1 hm (HO.out.below HB1) (HR.out.below HB1)).mono ?_
  rintro e W2 ⟨rfl, hb2⟩
  replace HA := HA.below hb2
  have HB2 := below_of HB1 hb2 (by omega)
  have z2 := hb2.size
  clear hb2 HB1
  by_cases hmay : mayS m = true
  case neg =>
    have hmf : mayS m = false := by simpa using hmay
    have HE2 : Hid (E = ([], 1)) := by show _ = _; rw [HE.out]; exact if_neg hmay
    rw [hmf]
    clear hmay hmf
    go_wp2_with fail
    go_ret2
    exact ⟨_, by rw [HE2.out]; rfl, by rw [HE2.out]; exact World.ownsRow_nil _ _ _ _, HB2⟩
  have HMY := Lib.hid hmay
  rw [hmay]
  clear hmay
  have HE2 : Hid (E = (kindB m.kind ++ (encS (recsOf m)).1, 0)) := by show _ = _; rw [HE.out]; exact if_pos HMY.out
  have c0 := HA.cell 0 _ mc_0
  go_wp2_with fail
  refine (rfields_ok m.kind W2).mono ?_
  rintro e W4 ⟨Af, nf, cf, rfl, hnums, _, _, hb4⟩
  obtain ⟨L, hL⟩ : ∃ L, L = fieldsOf m.kind := ⟨_, rfl⟩
  rw [← hL] at hnums
  have HL := Lib.hid hL
  have hll : L.length ≤ 6 := by rw [hL]; exact fields_length _
  obtain rfl := hnums.len
  have HN := Lib.hid hnums
  have HA4 := Lib.hid (HA.below hb4)
  have HB4 := Lib.hid (below_of HB2 hb4 (by omega))
  have z4 : w.heap.size + 1 ≤ W4.heap.size := by have := hb4.size; omega
  clear hnums HA hb4 HB2 c0 hL
  go_wp2_with fail
  go_loopw [5, 6] (fun v5 v6 wr => ∃ k : Nat, k ≤ L.length ∧ v6 = .int .i64 k ∧ Hid (Held wr W4.heap.size v5 ((recsOf m).take k)) ∧ Hid (Below W4.heap.size W4 wr)) (fun _ v6 _ => L.length - (intOf v6).toNat)
  case atStart => exact ⟨0, Nat.zero_le _, rfl, held_nil _ _, Below.refl _ _⟩
  case round =>
    obtain ⟨k, hk, rfl, HG, HBr⟩ := hrel
    have hsr := HBr.out.size
    by_cases hlt : k < L.length
    · obtain ⟨b, off, rfl, hc⟩ := HN.out.at_ (by omega)
      have hc4 := Lib.hid (hc k hlt)
      have hsm : L[k] < 24 := by have h2 := HL.out; subst h2; exact fields_small hlt
      have hty : Hid (isType L[k]) := by have h2 := HL.out; subst h2; exact field_type (List.getElem_mem hlt)
      have HS : Hid ((recsOf m).take (k + 1) = (recsOf m).take k ++ [(L[k], valS m L[k])]) := by have h2 := HL.out; subst h2; exact recs_take m k hlt
      obtain ⟨out, hout⟩ : ∃ out, out = (recsOf m).take k := ⟨_, rfl⟩
      have hol : out.length ≤ 1000000 := by rw [hout, List.length_take]; omega
      rw [← hout] at HG HS
      clear hout
      have hvl : Hid ((valS m L[k]).length ≤ 2112) := by have h2 := HL.out; subst h2; exact val_len hm HMY.out (List.getElem_mem hlt)
      obtain ⟨A5, c5, rfl⟩ := HG.out.form
      have hR4 := Lib.hid HA4.out.range
      clear hc
      go_wp2_with fail
      have hL1 : ∀ W : World, W.rangeAt w.heap.size 0 (mcl m (.slice Ao no co) (.slice Ar nr cr)) → (LdAny 25 (.pointer (some ⟨w.heap.size, 0, none⟩))).run Try.prog W = .ok (.agg (mc m (.slice Ao no co) (.slice Ar nr cr))) W := fun W h => run_loadAt_mid W _ _ _ _ _ h Try.underlying25 rfl (size_mc _ _ _ hm)
      have HBC : Below W4.heap.size W4 wr.drew := HBr.out.drew
      have HGC : Held wr.drew W4.heap.size _ _ := HG.out.below ((Below.refl wr.heap.size wr).drew)
      go_region_held3 (fun W => W.rangeAt w.heap.size 0 (mcl m (.slice Ao no co) (.slice Ar nr cr)) ∧ W.cell? ⟨b, off + k, none⟩ = some (.int .u64 (L[k] : Nat)))
        (first | exact ⟨range_below hR4.out HBC, cell_below HBC hc4.out⟩ | exact ⟨range_below hR4.out (HBC.alloc HBC.size _), cell_below (HBC.alloc HBC.size _) hc4.out⟩)
        (first | (go_at_call 27; refine (value_ok m L[k] _ _ _ hm (HO.out.below (below_of HB4.out HBC (by omega))) (HR.out.below (below_of HB4.out HBC (by omega))) hty.out).mono ?_; rintro e wa ⟨As, cS, rfl, hbs, hls, hba⟩; replace HBC := below_of HBC hba HBC.size; replace HGC := HGC.below hba; have hso := lone_sound (base := W4.heap.size) hls HO.out HR.out (by omega); clear hls hba) | (refine step_held rfl _ _ rfl W4.heap.size _ L[k] As cS (valS m L[k]) _ _ _ _ rfl rfl HGC hbs hso HBC.size hol ?_; intro v4 w4 hG4 hg4; replace HBC := held_below HBC HGC hg4 HBC.size (Nat.le_refl _); clear hg4))
      have HB5 := Lib.hid HBC
      have HG5 := Lib.hid hG4
      rw [← HS.out] at HG5
      clear HBC hG4 HGC hbs hso hL1
      go_wp2_with fail
      go_roundw
      case rel => exact ⟨k + 1, by omega, by go_num, HG5.out, HB5.out⟩
      case measure => simp [intOf]; omega
    · have HT : Hid ((recsOf m).take k = recsOf m) := by show _ = _; rw [List.take_of_length_le]; rw [recsOf_length, ← HL.out]; omega
      rw [HT.out] at HG
      obtain ⟨A5, c5, rfl⟩ := HG.out.form
      have HRS := Lib.hid HG.out.recs
      have c0 : wr.cell? ⟨w.heap.size, 0, none⟩ = some (.int .i64 m.kind) := cell_below HBr.out (HA4.out.cell 0 _ mc_0)
      go_wp2_with fail
      refine (rencode_ok (recsOf m) _ wr HRS.out (by rw [recsOf_length, ← HL.out]; omega) ?_).mono ?_
      · intro x hx
        simp only [recsOf, List.mem_map] at hx
        obtain ⟨t, ht, rfl⟩ := hx
        exact ⟨Nat.le_trans (val_len hm HMY.out ht) (by omega), by have := field_type ht; unfold isType at this; show t < _; omega⟩
      rintro e w6 ⟨v6, rfl, ho6, hb6⟩
      have c6 := cell_below hb6 c0
      have HB6 := Lib.hid (below_of (below_of HB4.out HBr.out (by omega)) hb6 (by omega))
      have HO6 := Lib.hid (own_lower ho6 (show w.heap.size ≤ wr.heap.size by omega))
      have hz6 := hb6.size
      have hle := encS_le (recsOf m)
      obtain ⟨i, hi, hi1, hi2⟩ := may_kind HMY.out
      have hlit : Hid ((w6.alloc (.cells #[.int .u8 (m.kind / 256 % 256), .int .u8 (m.kind % 256)] 5)).ownsRow w.heap.size 5 1 (.slice (some ⟨w6.heap.size, 0, none⟩) 2 2) (kindB m.kind).length (bvs (kindB m.kind))) := by
        have := own_lit w6 w.heap.size 5 (kindB m.kind) 2 rfl (by omega) (by omega)
        rw [kindB_cells hi] at this ⊢
        exact this
      have HOA := Lib.hid (HO6.out.alloc (.cells #[.int .u8 (m.kind / 256 % 256), .int .u8 (m.kind % 256)] 5))
      have HBA := Lib.hid (HB6.out.alloc (by omega) (.cells #[.int .u8 (m.kind / 256 % 256), .int .u8 (m.kind % 256)] 5))
      clear c0 hb6 ho6 hi hi1 hi2
      go_wp2_with (at_builtin; refine wl_app 49 _ _ _ _ Try.underlying22 info_u8 w.heap.size _ (kindB m.kind) rfl hlit.out _ (encS (recsOf m)).1 rfl (own_bytes HOA.out) ?hl ?hb ?_; (case hl => simp [kindB]; omega); (case hb => simp; omega); intro v7 w7 ho7 hg7 hat7; have HB7 := Lib.hid (below_append HBA.out hlit.out hg7 (by simp; omega) (Nat.le_refl _)); have HO7 := Lib.hid ho7; clear ho7 hg7 hat7)
      go_ret2
      exact ⟨_, by rw [HE2.out]; rfl, by rw [HE2.out]; exact HO7.out, HB7.out⟩
end Go.Proofs.Ytdohenfbehpplaa
/- tollhouseref01.has upon nothing, Decode: contracts (no even type known). -/
namespace Go.Proofs.Ytdohenfbehpplaa
set_option linter.unusedVariables false
set_option linter.unusedSimpArgs false
open Go.RowKit
attribute [local irreducible] Go.wpList

theorem has_nil (x : Int) (w : World) : Calls Try.prog 44 #[.slice none 0 0, .int .u64 x] w fun e w' => e = .returned (.bool false) ∧ w = w' := by
  go_enter Try.func44, Try.ntmps44
  go_wp2_with fail
  refine wp_loop_rounds 1 ?_
  rw [rounds_succ]
  go_wp2_with fail
  go_ret
  exact ⟨rfl, rfl⟩

set_option maxRecDepth 20000 in
set_option maxHeartbeats 3200000 in
theorem rdecode_ok (l : List UInt8) (v : Value) (w : World) (h : Bytes w v l) :
    Calls Try.prog 24 #[v, .slice none 0 0] w fun e w' => ∃ v', e = .returned (.tuple #[v', .int .i64 (decS l).2]) ∧ Gathered w' w.heap.size v' (decS l).1 ∧ Below w.heap.size w w' := by
  have HH := Lib.hid h
  obtain ⟨R, hR⟩ : ∃ R, R = decS l := ⟨_, rfl⟩
  rw [← hR]
  have HR := Lib.hid hR
  obtain ⟨A, n, c, rfl, hln, h1, h2, _⟩ := h
  have hn : n = l.length := by simpa [bvs] using hln.symm
  subst hn
  clear hR hln
  by_cases hl : l.length ≤ 65536
  · have HR2 : Hid (R = decF (l.length + 1) [] l) := by show _ = _; rw [HR.out]; unfold decS; rw [if_neg (by omega)]
    have hd0 : decide ((65536 : Int) < (l.length : Int)) = false := by simp; omega
    go_enter Try.func24, Try.ntmps24
    go_wp2_with fail
    go_loopw [0, 6] (fun v0 v6 wr => ∃ (b : List UInt8) (f : Nat) (out : List Rec) (A0 : Option Addr) (c0 : Nat), v0 = .slice A0 b.length c0 ∧ b.length < f ∧ b.length ≤ 65536 ∧ Hid (R = decF f out b) ∧ Hid (Bytes w (.slice A0 b.length c0) b) ∧ Hid (Gathered wr w.heap.size v6 out) ∧ Hid (Below w.heap.size w wr) ∧ Hid (out.length ≤ 64)) (fun v0 _ _ => match v0 with | .slice _ n _ => n | _ => 0)
    case atStart => exact ⟨l, l.length + 1, [], A, c, rfl, by omega, hl, HR2.out, HH.out, ⟨[], World.ownsRow_nil _ _ _ _, rfl, fun i h => by simp at h⟩, Below.refl _ _, Nat.zero_le _⟩
    case round =>
      clear HH HR h1 h2
      obtain ⟨b, f, out, A0, c0, rfl, hf, hb, HRf, HBy, HG, HB, HGL⟩ := hrel
      have hsr := HB.out.size
      obtain ⟨A6, c6, rfl, hc61, hc62⟩ := own_form HG.out.choose_spec.1
      cases f with
      | zero => omega
      | succ f =>
      by_cases hlt : 0 < b.length
      · have hne : b ≠ [] := by intro hh; subst hh; simp at hlt
        by_cases h64 : 64 ≤ out.length
        · have HE : Hid (R = ([], 3)) := by show _ = _; rw [HRf.out]; simp only [decF]; rw [if_neg hne, if_pos h64]
          have h65 : out.length ≤ 64 := HGL.out
          obtain h66 : out.length = 64 := by omega
          have H66 := Lib.hid h66
          have h67 : ((out.length : Int) == 64) = true := by rw [beq_iff_eq]; omega
          clear h66 h65 h64
          -- <
          go_wp2_with fail
          go_ret2
          exact ⟨_, by rw [HE.out]; rfl, by rw [HE.out]; exact ⟨[], World.ownsRow_nil _ _ _ _, rfl, fun i h => by simp at h⟩, HB.out⟩
          -- >
        · have h67 : ((out.length : Int) == 64) = false := by rw [beq_eq_false_iff_ne]; omega
          have HBw : Hid (Bytes wr (.slice A0 b.length c0) b) := HBy.out.below HB.out
          cases hrd : rdN b with
          | none =>
            have HE : Hid (R = ([], 10)) := by show _ = _; rw [HRf.out]; simp only [decF]; rw [if_neg hne, if_neg h64, hrd]
            have HRD := Lib.hid hrd
            clear hrd
            -- <
            go_wp2_with fail
            refine (rread_none b _ _ HBw.out HRD.out).mono ?_
            rintro e w1 ⟨rfl, hb1⟩
            have HB1 := Lib.hid (below_of HB.out hb1 hsr)
            clear hb1
            go_wp2_with fail
            go_ret2
            exact ⟨_, by rw [HE.out]; rfl, by rw [HE.out]; exact ⟨[], World.ownsRow_nil _ _ _ _, rfl, fun i h => by simp at h⟩, HB1.out⟩
            -- >
          | some p =>
            obtain ⟨t, n⟩ := p
            obtain ⟨hn1, hn2, hn3, ht⟩ := rdN_some hrd
            have HRD := Lib.hid hrd
            clear hrd
            obtain ⟨AT, ct, hs2, hS2⟩ := bytes_from (P := Try.prog) 22 5 Try.underlying22 size_u8 HBy.out n (by omega)
            have hs2 := hs2 .i64
            have HS2 := Lib.hid hS2
            clear hS2
            have hfirst : ∀ w1, Below wr.heap.size wr w1 → 0 < out.length → ∃ g, A6 = some ⟨g, 0, none⟩ ∧ w1.cell? ⟨g, (out.length - 1) * 2, none⟩ = some (.int .u64 (lastT out : Nat)) := fun w1 hb h => by
              obtain ⟨g, e1, e2⟩ := HG.out.last h
              exact ⟨g, e1, cell_below hb e2⟩
            have HF := Lib.hid hfirst
            clear hfirst
            by_cases hord : 0 < out.length ∧ t ≤ lastT out
            · obtain ⟨ho1, ho2⟩ := hord
              have HE : Hid (R = ([], 11)) := by show _ = _; rw [HRf.out]; simp only [decF]; rw [if_neg hne, if_neg h64, HRD.out]; simp only []; rw [if_pos ⟨ho1, ho2⟩]
              clear hs2
              -- <
              go_wp2_with fail
              refine (rread_some b _ _ t n HBw.out HRD.out).mono ?_
              rintro e w1 ⟨rfl, hb1⟩
              have HB1 := Lib.hid (below_of HB.out hb1 hsr)
              obtain ⟨g, rfl, hlast⟩ := HF.out w1 hb1 ho1
              clear hb1
              go_wp2_with fail
              go_ret2
              exact ⟨_, by rw [HE.out]; rfl, by rw [HE.out]; exact ⟨[], World.ownsRow_nil _ _ _ _, rfl, fun i h => by simp at h⟩, HB1.out⟩
              -- >
            · obtain ⟨o0, ho0⟩ : ∃ o0, o0 = out := ⟨_, rfl⟩
              have HG0 : Hid (Gathered wr w.heap.size (.slice A6 out.length c6) o0) := by rw [ho0]; exact HG.out
              have HL0 : Hid (o0.length = out.length) := by rw [ho0]; exact rfl
              have e0 : ∀ X : List Rec × Nat, (match rdN (b.drop n) with | none => ([], 10) | some (k, m) => if (b.drop (n + m)).length < k then ([], 10) else if t % 2 = 0 then ([], 12) else decF f (o0 ++ [(t, (b.drop (n + m)).take k)]) (b.drop (n + m + k))) = X → R = X := fun X hX => by
                rw [HRf.out, ← hX, ho0]; simp only [decF]; rw [if_neg hne, if_neg h64, HRD.out]; simp only []; rw [if_neg (by omega)]; try rfl
              have E0 := Lib.hid e0
              have HGB : Hid (∀ k', (Value.slice A6 out.length c6).ownBlock = some k' → w.heap.size ≤ k' ∧ k' < wr.heap.size) := fun k' hk' => HG.out.choose_spec.1.lt k' hk'
              have hlast : 0 < out.length → lastT out < t := fun h => by omega
              clear e0 ho0
              rcases Nat.eq_zero_or_pos out.length with h0 | h0
              obtain rfl := List.eq_nil_of_length_eq_zero h0
              clear h0
              simp only [List.length_nil] at h64 hc61 HG HG0 HL0 HGB h67
              have HCB : Hid (∀ w1, Below wr.heap.size wr w1 → True) := fun _ _ => trivial
              rotate_left
              obtain ⟨g, rfl, hlc⟩ := HG.out.last h0
              have HCB : Hid (∀ w1, Below wr.heap.size wr w1 → w1.cell? ⟨g, (out.length - 1) * 2, none⟩ = some (.int .u64 (lastT out : Nat))) := fun w1 hb => cell_below hb hlc
              have hlt2 := hlast h0
              all_goals
                clear hlast hord HF
                cases hrd2 : rdN (b.drop n) with
                | none =>
                  have HE : Hid (R = ([], 10)) := E0.out _ (by rw [hrd2])
                  have HRD2 := Lib.hid hrd2
                  clear hrd2
                  -- <
                  go_wp2_with fail
                  refine (rread_some b _ _ t n HBw.out HRD.out).mono ?_
                  rintro e w1 ⟨rfl, hb1⟩
                  have HB1 := Lib.hid (below_of HB.out hb1 hsr)
                  have hs1 : wr.heap.size ≤ w1.heap.size := hb1.size
                  have hlc1 := HCB.out w1 hb1
                  have HG1 := Lib.hid (HG0.out.below hb1)
                  clear hb1
                  go_wp2_with fail
                  refine (rread_none (b.drop n) _ _ (HS2.out.below HB1.out) HRD2.out).mono ?_
                  rintro e w2 ⟨rfl, hb2⟩
                  have HB2 := Lib.hid (below_of HB1.out hb2 (by omega))
                  clear hb2 hlc1
                  go_wp2_with fail
                  go_ret2
                  exact ⟨_, by rw [HE.out]; rfl, by rw [HE.out]; exact ⟨[], World.ownsRow_nil _ _ _ _, rfl, fun i h => by simp at h⟩, HB2.out⟩
                  -- >
                | some p2 =>
                  obtain ⟨k, m⟩ := p2
                  obtain ⟨hm1, hm2, hm3, hk⟩ := rdN_some hrd2
                  rw [List.length_drop] at hm3
                  have E1 := fun X hX => E0.out X (by rw [hrd2]; exact hX)
                  have E2 := Lib.hid E1
                  have HRD2 := Lib.hid hrd2
                  clear hrd2 E1
                  obtain ⟨AU, cu, hs3, hS3⟩ := bytes_from (P := Try.prog) 22 5 Try.underlying22 size_u8 HS2.out m (by rw [List.length_drop]; exact hm3)
                  rw [List.length_drop] at hs3 hS3
                  rw [List.drop_drop] at hS3
                  have hs3' := hs3 .i64
                  have HS3 := Lib.hid hS3
                  clear hs3 hS3
                  have hdl : (b.drop (n + m)).length = b.length - n - m := by simp; omega
                  have HDL := Lib.hid hdl
                  clear hdl
                  have wu : IntKind.u64.wrap (((b.length - n - m : Nat)) : Int) = ((b.length - n - m : Nat) : Int) := wrap_u64_nat _ (by omega)
                  by_cases hbig : b.length - n - m < k
                  · have HE : Hid (R = ([], 10)) := E2.out _ (by simp only []; rw [if_pos (by rw [HDL.out]; exact hbig)])
                    -- <
                    go_wp2_with fail
                    refine (rread_some b _ _ t n HBw.out HRD.out).mono ?_
                    rintro e w1 ⟨rfl, hb1⟩
                    have HB1 := Lib.hid (below_of HB.out hb1 hsr)
                    have hs1 : wr.heap.size ≤ w1.heap.size := hb1.size
                    have hlc1 := HCB.out w1 hb1
                    have HG1 := Lib.hid (HG0.out.below hb1)
                    clear hb1
                    go_wp2_with fail
                    refine (rread_some (b.drop n) _ _ k m (HS2.out.below HB1.out) HRD2.out).mono ?_
                    rintro e w2 ⟨rfl, hb2⟩
                    have HB2 := Lib.hid (below_of HB1.out hb2 (by omega))
                    have hs2' : w1.heap.size ≤ w2.heap.size := hb2.size
                    have HG2 := Lib.hid (HG1.out.below hb2)
                    clear hb2 hlc1
                    go_wp2_with fail
                    go_ret2
                    exact ⟨_, by rw [HE.out]; rfl, by rw [HE.out]; exact ⟨[], World.ownsRow_nil _ _ _ _, rfl, fun i h => by simp at h⟩, HB2.out⟩
                    -- >
                  · have hsm : k ≤ b.length - n - m := by omega
                    by_cases hev : t % 2 = 0
                    · have HE : Hid (R = ([], 12)) := E2.out _ (by simp only []; rw [if_neg (by rw [HDL.out]; exact hbig), if_pos hev])
                      have hev' : ((t : Int) % 2 == 0) = true := by rw [beq_iff_eq]; omega
                      clear hev hbig
                      -- <
                      go_wp2_with fail
                      refine (rread_some b _ _ t n HBw.out HRD.out).mono ?_
                      rintro e w1 ⟨rfl, hb1⟩
                      have HB1 := Lib.hid (below_of HB.out hb1 hsr)
                      have hs1 : wr.heap.size ≤ w1.heap.size := hb1.size
                      have hlc1 := HCB.out w1 hb1
                      have HG1 := Lib.hid (HG0.out.below hb1)
                      clear hb1
                      go_wp2_with fail
                      refine (rread_some (b.drop n) _ _ k m (HS2.out.below HB1.out) HRD2.out).mono ?_
                      rintro e w2 ⟨rfl, hb2⟩
                      have HB2 := Lib.hid (below_of HB1.out hb2 (by omega))
                      have hs2' : w1.heap.size ≤ w2.heap.size := hb2.size
                      have HG2 := Lib.hid (HG1.out.below hb2)
                      clear hb2 hlc1
                      go_wp2_with fail
                      refine (has_nil _ _).mono ?_
                      rintro e w' ⟨rfl, rfl⟩
                      go_wp2_with fail
                      go_ret2
                      exact ⟨_, by rw [HE.out]; rfl, by rw [HE.out]; exact ⟨[], World.ownsRow_nil _ _ _ _, rfl, fun i h => by simp at h⟩, HB2.out⟩
                      -- >
                    · have hev' : ((t : Int) % 2 == 0) = false := by rw [beq_eq_false_iff_ne]; omega
                      have HE : Hid (R = decF f (o0 ++ [(t, (b.drop (n + m)).take k)]) (b.drop (n + m + k))) := E2.out _ (by simp only []; rw [if_neg (by rw [HDL.out]; exact hbig), if_neg hev])
                      clear hev hbig
                      obtain ⟨AV, cv, hs4, hS4⟩ := bytes_to (P := Try.prog) 22 5 Try.underlying22 size_u8 HS3.out k (by rw [HDL.out]; exact hsm)
                      have hs4' := hs4 .u64
                      have HS4 := Lib.hid hS4
                      clear hs4 hS4
                      obtain ⟨AX, cx, hs5, hS5⟩ := bytes_from (P := Try.prog) 22 5 Try.underlying22 size_u8 HS3.out k (by rw [HDL.out]; exact hsm)
                      rw [HDL.out] at hs5 hS5
                      rw [List.drop_drop] at hS5
                      have hs5' := hs5 .u64
                      have HS5 := Lib.hid hS5
                      clear hs5 hS5
                      go_wp2_with fail
                      refine (rread_some b _ _ t n HBw.out HRD.out).mono ?_
                      rintro e w1 ⟨rfl, hb1⟩
                      have HB1 := Lib.hid (below_of HB.out hb1 hsr)
                      have hs1 : wr.heap.size ≤ w1.heap.size := hb1.size
                      have hlc1 := HCB.out w1 hb1
                      have HG1 := Lib.hid (HG0.out.below hb1)
                      clear hb1
                      go_wp2_with fail
                      refine (rread_some (b.drop n) _ _ k m (HS2.out.below HB1.out) HRD2.out).mono ?_
                      rintro e w2 ⟨rfl, hb2⟩
                      have HB2 := Lib.hid (below_of HB1.out hb2 (by omega))
                      have hs2' : w1.heap.size ≤ w2.heap.size := hb2.size
                      have HG2 := Lib.hid (HG1.out.below hb2)
                      clear hb2 hlc1
                      have HLX : Hid ((b.drop (n + m + k)).length = b.length - n - m - k) := by show _ = _; rw [List.length_drop]; omega
                      have hol : o0.length ≤ 1000000 := by have := HL0.out; have := HGL.out; omega
                      have hz2 : w.heap.size ≤ w2.heap.size := by omega
                      have HKL : Hid (([] ++ (b.drop (n + m)).take k).length = k) := by show _ = _; rw [List.nil_append, List.length_take, HDL.out]; omega
                      have HKL2 : Hid (((b.drop (n + m)).take k).length = k) := by show _ = _; rw [List.length_take, HDL.out]; omega
                      go_wp2_with (first | (at_builtin; refine wl_app_len 78 _ _ _ _ Try.underlying22 info_u8 w2.heap.size _ [] rfl (own_lit w2 w2.heap.size 5 [] 0 rfl (Nat.le_refl _) (by omega)) _ ((b.drop (n + m)).take k) rfl (HS4.out.below (HB2.out.alloc hz2 _)) k HKL.out ?hlen ?hbase ?_; (case hlen => omega); (case hbase => exact le_alloc _ _); intro As cS wa hoa hga hcs1 hcs2; rw [List.nil_append] at hoa; have hbw := below_append ((Below.refl _ _).alloc (Nat.le_refl _) _) (own_lit w2 w2.heap.size 5 [] 0 rfl (Nat.le_refl _) (by omega)) hga (le_alloc _ _) (Nat.le_refl _); have HG3 := Lib.hid (HG2.out.below hbw); have HB3 := Lib.hid (below_of HB2.out hbw hz2); have HZ2 := Lib.hid (Nat.le_trans hz2 hbw.size); have HOA := Lib.hid hoa; clear hoa hga hbw) | (at_builtin; refine wl_gather 81 _ _ w.heap.size w2.heap.size o0 t As cS _ _ _ _ _ rfl rfl HG3.out HKL2.out HOA.out ?hq1 ?hq2 hol ?_; (case hq1 => exact hz2); (case hq2 => exact HZ2.out); intro v4 w4 hG4 hg4))
                      have HB4 := Lib.hid ((HB3.out.alloc HZ2.out _).grown hg4 (Nat.le_trans HZ2.out (by simp)) (fun k' hk' => (HGB.out k' hk').1))
                      have HG4 := Lib.hid hG4
                      clear hG4 hg4
                      go_wp2_with fail
                      go_roundw
                      case rel => exact ⟨b.drop (n + m + k), f, _, AX, cx, by rw [HLX.out], by rw [HLX.out]; omega, by rw [HLX.out]; omega, HE.out, by rw [HLX.out]; exact HS5.out, HG4.out, HB4.out, by show _ ≤ _; have := HL0.out; simp only [List.length_append, List.length_cons, List.length_nil]; omega⟩
                      case measure => simp; omega
      · have HE : Hid (R = (out, 0)) := by
          show _ = _
          rw [HRf.out]; simp only [decF]; rw [if_pos (List.eq_nil_of_length_eq_zero (by omega))]
        go_wp2_with fail
        go_ret2
        exact ⟨_, by rw [HE.out]; rfl, by rw [HE.out]; exact HG.out, HB.out⟩
  · have HE : Hid (R = ([], 3)) := by show _ = _; rw [HR.out]; unfold decS; rw [if_pos (by omega)]
    go_enter Try.func24, Try.ntmps24
    -- <
    go_wp2_with fail
    go_ret2
    exact ⟨_, by rw [HE.out]; rfl, by rw [HE.out]; exact ⟨[], World.ownsRow_nil _ _ _ _, rfl, fun i h => by simp at h⟩, Below.refl _ _⟩
    -- >
end Go.Proofs.Ytdohenfbehpplaa
/- tollhouseref06.Decode. -/
namespace Go.Proofs.Ytdohenfbehpplaa
set_option linter.unusedVariables false
set_option linter.unusedSimpArgs false
open Go.RowKit
attribute [local irreducible] Go.wpList
attribute [local go_sem ↓] ldm stm bdm

/-- A field out of the records: the last one that fits, and whether it may be. -/
def innerS (t : Nat) (l : List Rec) (s : Msg × Bool) : Msg × Bool := l.foldl (fun s r => if r.1 = t then withS s.1 t r.2 else s) s
def fillS (l : List Rec) : List Nat → Msg → Option Msg
  | [], m => some m
  | t :: ts, m => if (innerS t l (m, false)).2 then fillS l ts (innerS t l (m, false)).1 else none
def kindOf (b : List UInt8) : Int := ((b.getD 0 0).toNat * 256 + (b.getD 1 0).toNat : Nat)
def decEnd (o : Option Msg) : Msg × Int := match o with
  | none => (zmsg, 10)
  | some m => if mayS m then (m, 0) else (zmsg, 10)
/-- The message of some bytes. -/
def decM (b : List UInt8) : Msg × Int :=
  if b.length < 2 then (zmsg, 10) else
  if (decS (b.drop 2)).2 ≠ 0 ∨ fieldsOf (kindOf b) = [] then (zmsg, 10) else
  decEnd (fillS (decS (b.drop 2)).1 (fieldsOf (kindOf b)) (kmsg (kindOf b)))
theorem innerS_succ (t : Nat) (l : List Rec) (k : Nat) (hk : k < l.length) (s : Msg × Bool) : innerS t (l.take (k + 1)) s = if l[k].1 = t then withS (innerS t (l.take k) s).1 t l[k].2 else innerS t (l.take k) s := by
  unfold innerS
  rw [List.take_succ_eq_append_getElem hk, List.foldl_append]
  rfl
theorem build_none (W : World) : (BdAny 25 #[]).run Try.prog W = .ok (.agg (mc zmsg nil0 nil0)) W := by kernel_rfl
section
variable {P : Program} {ops : Array Oper} {rest : List Oper} {a : Act} {Q : Exit → Act → World → Prop} {W : World} {rt : TypeId} {pos : String} {after : Array Edge}
theorem wl_build0 (d : Tmp) (ty : TypeId) (v : Value) (hr : ∀ W, (Instr.build ty #[]).run P W = .ok v W) (h : wpList P ops Q rest (a.put (some d) v) W) :
    wpList P ops Q ({ dst := some d, op := .build ty #[], type := rt, pos := pos, after := after, guard := none } :: rest) a W := by
  refine wpList_plain rfl fun K hK => ?_
  unfold Oper.wp execOp
  have e : ((#[] : Array (Nat × Operand)).map fun (p : Nat × Operand) => (p.1, a.eval p.2)) = #[] := by simp
  have := hr W
  rw [← e] at this
  simp only [Sem.run_bind, this, Result.andThen_ok, Sem.run_pure]
  exact hK _ _ h
end
theorem Gathered.tch {w w' : World} {base b : Nat} {v : Value} {out : List Rec} (h : Gathered w base v out) (hT : Tch b w w') (hb : b < base) : Gathered w' base v out := by
  obtain ⟨ps, h1, h2, h3⟩ := h
  exact ⟨ps, own_tch h1 hT hb, h2, fun i a c => ⟨(h3 i a c).1, own_tch (h3 i a c).2 hT hb⟩⟩
/-- The k-th record, where it lies. -/
theorem Gathered.at_ {w : World} {base n c : Nat} {A : Option Addr} {out : List Rec} (h : Gathered w base (.slice A n c) out) (h0 : 0 < out.length) :
    ∃ g, A = some ⟨g, 0, none⟩ ∧ ∀ k (hk : k < out.length), ∃ A' c', w.cell? ⟨g, k * 2, none⟩ = some (.int .u64 (out[k].1 : Nat)) ∧ w.cell? ⟨g, k * 2 + 1, none⟩ = some (.slice A' out[k].2.length c') ∧ w.ownsRow base 5 1 (.slice A' out[k].2.length c') out[k].2.length (bvs out[k].2) := by
  obtain ⟨ps, h1, h2, h3⟩ := h
  rcases h1.2 with ⟨_, h⟩ | ⟨g, cap, cur, e, _⟩
  · omega
  · simp only [Value.slice.injEq] at e
    obtain ⟨rfl, rfl, rfl⟩ := e
    refine ⟨g, rfl, fun k hk => ?_⟩
    have hk' : k < ps.length := by omega
    obtain ⟨c1, c2⟩ := recCells_at ps k hk'
    obtain ⟨t1, t2⟩ := h3 k hk' hk
    have d1 := h1.cells (g := g) rfl _ _ c1
    have d2 := h1.cells (g := g) rfl _ _ c2
    rw [add_plain, Nat.mul_comm] at d1
    rw [add_plain, Nat.mul_comm] at d2
    obtain ⟨A', c', e, _⟩ := own_form t2
    rw [e] at d2 t2
    exact ⟨A', c', by rw [d1, t1], d2, t2⟩
theorem Gathered.form {w : World} {base : Nat} {v : Value} {out : List Rec} (h : Gathered w base v out) : ∃ A c, v = .slice A out.length c := by
  obtain ⟨ps, h1, _⟩ := h
  obtain ⟨A, c, e, _⟩ := own_form h1
  exact ⟨A, c, e⟩
theorem withS_onion (m : Msg) (t : Nat) (l : List UInt8) (ht : isType t) : (withS m t l).1.onion = if t = 11 then l else m.onion := by
  unfold isType at ht
  rcases ht with rfl | rfl | rfl | rfl | rfl | rfl | rfl | rfl | rfl | rfl | rfl | rfl <;> rfl
theorem withS_reason (m : Msg) (t : Nat) (l : List UInt8) (ht : isType t) : (withS m t l).1.reason = if t = 23 then l else m.reason := by
  unfold isType at ht
  rcases ht with rfl | rfl | rfl | rfl | rfl | rfl | rfl | rfl | rfl | rfl | rfl | rfl <;> rfl
/-- A message's two slices, rows of one's own. -/
def Two (w : World) (base : Nat) (m : Msg) (o r : Value) : Prop := w.ownsRow base 5 1 o m.onion.length (bvs m.onion) ∧ w.ownsRow base 5 1 r m.reason.length (bvs m.reason)
theorem own_nil0 (w : World) (base : Nat) (e : TypeId) : w.ownsRow base e 1 nil0 ([] : List UInt8).length (bvs []) := World.ownsRow_nil _ _ _ _
theorem two_kind (w : World) (base : Nat) (k : Int) : Two w base (kmsg k) nil0 nil0 := ⟨own_nil0 _ _ _, own_nil0 _ _ _⟩
theorem own_one {w : World} {base n : Nat} {e : TypeId} {sz : Nat} {v : Value} {xs : List Value} (h : w.ownsRow base e sz v n xs) : v.oneCell' = true := by
  obtain ⟨A, c, rfl, _⟩ := own_form h
  rfl
section
variable {w w' : World} {base b : Nat} {m : Msg} {o r v : Value}
theorem Two.below (h : Two w base m o r) (hb : Below w.heap.size w w') : Two w' base m o r := ⟨own_below h.1 hb, own_below h.2 hb⟩
theorem Two.tch (h : Two w base m o r) (hT : Tch b w w') (hb : b < base) : Two w' base m o r := ⟨own_tch h.1 hT hb, own_tch h.2 hT hb⟩
theorem Two.with (h : Two w base m o r) {t : Nat} {l : List UInt8} (ht : isType t) (hv : w.ownsRow base 5 1 v l.length (bvs l)) : Two w base (withS m t l).1 (cpO o v t) (cpR r v t) := by
  unfold Two cpO cpR
  rw [withS_onion m t l ht, withS_reason m t l ht]
  constructor
  · split
    · exact hv
    · exact h.1
  · split
    · exact hv
    · exact h.2
end
theorem nums_ne {n : Nat} (h : n ≠ 0) : ((n : Int) != 0) = true := by rw [bne_iff_ne]; omega
theorem nums_gt {n : Nat} (h : 0 < n) : ((n : Int) == 0) = false := by rw [beq_eq_false_iff_ne]; omega
/-- What holds of the world at each round's head. -/
structure RInv (w wr : World) (mk : Msg) (o r : Value) (L : List Nat) (Af : Option Addr) (cf : Nat) (R : List Rec) (Ar : Option Addr) (cr : Nat) : Prop where
  wf : mk.Wf
  m : MsgIn wr (w.heap.size + 1) mk o r
  two : Two wr (w.heap.size + 2) mk o r
  res : MsgIn wr w.heap.size zmsg nil0 nil0
  nums : wr.ownsRow (w.heap.size + 2) 32 1 (.slice Af L.length cf) L.length (nvs L)
  recs : Gathered wr (w.heap.size + 2) (.slice Ar R.length cr) R
  blw : Below w.heap.size w wr
  sz : w.heap.size + 2 ≤ wr.heap.size
theorem RInv.below {w wr wr' : World} {mk : Msg} {o r : Value} {L : List Nat} {Af Ar : Option Addr} {cf cr : Nat} {R : List Rec} (h : RInv w wr mk o r L Af cf R Ar cr) (hb : Below wr.heap.size wr wr') : RInv w wr' mk o r L Af cf R Ar cr :=
  ⟨h.wf, h.m.below hb, h.two.below hb, h.res.below hb, own_below h.nums hb, h.recs.below hb, below_of h.blw hb (by have := h.sz; omega), Nat.le_trans h.sz hb.size⟩
/-- The message anew. -/
theorem RInv.put {w wr : World} {mk : Msg} {o r : Value} {L : List Nat} {Af Ar : Option Addr} {cf cr : Nat} {R : List Rec} (h : RInv w wr mk o r L Af cf R Ar cr) {m' : Msg} {o' r' : Value} (hm' : m'.Wf) (h2 : Two wr (w.heap.size + 2) m' o' r') :
    RInv w (wr.setCells (w.heap.size + 1) 0 (mcl m' o' r')) m' o' r' L Af cf R Ar cr := by
  have hT := tch_setCells (w.heap.size + 1) (mcl m' o' r') 0 wr
  exact ⟨hm', h.m.all h.wf hm', h2.tch hT (by omega), h.res.tch hT (by omega), own_tch h.nums hT (by omega), h.recs.tch hT (by omega), hT.below h.blw (by omega), by rw [hT.size]; exact h.sz⟩
/-- The result anew. -/
theorem RInv.ret {w wr : World} {mk : Msg} {o r : Value} {L : List Nat} {Af Ar : Option Addr} {cf cr : Nat} {R : List Rec} (h : RInv w wr mk o r L Af cf R Ar cr) {m' : Msg} {o' r' : Value} (hm' : m'.Wf) :
    MsgIn (wr.setCells w.heap.size 0 (mcl m' o' r')) w.heap.size m' o' r' ∧ Below w.heap.size w (wr.setCells w.heap.size 0 (mcl m' o' r')) ∧ Tch w.heap.size wr (wr.setCells w.heap.size 0 (mcl m' o' r')) := by
  have hT := tch_setCells w.heap.size (mcl m' o' r') 0 wr
  exact ⟨h.res.all zmsg_wf hm', hT.below h.blw (Nat.le_refl _), hT⟩
end Go.Proofs.Ytdohenfbehpplaa
/- wire.Bare: a contract. -/
namespace Go.Proofs.Ytdohenfbehpplaa
set_option linter.unusedVariables false
set_option linter.unusedSimpArgs false
open Go.RowKit
attribute [local irreducible] Go.wpList
attribute [local go_sem ↓] ldm stm bdm

/-- What holds of the world at each round's head. -/
structure BInv (w wr : World) (m : Msg) (o r : Value) (x : Msg) (o' r' : Value) (L : List Nat) (Af : Option Addr) (cf : Nat) : Prop where
  wf : x.Wf
  src : MsgIn wr w.heap.size m o r
  res : MsgIn wr (w.heap.size + 1) zmsg nil0 nil0
  out : MsgIn wr (w.heap.size + 2) x o' r'
  two : Two wr (w.heap.size + 3) x o' r'
  nums : wr.ownsRow (w.heap.size + 3) 32 1 (.slice Af L.length cf) L.length (nvs L)
  blw : Below w.heap.size w wr
  sz : w.heap.size + 3 ≤ wr.heap.size
section
variable {w wr wr' : World} {m x x' : Msg} {o r o' r' o'' r'' : Value} {L : List Nat} {Af : Option Addr} {cf : Nat}
theorem BInv.below (h : BInv w wr m o r x o' r' L Af cf) (hb : Below wr.heap.size wr wr') : BInv w wr' m o r x o' r' L Af cf :=
  ⟨h.wf, h.src.below hb, h.res.below hb, h.out.below hb, h.two.below hb, own_below h.nums hb, below_of h.blw hb (by have := h.sz; omega), Nat.le_trans h.sz hb.size⟩
theorem BInv.tch (h : BInv w wr m o r x o' r' L Af cf) (hT : Tch (w.heap.size + 2) wr wr') (hx : x'.Wf) (hM : MsgIn wr' (w.heap.size + 2) x' o'' r'') (h2 : Two wr (w.heap.size + 3) x' o'' r'') : BInv w wr' m o r x' o'' r'' L Af cf :=
  ⟨hx, h.src.tch hT (by omega), h.res.tch hT (by omega), hM, h2.tch hT (by omega), own_tch h.nums hT (by omega), hT.below h.blw (by omega), by rw [hT.size]; exact h.sz⟩
end
theorem two_setN {w : World} {base t k : Nat} {m : Msg} {o r : Value} (h : Two w base m o r) (hk : offN t = some k) (x : Int) : Two w base (setN m t x) o r := by
  rcases offN_cases hk with ⟨rfl, rfl⟩ | ⟨rfl, rfl⟩ | ⟨rfl, rfl⟩ | ⟨rfl, rfl⟩ | ⟨rfl, rfl⟩ | ⟨rfl, rfl⟩ <;> exact h
theorem two_setH {w : World} {base t k : Nat} {m : Msg} {o r : Value} (h : Two w base m o r) (hk : offH t = some k) (l : List UInt8) : Two w base (setH m t l) o r := by
  rcases offH_cases hk with ⟨rfl, rfl⟩ | ⟨rfl, rfl⟩ | ⟨rfl, rfl⟩ | ⟨rfl, rfl⟩ <;> exact h
theorem two_setT {w : World} {base t k : Nat} {m : Msg} {o r v : Value} {l : List UInt8} (h : Two w base m o r) (hk : offT t = some k) (hv : w.ownsRow base 5 1 v l.length (bvs l)) : Two w base (setT m t l) (cpO o v t) (cpR r v t) := by
  rcases offT_cases hk with ⟨rfl, rfl⟩ | ⟨rfl, rfl⟩
  · exact ⟨hv, h.2⟩
  · exact ⟨h.1, hv⟩
set_option maxRecDepth 20000 in
set_option maxHeartbeats 3200000 in
/-- wire.Bare. -/
theorem bare_ok (m : Msg) (o r : Value) (w : World) (hm : m.Wf) (ho : Bytes w o m.onion) (hr : Bytes w r m.reason) :
    Calls Try.prog 18 #[.agg (mc m o r)] w fun e w' => ∃ o' r', e = .returned (.agg (mc (bareS m) o' r')) ∧ w'.ownsRow w.heap.size 5 1 o' (bareS m).onion.length (bvs (bareS m).onion) ∧ w'.ownsRow w.heap.size 5 1 r' (bareS m).reason.length (bvs (bareS m).reason) ∧ Below w.heap.size w w' := by
  have HO := Lib.hid ho
  have HR := Lib.hid hr
  obtain ⟨L, hL⟩ : ∃ L, L = fieldsOf m.kind := ⟨_, rfl⟩
  have HL := Lib.hid hL
  have hll : L.length ≤ 6 := by rw [hL]; exact fields_length _
  have HFL : Hid (∀ t ∈ L, isType t) := fun t ht => by rw [hL] at ht; exact field_type ht
  clear ho hr hL
  go_enter Try.func18, Try.ntmps18
  go_wp2_with (first | ((with_reducible refine dst_is 1 ?_); refine wl_box 1 _ _ _ rfl ?_; intro W1 e1; have z1 : W1.heap.size = w.heap.size + 1 := (by rw [e1]; simp); have HA : MsgIn W1 w.heap.size m o r := (by rw [e1]; exact msgIn_new w hm); have HB1 : Below w.heap.size w W1 := (by rw [e1]; exact (Below.refl _ _).alloc (Nat.le_refl _) _); have c0 := HA.cell 0 _ mc_0; clear e1) | ((with_reducible refine dst_is 2 ?_); refine wl_alloc 2 _ _ zero_msg ?_; intro W2 e2; have z2 : W2.heap.size = w.heap.size + 2 := (by rw [e2]; simp [z1]); replace HA := HA.alloc (.cells (mc zmsg nil0 nil0) 25); rw [← e2] at HA; have HC : MsgIn W2 (w.heap.size + 1) zmsg nil0 nil0 := (by rw [e2, ← z1]; exact msgIn_new W1 zmsg_wf); have HB2 : Below w.heap.size w W2 := (by rw [e2]; exact HB1.alloc (by omega) _); rw [z1]; replace c0 := HA.cell 0 _ mc_0; clear e2 HB1) | ((with_reducible refine dst_is 8 ?_); refine wl_build 8 _ 0 _ _ _ rfl (build_kind m.kind) ?_) | ((with_reducible refine dst_is 3 ?_); refine wl_alloc 3 _ _ zero_msg ?_; intro W3 e3; have z3 : W3.heap.size = w.heap.size + 3 := (by rw [e3]; simp [z2]); replace HA := HA.alloc (.cells (mc zmsg nil0 nil0) 25); replace HC := HC.alloc (.cells (mc zmsg nil0 nil0) 25); rw [← e3] at HA HC; have HD : MsgIn W3 (w.heap.size + 2) zmsg nil0 nil0 := (by rw [e3, ← z2]; exact msgIn_new W2 zmsg_wf); have HB3 : Below w.heap.size w W3 := (by rw [e3]; exact HB2.alloc (by omega) _); rw [z2]; clear c0 e3 HB2) | ((with_reducible refine store_is 3 ?_); refine wl_puts 25 (.tmp 3) _ (w.heap.size + 2) 0 (mcl (kmsg m.kind) nil0 nil0) rfl rfl (size_mc _ _ _ (kmsg_wf hm)) (mcl_one rfl rfl) (by rw [mcl_length (kmsg_wf hm)]; exact HD.there) ?_; intro W4 e4; replace HD := HD.all zmsg_wf (kmsg_wf hm) (o' := nil0) (r' := nil0); rw [← e4] at HD; have HT : Tch (w.heap.size + 2) W3 W4 := (by rw [e4]; exact tch_setCells _ _ _ _); replace HA := HA.tch HT (by omega); replace HC := HC.tch HT (by omega); have HB4 := HT.below HB3 (by omega); have z4 : W4.heap.size = w.heap.size + 3 := HT.size.trans z3; have c4 := HA.cell 0 _ mc_0; clear e4 HT HB3))
  refine (fields_ok m.kind W4).mono ?_
  rintro e w5 ⟨Af, nf, cf, rfl, _, _, hof, hb5⟩
  rw [← HL.out] at hof
  have hnf : nf = L.length := by have := (own_nums_at hof).len; exact this
  subst hnf
  rw [z4] at hof
  have HI : BInv w w5 m o r (kmsg m.kind) nil0 nil0 L Af cf := ⟨kmsg_wf hm, HA.below hb5, HC.below hb5, HD.below hb5, two_kind _ _ _, hof, below_of HB4 hb5 (by omega), by have := hb5.size; omega⟩
  clear hof HA HC HD HB4 hb5 c4 z1 z2 z3 z4
  go_wp2_with fail
  go_loopw [13] (fun v13 wr => ∃ (k : Nat) (ok rk : Value), k ≤ L.length ∧ v13 = .int .i64 k ∧ BInv w wr m o r (bareK m k) ok rk L Af cf) (fun v13 _ => L.length - (intOf v13).toNat)
  case atStart => exact ⟨0, nil0, nil0, Nat.zero_le _, rfl, HI⟩
  case round =>
    obtain ⟨k, ok, rk, hk, rfl, HI⟩ := hrel
    by_cases hlt : k < L.length
    · obtain ⟨bF, oF, rfl, hcF⟩ := (own_nums_at HI.nums).at_ (by omega)
      have hck := hcF k hlt
      have HTY := Lib.hid (HFL.out L[k] (List.getElem_mem hlt))
      have HS : Hid (bareK m (k + 1) = cp (bareK m k) m L[k]) := by have h2 := HL.out; subst h2; exact bareK_succ m k hlt
      clear hcF
      obtain ⟨t, htt⟩ : ∃ t, t = L[k] := ⟨_, rfl⟩
      rw [← htt] at HTY HS hck
      clear htt
      rcases type_cases HTY.out with ⟨j, h1, h2, h3⟩ | ⟨j, h1, h2, h3⟩ | ⟨j, h1, h2, h3⟩
      · have HN := Lib.hid h1
        have hc1 := HI.src.num hm h1
        obtain ⟨f1, f2⟩ := HI.out.ok j (off_lt h1)
        obtain ⟨u, hu⟩ := Option.isSome_iff_exists.1 f1
        have HI2 : BInv w (wr.setCell ⟨w.heap.size + 2, j, none⟩ (.int .i64 (numV m t))) m o r (bareK m (k + 1)) ok rk L (some ⟨bF, oF, none⟩) cf := by
          rw [HS.out, num_cp h1]
          exact HI.tch (tch_setCell _ _ _ _) (num_wf HI.wf t (num_i64 hm t)) (HI.out.putN HI.wf h1 _) (two_setN HI.two h1 _)
        clear h1 h2 h3 f1
        go_wp2_with fail
        refine (numbers_ok _ t wr HTY.out).mono ?_
        rw [HN.out]
        rintro e w' ⟨rfl, rfl⟩
        simp only [ptrAt]
        go_wp2_with fail
        refine (numbers_ok _ t wr HTY.out).mono ?_
        rw [HN.out]
        rintro e w' ⟨rfl, rfl⟩
        simp only [ptrAt]
        go_wp2_with fail
        refine (numbers_ok _ t wr HTY.out).mono ?_
        rw [HN.out]
        rintro e w' ⟨rfl, rfl⟩
        simp only [ptrAt]
        go_wp2_with fail
        go_roundw
        case rel => exact ⟨k + 1, ok, rk, by omega, by go_num, HI2⟩
        case measure => simp [intOf]; omega
      · have HN := Lib.hid h1
        have HH := Lib.hid h2
        have hlen := hash_len hm t
        have HR1 := Lib.hid (HI.src.hashAt hm h2)
        have HTH := Lib.hid (HI.out.thereH h2)
        have HI2 : BInv w (wr.setCells (w.heap.size + 2) j (bvs (hashV m t))) m o r (bareK m (k + 1)) ok rk L (some ⟨bF, oF, none⟩) cf := by
          rw [HS.out, hash_cp h2]
          exact HI.tch (tch_setCells _ _ _ _) (hash_wf HI.wf t hlen) (HI.out.putH HI.wf h2 hlen) (two_setH HI.two h2 _)
        have HZ : Hid ((bvs (hashV m t)).length = 32) := by show _ = _; rw [bvs_length, hlen]
        clear h1 h2 h3 hlen
        go_wp2_with fail
        refine (numbers_ok _ t wr HTY.out).mono ?_
        rw [HN.out]
        rintro e w' ⟨rfl, rfl⟩
        simp only [ptrAt]
        go_wp2_with fail
        refine (hashes_ok _ t wr HTY.out).mono ?_
        rw [HH.out]
        rintro e w' ⟨rfl, rfl⟩
        simp only [ptrAt]
        go_wp2_with fail
        refine (hashes_ok _ t wr HTY.out).mono ?_
        rw [HH.out]
        rintro e w' ⟨rfl, rfl⟩
        simp only [ptrAt]
        go_wp2_with fail
        refine (hashes_ok _ t wr HTY.out).mono ?_
        rw [HH.out]
        rintro e w' ⟨rfl, rfl⟩
        simp only [ptrAt]
        go_wp2_with (first | ((with_reducible refine dst_is 45 ?_); refine wl_load 45 23 _ w.heap.size j (bvs (hashV m t)) _ rfl rfl Try.underlying23 rfl (by rw [HZ.out]; exact size_arr) HR1.out ?_) | ((with_reducible refine store_is 46 ?_); refine wl_puts 23 _ _ (w.heap.size + 2) j (bvs (hashV m t)) rfl rfl (by rw [HZ.out]; exact size_arr) (bvs_one _) (by rw [HZ.out]; exact HTH.out) ?_; intro W5 e5; rw [← e5] at HI2; clear e5))
        go_roundw
        case rel => exact ⟨k + 1, ok, rk, by omega, by go_num, HI2⟩
        case measure => simp [intOf]; omega
      · have HN := Lib.hid h1
        have HH := Lib.hid h2
        have HT := Lib.hid h3
        have HTV : Hid (Bytes wr (if t = 11 then o else r) (textV m t)) := by
          rcases offT_cases h3 with ⟨rfl, rfl⟩ | ⟨rfl, rfl⟩
          · exact HO.out.below HI.blw
          · exact HR.out.below HI.blw
        have hc1 := HI.src.text hm h3
        have hlen : Hid ((textV m t).length ≤ 140737488355328) := by
          rcases offT_cases h3 with ⟨rfl, rfl⟩ | ⟨rfl, rfl⟩
          · have := hm.onion; show m.onion.length ≤ _; omega
          · have := hm.reason; show m.reason.length ≤ _; omega
        have hlen2 : Hid ((textV m t).length ≤ 140737488351232) := by
          rcases offT_cases h3 with ⟨rfl, rfl⟩ | ⟨rfl, rfl⟩
          · exact hm.onion
          · exact hm.reason
        obtain ⟨tv, htv⟩ : ∃ tv, tv = if t = 11 then o else r := ⟨_, rfl⟩
        rw [← htv] at HTV hc1
        clear h1 h2 h3 htv
        go_wp2_with fail
        refine (numbers_ok _ t wr HTY.out).mono ?_
        rw [HN.out]
        rintro e w' ⟨rfl, rfl⟩
        simp only [ptrAt]
        go_wp2_with fail
        refine (hashes_ok _ t wr HTY.out).mono ?_
        rw [HH.out]
        rintro e w' ⟨rfl, rfl⟩
        simp only [ptrAt]
        go_wp2_with fail
        refine (texts_ok _ t wr HTY.out).mono ?_
        rw [HT.out]
        rintro e w' ⟨rfl, rfl⟩
        simp only [ptrAt]
        go_wp2_with fail
        refine (texts_ok _ t wr HTY.out).mono ?_
        rw [HT.out]
        rintro e w' ⟨rfl, rfl⟩
        simp only [ptrAt]
        go_wp2_with fail
        refine (clone_ok (textV m t) tv wr HTV.out hlen.out).mono ?_
        rintro e w6 ⟨v6, rfl, ho6, hb6⟩
        have HJ := HI.below hb6
        obtain ⟨f1, f2⟩ := HJ.out.ok j (offT_lt HT.out)
        obtain ⟨u, hu⟩ := Option.isSome_iff_exists.1 f1
        have HJ2 : BInv w (w6.setCell ⟨w.heap.size + 2, j, none⟩ v6) m o r (bareK m (k + 1)) (cpO ok v6 t) (cpR rk v6 t) L (some ⟨bF, oF, none⟩) cf := by
          rw [HS.out, text_cp HT.out]
          exact HJ.tch (tch_setCell _ _ _ _) (text_wf HJ.wf t hlen2.out) (HJ.out.putT HJ.wf HT.out v6) (two_setT HJ.two HT.out (own_lower ho6 HI.sz))
        obtain ⟨A6, c6, e6, _⟩ := own_form ho6
        subst e6
        clear ho6 hb6 HJ f1 HI hc1 hck
        go_wp2_with fail
        go_roundw
        case rel => exact ⟨k + 1, _, _, by omega, by go_num, HJ2⟩
        case measure => simp [intOf]; omega
    · have hkl : k = L.length := by omega
      have HS : Hid (bareK m k = bareS m) := by show _ = _; rw [hkl, HL.out]; exact bareK_all m
      rw [HS.out] at HI
      have HOK := Lib.hid (own_one HI.two.1)
      have HRK := Lib.hid (own_one HI.two.2)
      clear hkl
      go_wp2_with (first | ((with_reducible refine dst_is 48 ?_); refine wl_load 48 25 _ (w.heap.size + 2) 0 (mcl (bareS m) ok rk) _ rfl rfl Try.underlying25 rfl (size_mc _ _ _ HI.wf) HI.out.range ?_) | ((with_reducible refine store_is 2 ?_); refine wl_puts 25 _ _ (w.heap.size + 1) 0 (mcl (bareS m) ok rk) rfl rfl (size_mc _ _ _ HI.wf) (mcl_one HOK.out HRK.out) (by rw [mcl_length HI.wf]; exact HI.res.there) ?_; intro W5 e5; have HC5 := HI.res.all zmsg_wf HI.wf (o' := ok) (r' := rk); rw [← e5] at HC5; have HT : Tch (w.heap.size + 1) wr W5 := (by rw [e5]; exact tch_setCells _ _ _ _); have HB5 := HT.below HI.blw (by omega); clear e5))
      (try simp only [Exit.inBlock, Exit.then])
      exact bodyPost_ret (results_msg rfl _ rfl HC5 HI.wf) rfl ⟨_, _, rfl, own_lower (own_tch HI.two.1 HT (by omega)) (by omega), own_lower (own_tch HI.two.2 HT (by omega)) (by omega), HB5⟩
end Go.Proofs.Ytdohenfbehpplaa
/- Single operations, guarded or not, as laws: a comparison, a literal. -/
namespace Go.Proofs.Ytdohenfbehpplaa
set_option linter.unusedVariables false
set_option linter.unusedSimpArgs false
open Go.RowKit
section
variable {P : Program} {ops : Array Oper} {rest : List Oper} {a : Act} {Q : Exit → Act → World → Prop} {W : World} {rt : TypeId} {pos : String} {after : Array Edge} {g : Option (Nat × Bool)}
/-- 'x op y', whatever the operands: by its run. -/
theorem wl_bin (d : Tmp) (op : BinOp) (ty : TypeId) (x y : Operand) (t2 : TypeId) (u v res : Value) (hx : a.eval x = u) (hy : a.eval y = v)
    (hw : Region.wanted { dst := some d, op := .binOp op ty x y t2, type := rt, pos := pos, after := after, guard := g } (yielded ops a.tmps) = true)
    (hg : (eqGuard op ty x y u v).run P W = .ok () W) (hr : (binOp op ty u v).run P W = .ok res W) (h : wpList P ops Q rest (a.put (some d) res) W) :
    wpList P ops Q ({ dst := some d, op := .binOp op ty x y t2, type := rt, pos := pos, after := after, guard := g } :: rest) a W := by
  refine wpList_step fun K hK => ?_
  rw [if_pos hw]
  unfold Oper.wp execOp
  simp only [hx, hy, Sem.run_bind, hg, hr, Result.andThen_ok, Sem.run_pure]
  exact hK _ _ h
/-- A literal of nothing but zeros. -/
theorem wl_zero (d : Tmp) (ty : TypeId) (v : Value)
    (hw : Region.wanted { dst := some d, op := .build ty #[], type := rt, pos := pos, after := after, guard := g } (yielded ops a.tmps) = true)
    (hr : ∀ W, (Instr.build ty #[]).run P W = .ok v W) (h : wpList P ops Q rest (a.put (some d) v) W) :
    wpList P ops Q ({ dst := some d, op := .build ty #[], type := rt, pos := pos, after := after, guard := g } :: rest) a W := by
  refine wpList_step fun K hK => ?_
  rw [if_pos hw]
  unfold Oper.wp execOp
  have e : ((#[] : Array (Nat × Operand)).map fun (p : Nat × Operand) => (p.1, a.eval p.2)) = #[] := by simp
  have := hr W
  rw [← e] at this
  simp only [Sem.run_bind, this, Result.andThen_ok, Sem.run_pure]
  exact hK _ _ h
end
/-- A byte of a row of one's own. -/
theorem own_at {w : World} {base n c : Nat} {e : TypeId} {A : Option Addr} {l : List UInt8} (h : w.ownsRow base e 1 (.slice A n c) n (bvs l)) (k : Nat) (hk : k < l.length) : ∃ g, A = some ⟨g, 0, none⟩ ∧ base ≤ g ∧ w.cell? ⟨g, k, none⟩ = some (bv l[k]) := by
  rcases h.2 with ⟨e1, h0⟩ | ⟨g, cap, cur, e2, hb, _⟩
  · have := h.1
    rw [bvs_length] at this
    omega
  · simp only [Value.slice.injEq] at e2
    obtain ⟨rfl, _, rfl⟩ := e2
    have := h.cells (g := g) rfl k (bv l[k]) (by simp [bvs, hk])
    rw [add_plain] at this
    exact ⟨g, rfl, hb, this⟩
end Go.Proofs.Ytdohenfbehpplaa
/- slices.Index, slices.Contains at []uint64; wire.isBare: contracts. -/
namespace Go.Proofs.Ytdohenfbehpplaa
set_option linter.unusedVariables false
set_option linter.unusedSimpArgs false
open Go.RowKit
attribute [local irreducible] Go.wpList
attribute [local go_sem ↓] ldm stm bdm

set_option maxRecDepth 20000 in
theorem index_ok (L : List Nat) (v : Value) (t : Nat) (w : World) (h : Nums w v L) (hL : L.length ≤ 1000) :
    Calls Try.prog 52 #[v, .int .u64 t] w fun e w' => (∃ x : Int, e = .returned (.int .i64 x) ∧ ((0 ≤ x) ↔ t ∈ L)) ∧ w = w' := by
  obtain ⟨A, n, c, rfl⟩ : ∃ A n c, v = .slice A n c := by obtain ⟨A, n, c, e, _⟩ := h; exact ⟨A, n, c, e⟩
  obtain rfl := h.len
  have HH := Lib.hid h
  clear h
  go_enter Try.func52, Try.ntmps52
  go_wp2_with fail
  go_loop [8] (fun v8 => ∃ k : Nat, k ≤ L.length ∧ v8 = .int .i64 k ∧ Hid (t ∉ L.take k)) (fun v8 => L.length - (intOf v8).toNat)
  case atStart => exact ⟨0, Nat.zero_le _, rfl, by show _ ∉ _; simp⟩
  case round =>
    obtain ⟨k, hk, rfl, HN⟩ := hrel
    by_cases hlt : k < L.length
    · obtain ⟨b, off, rfl, hc⟩ := HH.out.at_ (by omega)
      have hck := hc k hlt
      clear hc
      by_cases he : L[k] = t
      · have heq : ((t : Int) == (L[k] : Int)) = true := by rw [beq_iff_eq]; omega
        have HM : Hid (t ∈ L) := by show t ∈ L; rw [← he]; exact List.getElem_mem hlt
        clear he
        go_wp2_with fail
        go_ret
        exact ⟨⟨_, rfl, ⟨fun _ => HM.out, fun _ => by omega⟩⟩, rfl⟩
      · have heq : ((t : Int) == (L[k] : Int)) = false := by rw [beq_eq_false_iff_ne]; omega
        have HN2 : Hid (t ∉ L.take (k + 1)) := by
          show _ ∉ _
          rw [List.take_succ_eq_append_getElem hlt, List.mem_append, not_or]
          exact ⟨HN.out, by simp; omega⟩
        clear he
        go_wp2_with fail
        go_round
        case rel => exact ⟨k + 1, by omega, by go_num, HN2⟩
        case measure => simp [intOf]; omega
    · have HN2 : Hid (t ∉ L) := by have := HN.out; rw [List.take_of_length_le (by omega)] at this; exact this
      go_wp2_with fail
      go_ret
      exact ⟨⟨_, rfl, ⟨fun h => by omega, fun h => absurd h HN2.out⟩⟩, rfl⟩
theorem contains_ok (L : List Nat) (v : Value) (t : Nat) (w : World) (h : Nums w v L) (hL : L.length ≤ 1000) :
    Calls Try.prog 40 #[v, .int .u64 t] w fun e w' => e = .returned (.bool (decide (t ∈ L))) ∧ w = w' := by
  have HH := Lib.hid h
  clear h
  go_enter Try.func40, Try.ntmps40
  go_wp2_with fail
  refine (index_ok L v t w HH.out hL).mono ?_
  rintro e w' ⟨⟨x, rfl, hx⟩, rfl⟩
  have HX : Hid (decide (0 ≤ x) = decide (t ∈ L)) := by show _ = _; simp [hx]
  clear hx
  go_wp2_with fail
  go_ret
  exact ⟨by rw [← HX.out]; simp, rfl⟩
/-- Is a field at zero? -/
def zeroAt (m : Msg) (t : Nat) : Bool := if (offN t).isSome then numV m t == 0 else if (offH t).isSome then hashV m t == z32 else textV m t == []
def okTo (m : Msg) (i : Nat) : Bool := (List.range i).all fun j => decide (2 * j + 1 ∈ fieldsOf m.kind) || zeroAt m (2 * j + 1)
def isBareS (m : Msg) : Bool := okTo m 12
theorem okTo_succ (m : Msg) (i : Nat) : okTo m (i + 1) = (okTo m i && (decide (2 * i + 1 ∈ fieldsOf m.kind) || zeroAt m (2 * i + 1))) := by simp [okTo, List.range_succ]
theorem okTo_false {m : Msg} {i : Nat} (h : okTo m i = false) : ∀ j, i ≤ j → okTo m j = false := by
  intro j hj
  obtain ⟨d, rfl⟩ := Nat.exists_eq_add_of_le hj
  induction d with
  | zero => exact h
  | succ d ih => rw [← Nat.add_assoc, okTo_succ, ih (by omega)]; rfl
theorem run_neq32 (a b : List UInt8) (ha : a.length = 32) (hb : b.length = 32) (W : World) : (binOp .neq 23 (.agg (bvs a).toArray) (.agg (bvs b).toArray)).run Try.prog W = .ok (.bool (!(a == b))) W := by
  simp only [binOp, Op.equal, Op.maxDepth, Sem.run_bind, run_eq32 23 5 Try.underlying23 Try.underlying5 run_size_u8 a b ha hb W, Result.andThen_ok, Sem.run_pure]
theorem build_z32 (W : World) : (Instr.build 23 #[]).run Try.prog W = .ok (.agg (bvs z32).toArray) W := by kernel_rfl
set_option maxRecDepth 20000 in
set_option maxHeartbeats 1600000 in
/-- wire.isBare. -/
theorem isBare_ok (m : Msg) (o r : Value) (w : World) (hm : m.Wf) (ho : Bytes w o m.onion) (hr : Bytes w r m.reason) :
    Calls Try.prog 33 #[.agg (mc m o r)] w fun e w' => e = .returned (.bool (isBareS m)) ∧ Below w.heap.size w w' := by
  have HO := Lib.hid ho
  have HR := Lib.hid hr
  obtain ⟨E, hE⟩ : ∃ E, E = isBareS m := ⟨_, rfl⟩
  rw [← hE]
  have HE := Lib.hid hE
  obtain ⟨L, hL⟩ : ∃ L, L = fieldsOf m.kind := ⟨_, rfl⟩
  have HL := Lib.hid hL
  have hll : L.length ≤ 6 := by rw [hL]; exact fields_length _
  clear ho hr hL hE
  go_enter Try.func33, Try.ntmps33
  go_wp2_with (first | ((with_reducible refine dst_is 1 ?_); refine wl_box 1 _ _ _ rfl ?_; intro W1 e1; have z1 : W1.heap.size = w.heap.size + 1 := (by rw [e1]; simp); have HA : MsgIn W1 w.heap.size m o r := (by rw [e1]; exact msgIn_new w hm); have HB1 : Below w.heap.size w W1 := (by rw [e1]; exact (Below.refl _ _).alloc (Nat.le_refl _) _); have c0 := HA.cell 0 _ mc_0; clear e1))
  refine (fields_ok m.kind W1).mono ?_
  rintro e w5 ⟨Af, nf, cf, rfl, hnf, _, _, hb5⟩
  rw [← HL.out] at hnf
  obtain rfl := hnf.len
  have HF := Lib.hid hnf
  have HM := Lib.hid (HA.below hb5)
  have HB := Lib.hid (below_of HB1 hb5 (by omega))
  clear hnf HA HB1 hb5 c0 z1
  go_wp2_with fail
  go_loop [4] (fun v4 => ∃ i : Nat, i ≤ 12 ∧ v4 = .int .u64 ((2 * i + 1 : Nat) : Int) ∧ Hid (okTo m i = true)) (fun v4 => 30 - (intOf v4).toNat)
  case atStart => exact ⟨0, Nat.zero_le _, rfl, by show _ = _; rfl⟩
  case round =>
    obtain ⟨i, hi, rfl, HK⟩ := hrel
    by_cases hlt : i < 12
    · have hty : isType (2 * i + 1) := by unfold isType; omega
      have HTY := Lib.hid hty
      have HS := Lib.hid (okTo_succ m i)
      obtain ⟨t, ht⟩ : ∃ t, t = 2 * i + 1 := ⟨_, rfl⟩
      rw [← ht] at HTY HS
      have ht23 : (t : Int) ≤ 23 := by omega
      simp only [← ht]
      have HT := Lib.hid ht
      clear hty ht
      go_wp2_with fail
      refine (contains_ok L _ t w5 HF.out (by omega)).mono ?_
      rintro e w' ⟨rfl, rfl⟩
      by_cases hmem : t ∈ L
      · have hd : decide (t ∈ L) = true := by simpa using hmem
        rw [hd]
        have HK2 : Hid (okTo m (i + 1) = true) := by
          show _ = _; rw [HS.out, HK.out, ← HL.out, hd]; rfl
        clear hmem hd
        have HU : Hid (((t : Int) + 2) = ((2 * (i + 1) + 1 : Nat) : Int)) := by have := HT.out; show _ = _; omega
        go_wp2_with fail
        go_round
        case rel => exact ⟨i + 1, by omega, by rw [HU.out], HK2⟩
        case measure => have := HT.out; first | (simp [intOf]; done) | (simp [intOf]; omega)
      · have hd : decide (t ∈ L) = false := by simpa using hmem
        rw [hd]
        have HD := Lib.hid hd
        clear hd hmem
        have HU : Hid (((t : Int) + 2) = ((2 * (i + 1) + 1 : Nat) : Int)) := by have := HT.out; show _ = _; omega
        have HKE : Hid (okTo m (i + 1) = zeroAt m t) := by
          show _ = _; rw [HS.out, HK.out, ← HL.out, HD.out]; rfl
        have HEF : Hid (zeroAt m t = false → E = false) := fun h => by rw [HE.out]; exact okTo_false (i := i + 1) (by rw [HKE.out, h]) 12 (by omega)
        go_wp2_with fail
        refine (numbers_ok _ t w5 HTY.out).mono ?_
        rintro e w' ⟨rfl, rfl⟩
        go_wp2_with fail
        refine (hashes_ok _ t w5 HTY.out).mono ?_
        rintro e w' ⟨rfl, rfl⟩
        go_wp2_with fail
        refine (texts_ok _ t w5 HTY.out).mono ?_
        rintro e w' ⟨rfl, rfl⟩
        rcases type_cases HTY.out with ⟨j, h1, h2, h3⟩ | ⟨j, h1, h2, h3⟩ | ⟨j, h1, h2, h3⟩
        · have hc1 := HM.out.num hm h1
          have HZ : Hid (zeroAt m t = (numV m t == 0)) := by show _ = _; unfold zeroAt; rw [h1]; rfl
          simp only [h1, h2, h3, ptrAt]
          cases hq : (numV m t == 0) with
          | true =>
            have hq' : (numV m t != 0) = false := by simpa [bne] using hq
            have HK2 : Hid (okTo m (i + 1) = true) := by show _ = _; rw [HKE.out, HZ.out, hq]
            clear hq
            go_wp2_with fail
            go_round
            case rel => exact ⟨i + 1, by omega, by rw [HU.out], HK2⟩
            case measure => have := HT.out; first | (simp [intOf]; done) | (simp [intOf]; omega)
          | false =>
            have hq' : (numV m t != 0) = true := by simpa [bne] using hq
            have HE2 := Lib.hid (HEF.out (by rw [HZ.out, hq]))
            clear hq
            go_wp2_with fail
            go_ret
            exact ⟨by rw [HE2.out]; rfl, HB.out⟩
        · have hlen := hash_len hm t
          have HR1 := Lib.hid (HM.out.hashAt hm h2)
          have HN := Lib.hid (run_neq32 (hashV m t) z32 hlen rfl)
          have HSZ := Lib.hid (bvs_size (hashV m t) hlen)
          have HZ : Hid (zeroAt m t = (hashV m t == z32)) := by show _ = _; unfold zeroAt; rw [h1, h2]; rfl
          simp only [h1, h2, h3, ptrAt]
          clear hlen
          cases hq : (hashV m t == z32) with
          | true =>
            have HK2 : Hid (okTo m (i + 1) = true) := by show _ = _; rw [HKE.out, HZ.out, hq]
            rw [hq] at HN
            clear hq
            go_wp2_with (first | ((with_reducible refine dst_is 38 ?_); refine wl_load 38 23 _ w.heap.size j (bvs (hashV m t)) _ rfl rfl Try.underlying23 rfl HSZ.out HR1.out ?_) | ((with_reducible refine dst_is 39 ?_); refine wl_zero 39 _ _ rfl build_z32 ?_) | ((with_reducible refine dst_is 40 ?_); refine wl_bin 40 _ _ _ _ _ _ _ _ rfl rfl rfl (run_eqGuard_agg _ .neq _ _ _ _ _ Try.eqGuardType23) (HN.out _) ?_))
            go_round
            case rel => exact ⟨i + 1, by omega, by rw [HU.out], HK2⟩
            case measure => have := HT.out; first | (simp [intOf]; done) | (simp [intOf]; omega)
          | false =>
            have HE2 := Lib.hid (HEF.out (by rw [HZ.out, hq]))
            rw [hq] at HN
            clear hq
            go_wp2_with (first | ((with_reducible refine dst_is 38 ?_); refine wl_load 38 23 _ w.heap.size j (bvs (hashV m t)) _ rfl rfl Try.underlying23 rfl HSZ.out HR1.out ?_) | ((with_reducible refine dst_is 39 ?_); refine wl_zero 39 _ _ rfl build_z32 ?_) | ((with_reducible refine dst_is 40 ?_); refine wl_bin 40 _ _ _ _ _ _ _ _ rfl rfl rfl (run_eqGuard_agg _ .neq _ _ _ _ _ Try.eqGuardType23) (HN.out _) ?_))
            go_ret
            exact ⟨by rw [HE2.out]; rfl, HB.out⟩
        · have hc1 := HM.out.text hm h3
          have HTV : Hid (Bytes w (if t = 11 then o else r) (textV m t)) := by
            rcases offT_cases h3 with ⟨rfl, rfl⟩ | ⟨rfl, rfl⟩
            · exact HO.out
            · exact HR.out
          have HZ : Hid (zeroAt m t = (textV m t == [])) := by show _ = _; unfold zeroAt; rw [h1, h2]; rfl
          obtain ⟨tv, htv⟩ : ∃ tv, tv = if t = 11 then o else r := ⟨_, rfl⟩
          rw [← htv] at HTV hc1
          obtain ⟨At, nt, ct, rfl⟩ := HTV.out.slice
          obtain rfl := bytes_len HTV.out
          simp only [h1, h2, h3, ptrAt]
          clear htv
          by_cases hq : textV m t = []
          · have hl0 : ¬ (0 : Int) < (textV m t).length := by rw [hq]; simp
            have HK2 : Hid (okTo m (i + 1) = true) := by show _ = _; rw [HKE.out, HZ.out, hq]; rfl
            clear hq
            go_wp2_with fail
            go_round
            case rel => exact ⟨i + 1, by omega, by rw [HU.out], HK2⟩
            case measure => have := HT.out; first | (simp [intOf]; done) | (simp [intOf]; omega)
          · have hl0 : (0 : Int) < (textV m t).length := by have := List.length_pos_iff.2 hq; omega
            have HE2 := Lib.hid (HEF.out (by rw [HZ.out]; simpa using hq))
            clear hq
            go_wp2_with fail
            go_ret
            exact ⟨by rw [HE2.out]; rfl, HB.out⟩
    · have HE2 : Hid (E = true) := by
        obtain rfl : i = 12 := by omega
        show _ = _; rw [HE.out]; exact HK.out
      have hi12 : (23 : Int) < 2 * (i : Int) + 1 := by omega
      go_wp2_with fail
      go_ret
      exact ⟨by rw [HE2.out]; rfl, HB.out⟩
end Go.Proofs.Ytdohenfbehpplaa
/- wire.May: a contract. -/
namespace Go.Proofs.Ytdohenfbehpplaa
set_option linter.unusedVariables false
set_option linter.unusedSimpArgs false
open Go.RowKit
attribute [local irreducible] Go.wpList
attribute [local go_sem ↓] ldm stm bdm

theorem okTo_12 (m : Msg) : isBareS m = (([0, 1, 2, 3, 4, 5, 6, 7, 8, 9, 10, 11] : List Nat).all fun j => decide (2 * j + 1 ∈ fieldsOf m.kind) || zeroAt m (2 * j + 1)) := rfl
/-- A message is bare just if it is the same as its bare one. -/
theorem isBare_eq (m : Msg) (hf : fieldsOf m.kind ≠ []) : isBareS m = sameB m (bareS m) := by
  rw [okTo_12]
  obtain ⟨kind, channel, id, amount, expiry, hash, onion, secret, point, tag, number, told, reason⟩ := m
  simp only at hf
  rcases fields_dec kind with ⟨i, rfl, h1, h2⟩ | ⟨_, h0⟩
  · obtain rfl | rfl | rfl | rfl | rfl | rfl : i = 1 ∨ i = 2 ∨ i = 3 ∨ i = 4 ∨ i = 5 ∨ i = 6 := by omega
    all_goals
      simp [fieldsOf, zeroAt, offN, offH, numV, hashV, textV, sameB, bareS, cp, kmsg, zmsg, z32, Bool.and_assoc]
  · exact absurd h0 hf
theorem within_ok (n a b : Int) (w : World) : Calls Try.prog 32 #[.int .i64 n, .int .i64 a, .int .i64 b] w fun e w' => e = .returned (.bool (decide (a ≤ n ∧ n ≤ b))) ∧ w = w' := by
  by_cases h1 : a ≤ n
  · by_cases h2 : n ≤ b
    · have e : decide (a ≤ n ∧ n ≤ b) = true := by simp [h1, h2]
      rw [e]; clear e
      go_enter Try.func32, Try.ntmps32
      go_wp2_with fail
      go_ret
      exact ⟨rfl, rfl⟩
    · have e : decide (a ≤ n ∧ n ≤ b) = false := by simp [h1, h2]
      rw [e]; clear e
      go_enter Try.func32, Try.ntmps32
      go_wp2_with fail
      go_ret
      exact ⟨rfl, rfl⟩
  · have e : decide (a ≤ n ∧ n ≤ b) = false := by simp [h1]
    rw [e]; clear e
    go_enter Try.func32, Try.ntmps32
    go_wp2_with fail
    go_ret
    exact ⟨rfl, rfl⟩
set_option maxRecDepth 20000 in
set_option maxHeartbeats 1600000 in
/-- wire.May. -/
theorem may_ok (m : Msg) (o r : Value) (w : World) (hm : m.Wf) (ho : Bytes w o m.onion) (hr : Bytes w r m.reason) :
    Calls Try.prog 16 #[.agg (mc m o r)] w fun e w' => e = .returned (.bool (mayS m)) ∧ Below w.heap.size w w' := by
  have HO := Lib.hid ho
  have HR := Lib.hid hr
  obtain ⟨Ao, no, co, rfl⟩ := ho.slice
  obtain rfl := bytes_len ho
  obtain ⟨Ar, nr, cr, rfl⟩ := hr.slice
  obtain rfl := bytes_len hr
  obtain ⟨E, hE⟩ : ∃ E, E = mayS m := ⟨_, rfl⟩
  rw [← hE]
  have HF : Hid (¬ (fieldsOf m.kind ≠ [] ∧ sameB m (bareS m) = true ∧ inRange m ∧ (m.kind ≠ 1 ∨ m.onion.length = 2112)) → E = false) := fun h => by rw [hE]; unfold mayS; simpa using h
  have HT : Hid ((fieldsOf m.kind ≠ [] ∧ sameB m (bareS m) = true ∧ inRange m ∧ (m.kind ≠ 1 ∨ m.onion.length = 2112)) → E = true) := fun h => by rw [hE]; unfold mayS; simpa using h
  obtain ⟨L, hL⟩ : ∃ L, L = fieldsOf m.kind := ⟨_, rfl⟩
  have HL := Lib.hid hL
  clear ho hr hL hE
  have hnil : ∀ (A : Option Addr) (n c : Nat) (W : World), (binOp .eql 45 (.slice A n c) (.slice none 0 0)).run Try.prog W = .ok (.bool A.isNone) W := fun A n c W => by
    have := Lib.run_eql_slice_nil (P := Try.prog) W 45 32 A n c 0 0 Try.underlying45
    simpa using this
  have HNIL := Lib.hid hnil
  clear hnil
  go_enter Try.func16, Try.ntmps16
  go_wp2_with (first | ((with_reducible refine dst_is 1 ?_); refine wl_box 1 _ _ _ rfl ?_; intro W1 e1; have z1 : W1.heap.size = w.heap.size + 1 := (by rw [e1]; simp); have HA : MsgIn W1 w.heap.size m (.slice Ao m.onion.length co) (.slice Ar m.reason.length cr) := (by rw [e1]; exact msgIn_new w hm); have HB1 : Below w.heap.size w W1 := (by rw [e1]; exact (Below.refl _ _).alloc (Nat.le_refl _) _); have c0 := HA.cell 0 _ mc_0; clear e1))
  refine (fields_ok m.kind W1).mono ?_
  rintro e w5 ⟨Af, nf, cf, rfl, hnf, hnn, _, hb5⟩
  rw [← HL.out] at hnn
  have HM := Lib.hid (HA.below hb5)
  have HB := Lib.hid (below_of HB1 hb5 (by omega))
  clear hnf HA HB1 hb5 c0 z1
  cases Af with
  | none =>
    have HE := Lib.hid (HF.out (fun h => h.1 (by rw [← HL.out]; exact hnn.1 rfl)))
    have hn2 := HNIL.out none nf cf
    clear hnn
    go_wp2_with fail
    go_ret
    exact ⟨by rw [HE.out]; rfl, HB.out⟩
  | some af =>
    have hf : fieldsOf m.kind ≠ [] := fun h => by have := hnn.2 (by rw [HL.out, h]); cases this
    have hn2 := HNIL.out (some af) nf cf
    have HQ := Lib.hid hf
    clear hnn hf
    go_wp2_with (first | ((with_reducible refine dst_is 10 ?_); refine wl_load 10 25 _ w.heap.size 0 (mcl m (.slice Ao m.onion.length co) (.slice Ar m.reason.length cr)) _ rfl rfl Try.underlying25 rfl (size_mc _ _ _ hm) HM.out.range ?_))
    refine (isBare_ok m _ _ _ hm (HO.out.below HB.out) (HR.out.below HB.out)).mono ?_
    rintro e w6 ⟨rfl, hb6⟩
    have HM6 := Lib.hid (HM.out.below hb6)
    have HB6 := Lib.hid (below_of HB.out hb6 HB.out.size)
    rw [isBare_eq m HQ.out]
    clear hb6 hn2 HM HB
    cases hs : sameB m (bareS m) with
    | false =>
      have HE := Lib.hid (HF.out (fun h => by rw [hs] at h; cases h.2.1))
      clear hs
      go_wp2_with fail
      go_ret
      exact ⟨by rw [HE.out]; rfl, HB6.out⟩
    | true =>
      have HS := Lib.hid hs
      have c1 := HM6.out.cell 1 _ mc_1
      have c2 := HM6.out.cell 2 _ mc_2
      have c3 := HM6.out.cell 3 _ mc_3
      have c4 := HM6.out.cell 4 _ mc_4
      clear hs
      go_wp2_with fail
      refine (within_ok _ _ _ _).mono ?_
      rintro e w' ⟨rfl, rfl⟩
      cases h1 : decide (1 ≤ m.channel ∧ m.channel ≤ 65535) with
      | false =>
        have HE := Lib.hid (HF.out (fun h => by have := h.2.2.1; unfold inRange at this; simp at h1; omega))
        clear h1
        go_wp2_with fail
        go_ret
        exact ⟨by rw [HE.out]; rfl, HB6.out⟩
      | true =>
      have H1 := Lib.hid (of_decide_eq_true h1)
      clear h1
      go_wp2_with fail
      refine (within_ok _ _ _ _).mono ?_
      rintro e w' ⟨rfl, rfl⟩
      cases h1 : decide (0 ≤ m.id ∧ m.id ≤ 2147483647) with
      | false =>
        have HE := Lib.hid (HF.out (fun h => by have := h.2.2.1; unfold inRange at this; simp at h1; omega))
        clear h1
        go_wp2_with fail
        go_ret
        exact ⟨by rw [HE.out]; rfl, HB6.out⟩
      | true =>
      have H2 := Lib.hid (of_decide_eq_true h1)
      clear h1
      by_cases ha : m.amount < 0
      · have HE := Lib.hid (HF.out (fun h => by have := h.2.2.1; unfold inRange at this; omega))
        go_wp2_with fail
        go_ret
        exact ⟨by rw [HE.out]; rfl, HB6.out⟩
      go_wp2_with fail
      refine (within_ok _ _ _ _).mono ?_
      rintro e w' ⟨rfl, rfl⟩
      cases h1 : decide (0 ≤ m.expiry ∧ m.expiry ≤ 2147483647) with
      | false =>
        have HE := Lib.hid (HF.out (fun h => by have := h.2.2.1; unfold inRange at this; simp at h1; omega))
        clear h1
        go_wp2_with fail
        go_ret
        exact ⟨by rw [HE.out]; rfl, HB6.out⟩
      | true =>
      have H3 := Lib.hid (of_decide_eq_true h1)
      have c5 := HM6.out.cell 134 _ (mc_134 hm)
      have c6 := HM6.out.cell 135 _ (mc_135 hm)
      have c7 := HM6.out.cell 136 _ (mc_136 hm)
      clear h1 c1 c2 c3 c4
      go_wp2_with fail
      refine (within_ok _ _ _ _).mono ?_
      rintro e w' ⟨rfl, rfl⟩
      cases h1 : decide (0 ≤ m.number ∧ m.number ≤ 2147483647) with
      | false =>
        have HE := Lib.hid (HF.out (fun h => by have := h.2.2.1; unfold inRange at this; simp at h1; omega))
        clear h1
        go_wp2_with fail
        go_ret
        exact ⟨by rw [HE.out]; rfl, HB6.out⟩
      | true =>
      have H4 := Lib.hid (of_decide_eq_true h1)
      clear h1
      go_wp2_with fail
      refine (within_ok _ _ _ _).mono ?_
      rintro e w' ⟨rfl, rfl⟩
      cases h1 : decide (0 ≤ m.told ∧ m.told ≤ 2147483647) with
      | false =>
        have HE := Lib.hid (HF.out (fun h => by have := h.2.2.1; unfold inRange at this; simp at h1; omega))
        clear h1
        go_wp2_with fail
        go_ret
        exact ⟨by rw [HE.out]; rfl, HB6.out⟩
      | true =>
      have H5 := Lib.hid (of_decide_eq_true h1)
      clear h1
      have c0 := HM6.out.cell 0 _ mc_0
      have c8 := HM6.out.cell 37 _ (mc_37 hm)
      by_cases hrl : (256 : Int) < m.reason.length
      · have HE := Lib.hid (HF.out (fun h => by have := h.2.2.1; unfold inRange at this; omega))
        go_wp2_with fail
        go_ret
        exact ⟨by rw [HE.out]; rfl, HB6.out⟩
      have HRANGE : Hid (inRange m) := by
        have a1 := H1.out; have a2 := H2.out; have a3 := H3.out; have a4 := H4.out; have a5 := H5.out
        show inRange m; unfold inRange; omega
      clear H1 H2 H3 H4 H5
      cases hk : (m.kind != 1) with
      | true =>
        have HE := Lib.hid (HT.out ⟨HQ.out, HS.out, HRANGE.out, .inl (by simpa using hk)⟩)
        go_wp2_with fail
        go_ret
        exact ⟨by rw [HE.out]; rfl, HB6.out⟩
      | false =>
        cases hol : ((m.onion.length : Int) == 2112) with
        | true =>
          have HE := Lib.hid (HT.out ⟨HQ.out, HS.out, HRANGE.out, .inr (by rw [beq_iff_eq] at hol; omega)⟩)
          go_wp2_with fail
          go_ret
          exact ⟨by rw [HE.out]; rfl, HB6.out⟩
        | false =>
          have HE := Lib.hid (HF.out (fun h => by
            rw [beq_eq_false_iff_ne] at hol
            rcases h.2.2.2 with h | h
            · rw [bne_eq_false_iff_eq] at hk; exact h hk
            · omega))
          go_wp2_with fail
          go_ret
          exact ⟨by rw [HE.out]; rfl, HB6.out⟩
end Go.Proofs.Ytdohenfbehpplaa
/- bigsize.Encode: a contract. -/
namespace Go.Proofs.Ytdohenfbehpplaa
set_option linter.unusedVariables false
set_option linter.unusedSimpArgs false
open Go.RowKit

set_option maxRecDepth 20000 in
set_option maxHeartbeats 1600000 in
theorem encode_ok (l : List Rec) (v : Value) (w : World) (h : Recs w v l) (hl : l.length ≤ 64) (hB : ∀ r ∈ l, r.2.length ≤ 140737488351232 ∧ r.1 < 18446744073709551616) :
    Calls Try.prog 14 #[v] w fun e w' => ∃ v', e = .returned (.tuple #[v', .int .i64 (encS l).2]) ∧ w'.ownsRow w.heap.size 5 1 v' (encS l).1.length (bvs (encS l).1) ∧ Below w.heap.size w w' := by
  have HH := Lib.hid h
  obtain ⟨A, c, rfl, h1, h2, h4, h3⟩ := h.open
  obtain ⟨E, hE⟩ : ∃ E, E = encS l := ⟨_, rfl⟩
  rw [← hE]
  have HE := Lib.hid hE
  have HB := Lib.hid hB
  clear h h3 h4 hE hB
  go_enter Try.func14, Try.ntmps14
  go_wp2_with fail
  go_loopw [4, 12] (fun v4 v12 wr => ∃ k : Nat, k ≤ l.length ∧ v12 = .int .i64 k ∧ v4 = .int .i64 (recsSize (l.take k)) ∧ Hid (ordTo l k = true) ∧ Hid (Below w.heap.size w wr)) (fun _ v12 _ => l.length - (intOf v12).toNat)
  case atStart => exact ⟨0, Nat.zero_le _, rfl, rfl, rfl, Below.refl _ _⟩
  case round =>
    obtain ⟨k, hk, rfl, rfl, HO, HBr⟩ := hrel
    have hsr := HBr.out.size
    by_cases hlt : k < l.length
    · obtain ⟨b, off, rfl, _, hc⟩ := HH.out.at_ HBr.out (by omega)
      obtain ⟨A', c', hc1, hc2, hc3⟩ := hc k hlt
      have HC3 := Lib.hid hc3
      have HC := Lib.hid hc
      have HB2 := HB.out l[k] (List.getElem_mem hlt)
      clear hc hc3
      have hr1 : recsSize (l.take k) ≤ 9007199254741888 := by
        have h1 := recsSize_take_le l 140737488351232 (fun r hr => (HB.out r hr).1) k
        have h2 : k * (140737488351232 + 18) ≤ 64 * (140737488351232 + 18) := Nat.mul_le_mul_right _ (by omega)
        omega
      obtain ⟨hb1, hb2⟩ := HB2
      have hz1 := size_le l[k].1
      have hz2 := size_le l[k].2.length
      have HS := Lib.hid (recsSize_take_succ l k hlt)
      have HOS := Lib.hid (ordTo_succ l k)
      by_cases hk0 : 0 < k
      · obtain ⟨m, hm⟩ : ∃ m, m + 1 = k := ⟨k - 1, by omega⟩
        have hml : m < l.length := by omega
        obtain ⟨A2, c2, hp1, _, _⟩ := HC.out m hml
        have hp1' := fun o => cell_alloc hp1 o
        have hw1 : IntKind.i64.wrap ((k : Int) - 1) = (m : Int) := by rw [IntKind.wrap_i64]; omega
        have HM := Lib.hid hm
        have hgd : (l.getD (k - 1) (0, [])).1 = l[m].1 ∧ (l.getD k (0, [])).1 = l[k].1 := by
          rw [show k - 1 = m by omega]
          simp [List.getD_eq_getElem?_getD, List.getElem?_eq_getElem, hml, hlt]
        have HG := Lib.hid hgd
        clear hm hgd
        by_cases ho : l[m].1 < l[k].1
        · have ho' : ¬ ((l[k].1 : Int) ≤ l[m].1) := by omega
          have HO2 : Hid (ordTo l (k + 1) = true) := by
            show _ = _
            rw [HOS.out, HO.out, HG.out.1, HG.out.2, decide_eq_true ho]; simp
          go_wp2_with fail
          go_quiet (fail)
          clear hw1
          go_wp2_with fail
          have wu : IntKind.u64.wrap (l[k].2.length : Int) = (l[k].2.length : Int) := wrap_u64_nat _ (by omega)
          have ws1 : IntKind.i64.wrap ((size l[k].1 : Int) + (size l[k].2.length : Int)) = (size l[k].1 : Int) + (size l[k].2.length : Int) := by rw [IntKind.wrap_i64]; omega
          have ws2 : IntKind.i64.wrap ((size l[k].1 : Int) + (size l[k].2.length : Int) + (l[k].2.length : Int)) = (size l[k].1 : Int) + (size l[k].2.length : Int) + (l[k].2.length : Int) := by rw [IntKind.wrap_i64]; omega
          have ws3 : IntKind.i64.wrap ((recsSize (l.take k) : Int) + ((size l[k].1 : Int) + (size l[k].2.length : Int) + (l[k].2.length : Int))) = (recsSize (l.take k) : Int) + ((size l[k].1 : Int) + (size l[k].2.length : Int) + (l[k].2.length : Int)) := by rw [IntKind.wrap_i64]; omega
          go_quiet ((go_at_call 29; first | exact quiet_same (size_ok _ _) | exact quiet_add (size_ok _ _)))
          clear wu ws1 ws2 ws3
          go_wp2_with fail
          go_roundw
          case rel => exact ⟨k + 1, by omega, by go_num, by rw [HS.out]; unfold recSize; go_num, HO2, below_drewN (HBr.out.alloc hsr _) _⟩
          case measure => simp [intOf]; omega
        · have ho' : ((l[k].1 : Int) ≤ l[m].1) := by omega
          have HO2 : Hid (ordTo l l.length = false) := by
            refine ordTo_false l (k + 1) ?_ _ (by omega)
            rw [HOS.out, HO.out, HG.out.1, HG.out.2, decide_eq_false ho]
            have : (k == 0) = false := by rw [beq_eq_false_iff_ne]; omega
            simp [this]
          have HE2 : Hid (E = ([], 11)) := by
            show _ = _
            rw [HE.out]; unfold encS; rw [if_pos HO2.out]
          go_wp2_with fail
          go_quiet (fail)
          clear hw1
          go_wp2_with fail
          go_ret2
          exact ⟨_, by rw [HE2.out]; rfl, by rw [HE2.out]; exact World.ownsRow_nil _ _ _ _, below_drewN (HBr.out.alloc hsr _) _⟩
      · have hkd : decide ((0 : Int) < (k : Int)) = false := by simp; omega
        have HO2 : Hid (ordTo l (k + 1) = true) := by
          show _ = _
          have : (k == 0) = true := by rw [beq_iff_eq]; omega
          rw [HOS.out, HO.out, this]; simp
        · go_wp2_with fail
          go_quiet (fail)
          clear hkd
          go_wp2_with fail
          have wu : IntKind.u64.wrap (l[k].2.length : Int) = (l[k].2.length : Int) := wrap_u64_nat _ (by omega)
          have ws1 : IntKind.i64.wrap ((size l[k].1 : Int) + (size l[k].2.length : Int)) = (size l[k].1 : Int) + (size l[k].2.length : Int) := by rw [IntKind.wrap_i64]; omega
          have ws2 : IntKind.i64.wrap ((size l[k].1 : Int) + (size l[k].2.length : Int) + (l[k].2.length : Int)) = (size l[k].1 : Int) + (size l[k].2.length : Int) + (l[k].2.length : Int) := by rw [IntKind.wrap_i64]; omega
          have ws3 : IntKind.i64.wrap ((recsSize (l.take k) : Int) + ((size l[k].1 : Int) + (size l[k].2.length : Int) + (l[k].2.length : Int))) = (recsSize (l.take k) : Int) + ((size l[k].1 : Int) + (size l[k].2.length : Int) + (l[k].2.length : Int)) := by rw [IntKind.wrap_i64]; omega
          go_quiet ((go_at_call 29; first | exact quiet_same (size_ok _ _) | exact quiet_add (size_ok _ _)))
          clear wu ws1 ws2 ws3
          go_wp2_with fail
          go_roundw
          case rel => exact ⟨k + 1, by omega, by go_num, by rw [HS.out]; unfold recSize; go_num, HO2, below_drewN (HBr.out.alloc hsr _) _⟩
          case measure => simp [intOf]; omega
    · have hkl : k = l.length := by omega
      have HK := Lib.hid hkl
      have HT : Hid (recsSize (l.take k) = recsSize l) := by show _ = _; rw [List.take_of_length_le (by omega)]
      clear hkl
      have hr1 : recsSize (l.take k) ≤ 9007199254741888 := by
        have h1 := recsSize_take_le l 140737488351232 (fun r hr => (HB.out r hr).1) k
        have h2 : k * (140737488351232 + 18) ≤ 64 * (140737488351232 + 18) := Nat.mul_le_mul_right _ (by omega)
        omega
      by_cases hbig : recsSize (l.take k) ≤ 65536
      · go_wp2_with fail
        obtain ⟨wo, rfl⟩ : ∃ wo : World, wo = wr := ⟨_, rfl⟩
        have hE2 : E = (recsBytes l, 0) := by rw [HE.out]; unfold encS; rw [if_neg (by rw [← HK.out, HO.out]; simp), if_neg (by rw [← HT.out]; omega)]
        have HE2 := Lib.hid hE2
        have HRB : Hid ((recsBytes l).length ≤ 65536) := by show _ ≤ _; rw [recsBytes_length, ← HT.out]; exact hbig
        clear hE2
        go_loopw [7, 55] (fun v7 v55 wr => ∃ j : Nat, j ≤ l.length ∧ v55 = .int .i64 j ∧ Hid (wr.ownsRow w.heap.size 5 1 v7 (recsBytes (l.take j)).length (bvs (recsBytes (l.take j)))) ∧ Hid (Below w.heap.size w wr)) (fun _ v55 _ => l.length - (intOf v55).toNat)
        case atStart => exact ⟨0, Nat.zero_le _, rfl, World.ownsRow_nil _ _ _ _, HBr.out⟩
        case round =>
          obtain ⟨j, hj, rfl, HOj, HBj⟩ := hrel
          have hsj := HBj.out.size
          by_cases hjl : j < l.length
          · obtain ⟨b, off, rfl, _, hc⟩ := HH.out.at_ HBj.out (by omega)
            obtain ⟨A', c', hc1, hc2, hc3⟩ := hc j hjl
            have HC3 := Lib.hid hc3
            obtain ⟨hb1, hb2⟩ := HB.out l[j] (List.getElem_mem hjl)
            have HS := Lib.hid (recsBytes_take_succ l j hjl)
            have hlen : (recsBytes (l.take j)).length + recSize l[j] ≤ 65536 := by
              have h1 : (recsBytes (l.take (j + 1))).length ≤ (recsBytes l).length := by
                rw [recsBytes_length, recsBytes_length]
                have : recsSize l = recsSize (l.take (j + 1)) + recsSize (l.drop (j + 1)) := by
                  conv => lhs; rw [← List.take_append_drop (j + 1) l]
                  simp only [recsSize, List.map_append, List.sum_append]
                omega
              rw [HS.out, List.length_append, recBytes_length] at h1
              exact Nat.le_trans h1 HRB.out
            have hlen2 : l[j].2.length ≤ 65536 ∧ size l[j].1 + size l[j].2.length + l[j].2.length ≤ 65536 := by unfold recSize at hlen; omega
            have hn1 := num_length l[j].1
            have hn2 := num_length l[j].2.length
            have hz1 := size_le l[j].1
            have hz2 := size_le l[j].2.length
            have wu : IntKind.u64.wrap (l[j].2.length : Int) = (l[j].2.length : Int) := wrap_u64_nat _ (by omega)
            clear hc hc3
            have HLEN := Lib.hid hlen
            have HN1 := Lib.hid hn1
            have HN2 := Lib.hid hn2
            clear hn1 hn2 hlen
            go_wp2_with fail
            have tok1 : True := trivial
            go_region_held3 (fun W => W.cell? ⟨wr.heap.size, 0, none⟩ = some (.int .u64 (l[j].1 : Nat)) ∧ W.cell? ⟨wr.heap.size, 1, none⟩ = some (.slice A' l[j].2.length c'))
              (first | go_keep | (refine ⟨?_, ?_⟩ <;> (go_keep; done)) | (refine ⟨cell_below hbb ?_, cell_below hbb ?_⟩ <;> (go_split_ands; assumption)) | (refine ⟨cell_below hba ?_, cell_below hba ?_⟩ <;> (go_split_ands; assumption)) | (refine ⟨hg4.cell ?_ ?_, hg4.cell ?_ ?_⟩ <;> (first | (go_split_ands; assumption) | (intro hh; have h1 : wa.heap.size ≤ wr.heap.size := own_base hob _ hh.symm; have h2 : wr.heap.size + 1 ≤ wa.heap.size := (by (have := hba.size; simpa using this)); omega))))
              ((first | (go_at_call 30; have _t := tok1; refine (put_ok (recsBytes (l.take j)) u7 l[j].1 _ ((own_bytes HOj.out).below (((Below.refl _ _).alloc (Nat.le_refl _) _).drew)) (by have := HLEN.out; omega) hb2).mono ?_; rintro e wa ⟨va, rfl, hoa, hba⟩; clear tok1) | (go_at_call 30; refine (put_ok _ va l[j].2.length _ (own_bytes hoa) (by have := HLEN.out; have := HN1.out; simp only [List.length_append]; omega) (by omega)).mono ?_; rintro e wb ⟨vb, rfl, hob, hbb⟩) | (refine step_app (by rfl) _ _ _ _ (by rfl) Try.underlying22 info_u8 wa.heap.size vb (recsBytes (l.take j) ++ num l[j].1 ++ num l[j].2.length) (by rfl) hob _ l[j].2 (by rfl) (((HC3.out.below (((Below.refl _ _).alloc (Nat.le_refl _) _).drew)).below hba).below hbb) ?hlen ?hbase ?_; (case hlen => (have := HLEN.out; have := HN1.out; have := HN2.out; simp only [List.length_append]; unfold recSize at *; omega)); (case hbase => exact hbb.size); intro v4 w4 ho4 hg4 hat4)))
            have HB4 := Lib.hid (below_append (below_of (below_of ((HBj.out.alloc hsj _).drew) hba (by simp; omega)) hbb (by have := hba.size; simp at this; omega)) hob hg4 (by have := hba.size; have := hbb.size; simp at *; omega) (by have := hba.size; simp at this; omega))
            have HO4 := Lib.hid (own_lower (base' := w.heap.size) ho4 (by have := hba.size; simp at this; omega))
            clear hg4 hat4 hob hbb hoa hba ho4
            go_wp2_with fail
            go_roundw
            case rel => exact ⟨j + 1, by omega, by go_num, by rw [HS.out]; unfold recBytes; exact Lib.hid (by simpa using HO4.out), HB4.out⟩
            case measure => simp [intOf]; omega
          · have hjl' : j = l.length := by omega
            have HT2 : Hid (l.take j = l) := List.take_of_length_le (by omega)
            clear hjl'
            go_wp2_with fail
            go_ret2
            exact ⟨_, by rw [HE2.out]; rfl, by rw [HE2.out]; have := HOj.out; rw [HT2.out] at this; simpa using this, HBj.out⟩
      · have HE2 : Hid (E = ([], 3)) := by
          show _ = _
          rw [HE.out]; unfold encS; rw [if_neg (by rw [← HK.out, HO.out]; simp), if_pos (by rw [← HT.out]; omega)]
        go_wp2_with fail
        go_ret2
        exact ⟨_, by rw [HE2.out]; rfl, by rw [HE2.out]; exact World.ownsRow_nil _ _ _ _, HBr.out⟩
end Go.Proofs.Ytdohenfbehpplaa
/- wire.Encode: a contract. -/
namespace Go.Proofs.Ytdohenfbehpplaa
set_option linter.unusedVariables false
set_option linter.unusedSimpArgs false
open Go.RowKit
attribute [local irreducible] Go.wpList
attribute [local go_sem ↓] ldm stm bdm

/-- A message that may be has an encoding. -/
theorem recs_ok {m : Msg} (hm : m.Wf) (h : mayS m = true) : (encS (recsOf m)).2 = 0 := by
  have hB : ∀ r ∈ recsOf m, r.2.length ≤ 2112 := by
    intro r hr
    simp only [recsOf, List.mem_map] at hr
    obtain ⟨t, ht, rfl⟩ := hr
    exact val_len hm h ht
  have hl : (recsOf m).length ≤ 6 := by rw [recsOf_length]; exact fields_length _
  have hs := recsSize_take_le (recsOf m) 2112 hB (recsOf m).length
  rw [List.take_length] at hs
  have hs' : recsSize (recsOf m) ≤ 65536 := Nat.le_trans hs (Nat.le_trans (Nat.mul_le_mul_right _ hl) (by decide))
  have ho : ordTo (recsOf m) (recsOf m).length = true := by
    obtain ⟨i, hi, h1, h2⟩ := may_kind h
    unfold recsOf
    rw [hi]
    obtain rfl | rfl | rfl | rfl | rfl | rfl : i = 1 ∨ i = 2 ∨ i = 3 ∨ i = 4 ∨ i = 5 ∨ i = 6 := by omega
    all_goals rfl
  unfold encS
  rw [if_neg (by rw [ho]; simp), if_neg (by omega)]
theorem loneB_sound {w0 w w' : World} {b : Nat} {m : Msg} {o r v : Value} {t base : Nat} (h : LoneB w w' b o r v t) (hbase : base ≤ w.heap.size) (ho : Bytes w0 o m.onion) (hr : Bytes w0 r m.reason) (hb : w0.heap.size ≤ base) (hbb : b < base) : Sound w' base v (valS m t) := by
  have key : ∀ (u : Value) (l : List UInt8), Bytes w0 u l → Sound w' base u l := by
    intro u l hu
    by_cases hl : l = []
    · exact .inl hl
    · rcases hu.open with ⟨h0, _⟩ | ⟨hp, b, off, c, rfl, _, _, hc⟩
      · exact absurd h0 hl
      · refine .inr fun b' hv => .inl ?_
        simp only [Value.ownBlock, Option.some.injEq] at hv
        have : b < w0.heap.size := World.block_lt_of_cell? w0 _ (hc 0 hp)
        omega
  rcases h with ⟨rfl, rfl⟩ | ⟨rfl, rfl⟩ | h | h
  · exact key _ _ ho
  · exact key _ _ hr
  · exact .inr fun b' hv => .inl (by rw [h] at hv; simp only [Option.some.injEq] at hv; omega)
  · exact .inr fun b hv => .inr (h b hv).2
set_option maxRecDepth 20000 in
set_option maxHeartbeats 3200000 in
/-- wire.Encode. -/
theorem encM_ok (m : Msg) (o r : Value) (w : World) (hm : m.Wf) (ho : Bytes w o m.onion) (hr : Bytes w r m.reason) :
    Calls Try.prog 15 #[.agg (mc m o r)] w fun e w' => ∃ v', e = .returned (.tuple #[v', .int .i64 (encM m).2]) ∧ w'.ownsRow w.heap.size 5 1 v' (encM m).1.length (bvs (encM m).1) ∧ Below w.heap.size w w' := by
  have HO := Lib.hid ho
  have HR := Lib.hid hr
  obtain ⟨Ao, no, co, rfl⟩ := ho.slice
  obtain ⟨Ar, nr, cr, rfl⟩ := hr.slice
  obtain ⟨E, hE⟩ : ∃ E, E = encM m := ⟨_, rfl⟩
  rw [← hE]
  have HE := Lib.hid hE
  clear ho hr hE
  go_enter Try.func15, Try.ntmps15
  go_wp2_with (first | ((with_reducible refine dst_is 1 ?_); refine wl_box 1 _ _ _ rfl ?_; intro W1 e1; have z1 : W1.heap.size = w.heap.size + 1 := (by rw [e1]; simp); have HA : MsgIn W1 w.heap.size m (.slice Ao no co) (.slice Ar nr cr) := (by rw [e1]; exact msgIn_new w hm); have HB1 : Below w.heap.size w W1 := (by rw [e1]; exact (Below.refl _ _).alloc (Nat.le_refl _) _); clear e1) | ((with_reducible refine dst_is 9 ?_); refine wl_load 9 25 _ w.heap.size 0 (mcl m (.slice Ao no co) (.slice Ar nr cr)) _ rfl rfl Try.underlying25 rfl (size_mc _ _ _ hm) HA.range ?_))
  refine (may_ok m _ _ W1 hm (HO.out.below HB1) (HR.out.below HB1)).mono ?_
  rintro e W2 ⟨rfl, hb2⟩
  replace HA := HA.below hb2
  have HB2 := below_of HB1 hb2 (by omega)
  have z2 := hb2.size
  clear hb2 HB1
  by_cases hmay : mayS m = true
  case neg =>
    have hmf : mayS m = false := by simpa using hmay
    have HE2 : Hid (E = ([], 1)) := by show _ = _; rw [HE.out]; exact if_neg hmay
    rw [hmf]
    clear hmay hmf
    go_wp2_with fail
    go_ret2
    exact ⟨_, by rw [HE2.out]; rfl, by rw [HE2.out]; exact World.ownsRow_nil _ _ _ _, HB2⟩
  have HMY := Lib.hid hmay
  rw [hmay]
  clear hmay
  have HE2 : Hid (E = (kindB m.kind ++ (encS (recsOf m)).1, 0)) := by show _ = _; rw [HE.out]; exact if_pos HMY.out
  have c0 := HA.cell 0 _ mc_0
  go_wp2_with fail
  refine (fields_ok m.kind W2).mono ?_
  rintro e W4 ⟨Af, nf, cf, rfl, hnums, _, _, hb4⟩
  obtain ⟨L, hL⟩ : ∃ L, L = fieldsOf m.kind := ⟨_, rfl⟩
  rw [← hL] at hnums
  have HL := Lib.hid hL
  have hll : L.length ≤ 6 := by rw [hL]; exact fields_length _
  obtain rfl := hnums.len
  have HN := Lib.hid hnums
  have HA4 := Lib.hid (HA.below hb4)
  have HB4 := Lib.hid (below_of HB2 hb4 (by omega))
  have z4 : w.heap.size + 1 ≤ W4.heap.size := by have := hb4.size; omega
  clear hnums HA hb4 HB2 c0 hL
  go_wp2_with fail
  go_loopw [4, 16] (fun v4 v16 wr => ∃ k : Nat, k ≤ L.length ∧ v16 = .int .i64 k ∧ Hid (Held wr W4.heap.size v4 ((recsOf m).take k)) ∧ Hid (Below W4.heap.size W4 wr)) (fun _ v16 _ => L.length - (intOf v16).toNat)
  case atStart => exact ⟨0, Nat.zero_le _, rfl, held_nil _ _, Below.refl _ _⟩
  case round =>
    obtain ⟨k, hk, rfl, HG, HBr⟩ := hrel
    have hsr := HBr.out.size
    by_cases hlt : k < L.length
    · obtain ⟨b, off, rfl, hc⟩ := HN.out.at_ (by omega)
      have hc4 := cell_below HBr.out (hc k hlt)
      have hty : Hid (isType L[k]) := by have h2 := HL.out; subst h2; exact field_type (List.getElem_mem hlt)
      have HS : Hid ((recsOf m).take (k + 1) = (recsOf m).take k ++ [(L[k], valS m L[k])]) := by have h2 := HL.out; subst h2; exact recs_take m k hlt
      obtain ⟨out, hout⟩ : ∃ out, out = (recsOf m).take k := ⟨_, rfl⟩
      have hol : out.length ≤ 1000000 := by rw [hout, List.length_take]; omega
      rw [← hout] at HG HS
      clear hout
      obtain ⟨A5, c5, rfl⟩ := HG.out.form
      clear hc
      obtain ⟨t, htt⟩ : ∃ t, t = L[k] := ⟨_, rfl⟩
      rw [← htt] at hty HS hc4
      clear htt
      go_wp2_with fail
      refine (get_ok m w.heap.size t _ _ wr hm (HA4.out.below HBr.out) (HO.out.below (below_of HB4.out HBr.out (by omega))) (HR.out.below (below_of HB4.out HBr.out (by omega))) hty.out).mono ?_
      rintro e wa ⟨As, cS, rfl, hbs, hls, hba⟩
      have HBC := below_of HBr.out hba hsr
      have HGC := HG.out.below hba
      have hso := loneB_sound (base := W4.heap.size) hls hsr HO.out HR.out (by omega) (by omega)
      have HBS := Lib.hid hbs
      have HSO := Lib.hid hso
      have HGC' := Lib.hid HGC
      have hza := HBC.size
      clear hls hba hbs hso HGC hc4
      go_wp2_with (at_builtin; refine wl_held 26 _ _ W4.heap.size out t As cS (valS m t) _ _ _ _ rfl rfl HGC'.out HBS.out HSO.out hza hol ?_; intro v7 w7 hG7 hg7; have HB7 := Lib.hid (held_below HBC HGC'.out hg7 hza (Nat.le_refl _)); have HG7 := Lib.hid hG7; clear hG7 hg7)
      rw [← HS.out] at HG7
      go_roundw
      case rel => exact ⟨k + 1, by omega, by go_num, HG7.out, HB7.out⟩
      case measure => simp [intOf]; omega
    · have HT : Hid ((recsOf m).take k = recsOf m) := by show _ = _; rw [List.take_of_length_le]; rw [recsOf_length, ← HL.out]; omega
      rw [HT.out] at HG
      obtain ⟨A5, c5, rfl⟩ := HG.out.form
      have HRS := Lib.hid HG.out.recs
      have c0 : wr.cell? ⟨w.heap.size, 0, none⟩ = some (.int .i64 m.kind) := cell_below HBr.out (HA4.out.cell 0 _ mc_0)
      have HZ := Lib.hid (recs_ok hm HMY.out)
      go_wp2_with fail
      refine (encode_ok (recsOf m) _ wr HRS.out (by rw [recsOf_length, ← HL.out]; omega) ?_).mono ?_
      · intro x hx
        simp only [recsOf, List.mem_map] at hx
        obtain ⟨t, ht, rfl⟩ := hx
        exact ⟨Nat.le_trans (val_len hm HMY.out ht) (by omega), by have := field_type ht; unfold isType at this; show t < _; omega⟩
      rw [HZ.out]
      rintro e w6 ⟨v6, rfl, ho6, hb6⟩
      have c6 := cell_below hb6 c0
      have HB6 := Lib.hid (below_of (below_of HB4.out HBr.out (by omega)) hb6 (by omega))
      have HO6 := Lib.hid (own_lower ho6 (show w.heap.size ≤ wr.heap.size by omega))
      have hz6 := hb6.size
      have hle := encS_le (recsOf m)
      obtain ⟨i, hi, hi1, hi2⟩ := may_kind HMY.out
      have hk0 : 0 ≤ m.kind := by omega
      have hlit : Hid ((w6.alloc (.cells #[.int .u8 (m.kind / 256 % 256), .int .u8 (m.kind % 256)] 5)).ownsRow w.heap.size 5 1 (.slice (some ⟨w6.heap.size, 0, none⟩) 2 2) (kindB m.kind).length (bvs (kindB m.kind))) := by
        have := own_lit w6 w.heap.size 5 (kindB m.kind) 2 rfl (by omega) (by omega)
        rw [kindB_cells hi] at this ⊢
        exact this
      have HOA := Lib.hid (HO6.out.alloc (.cells #[.int .u8 (m.kind / 256 % 256), .int .u8 (m.kind % 256)] 5))
      have HBA := Lib.hid (HB6.out.alloc (by omega) (.cells #[.int .u8 (m.kind / 256 % 256), .int .u8 (m.kind % 256)] 5))
      clear c0 hb6 ho6 hi hi1 hi2
      go_wp2_with (at_builtin; refine wl_app 45 _ _ _ _ Try.underlying22 info_u8 w.heap.size _ (kindB m.kind) rfl hlit.out _ (encS (recsOf m)).1 rfl (own_bytes HOA.out) ?hl ?hb ?_; (case hl => simp [kindB]; omega); (case hb => simp; omega); intro v7 w7 ho7 hg7 hat7; have HB7 := Lib.hid (below_append HBA.out hlit.out hg7 (by simp; omega) (Nat.le_refl _)); have HO7 := Lib.hid ho7; clear ho7 hg7 hat7)
      go_ret2
      exact ⟨_, by rw [HE2.out]; rfl, by rw [HE2.out]; exact HO7.out, HB7.out⟩
end Go.Proofs.Ytdohenfbehpplaa
/- bigsize.Find: a contract. -/
namespace Go.Proofs.Ytdohenfbehpplaa
set_option linter.unusedVariables false
set_option linter.unusedSimpArgs false
open Go.RowKit

/-- The first record of a type: where it lies (how many there are: there is none). -/
def findI (t : Nat) (l : List Rec) : Nat := l.findIdx (fun r => r.1 == t)
theorem findI_eq {t : Nat} {l : List Rec} {k : Nat} (hk : k < l.length) (h1 : ∀ i (h : i < l.length), i < k → l[i].1 ≠ t) (h2 : l[k].1 = t) : findI t l = k := by
  rw [findI, List.findIdx_eq hk]
  exact ⟨by simpa using h2, fun j hj => by simpa using h1 j (by omega) hj⟩
theorem findI_none {t : Nat} {l : List Rec} (h1 : ∀ i (h : i < l.length), l[i].1 ≠ t) : findI t l = l.length := by
  rw [findI, List.findIdx_eq_length]
  intro x hx
  obtain ⟨i, hi, rfl⟩ := List.getElem_of_mem hx
  simpa using h1 i hi
def findS (t : Nat) (l : List Rec) : Option (List UInt8) := if h : findI t l < l.length then some (l[findI t l]).2 else none
/-- The predicate that Find hands on. -/
theorem find1_ok (x t : Nat) (v : Value) (bt : Nat) (w : World) (h : w.cell? ⟨bt, 0, none⟩ = some (.int .u64 t)) :
    Calls Try.prog 42 #[.agg #[.int .u64 x, v], .pointer (some ⟨bt, 0, none⟩)] w fun e w' => e = .returned (.bool ((x : Int) == t)) ∧ Below w.heap.size w w' := by
  have hbt := World.block_lt_of_cell? w _ h
  go_enter Try.func42, Try.ntmps42
  go_wp2_with fail
  go_ret
  exact ⟨rfl, (Below.refl _ _).alloc (Nat.le_refl _) _⟩
set_option maxRecDepth 20000 in
set_option maxHeartbeats 1600000 in
theorem indexFunc_ok (l : List Rec) (v : Value) (t bt : Nat) (w : World) (h : Recs w v l) (ht : w.cell? ⟨bt, 0, none⟩ = some (.int .u64 t)) (hB : ∀ r ∈ l, r.1 < 18446744073709551616) :
    Calls Try.prog 41 #[v, .func (.func 42) #[] #[.pointer (some ⟨bt, 0, none⟩)]] w fun e w' => e = .returned (.int .i64 (if findI t l < l.length then (findI t l : Int) else -1)) ∧ Below w.heap.size w w' := by
  have HH := Lib.hid h
  have HT := Lib.hid ht
  obtain ⟨A, c, rfl, h1, h2, h4, h3⟩ := h.open
  obtain ⟨R, hR⟩ : ∃ R : Int, R = if findI t l < l.length then (findI t l : Int) else -1 := ⟨_, rfl⟩
  rw [← hR]
  have HR := Lib.hid hR
  clear h h3 h4 hR ht hB
  go_enter Try.func41, Try.ntmps41
  go_wp2_with fail
  go_loopw [8] (fun v8 wr => ∃ k : Nat, k ≤ l.length ∧ v8 = .int .i64 k ∧ Hid (∀ i (h : i < l.length), i < k → l[i].1 ≠ t) ∧ Hid (Below w.heap.size w wr)) (fun v8 _ => l.length - (intOf v8).toNat)
  case atStart => exact ⟨0, Nat.zero_le _, rfl, fun i _ h => by omega, Below.refl _ _⟩
  case round =>
    obtain ⟨k, hk, rfl, HN, HBr⟩ := hrel
    have hsr := HBr.out.size
    by_cases hlt : k < l.length
    · obtain ⟨b, off, rfl, _, hc⟩ := HH.out.at_ HBr.out (by omega)
      obtain ⟨A', c', hc1, hc2, hc3⟩ := hc k hlt
      have HTr := Lib.hid (cell_below HBr.out HT.out)
      clear hc hc3
      by_cases hq : l[k].1 = t
      · have HR2 : Hid (R = (k : Int)) := by
          show _ = _
          have := findI_eq hlt (fun i h hi => HN.out i h hi) hq
          rw [HR.out, this, if_pos hlt]
        have hb : (((l[k].1 : Nat) : Int) == (t : Int)) = true := by rw [beq_iff_eq]; omega
        have HBQ := Lib.hid hb
        clear hq hb
        go_wp2_with fail
        refine (find1_ok l[k].1 t _ bt wr HTr.out).mono ?_
        rw [HBQ.out]
        rintro e w1 ⟨rfl, hb1⟩
        have HB1 := Lib.hid (below_of HBr.out hb1 hsr)
        clear hb1
        go_wp2_with fail
        go_ret
        exact ⟨by rw [HR2.out]; rfl, HB1.out⟩
      · have hb : (((l[k].1 : Nat) : Int) == (t : Int)) = false := by rw [beq_eq_false_iff_ne]; omega
        have HBQ := Lib.hid hb
        have HN2 : Hid (∀ i (h : i < l.length), i < k + 1 → l[i].1 ≠ t) := fun i h hi => by
          by_cases hik : i = k
          · subst hik; exact hq
          · exact HN.out i h (by omega)
        clear hq hb
        go_wp2_with fail
        refine (find1_ok l[k].1 t _ bt wr HTr.out).mono ?_
        rw [HBQ.out]
        rintro e w1 ⟨rfl, hb1⟩
        have HB1 := Lib.hid (below_of HBr.out hb1 hsr)
        clear hb1
        go_wp2_with fail
        go_roundw
        case rel => exact ⟨k + 1, by omega, by go_num, HN2, HB1.out⟩
        case measure => simp [intOf]; omega
    · have HR2 : Hid (R = -1) := by
        show _ = _
        have := findI_none (t := t) (l := l) (fun i h => HN.out i h (by omega))
        rw [HR.out, this, if_neg (by omega)]
      go_wp2_with fail
      go_ret
      exact ⟨by rw [HR2.out]; rfl, HBr.out⟩
set_option maxRecDepth 20000 in
set_option maxHeartbeats 1600000 in
theorem find_ok (l : List Rec) (v : Value) (t : Nat) (w : World) (h : Recs w v l) (hB : ∀ r ∈ l, r.1 < 18446744073709551616 ∧ r.2.length ≤ 140737488355328) :
    Calls Try.prog 22 #[v, .int .u64 t] w fun e w' => ∃ v', e = .returned (.tuple #[v', .bool (findS t l).isSome]) ∧ w'.ownsRow w.heap.size 5 1 v' ((findS t l).getD []).length (bvs ((findS t l).getD [])) ∧ Below w.heap.size w w' := by
  have HH := Lib.hid h
  have HB := Lib.hid hB
  obtain ⟨A, c, rfl, h1, h2, h4, h3⟩ := h.open
  obtain ⟨E, hE⟩ : ∃ E, E = findS t l := ⟨_, rfl⟩
  rw [← hE]
  have HE := Lib.hid hE
  clear h h3 h4 hB hE
  by_cases hf : findI t l < l.length
  · have HF : Hid ((if findI t l < l.length then (findI t l : Int) else -1) = (findI t l : Int)) := by show _ = _; rw [if_pos hf]
    have HE2 : Hid (E = some (l[findI t l]).2) := by show _ = _; rw [HE.out]; unfold findS; rw [dif_pos hf]
    obtain ⟨j, hj⟩ : ∃ j, j = findI t l := ⟨_, rfl⟩
    have hjl : j < l.length := by omega
    have HE3 : Hid (E = some (l[j]).2) := by show _ = _; rw [HE2.out]; simp only [hj]
    rw [← hj] at HF
    have HJ := Lib.hid hj
    clear HE2 HE hf hj
    go_enter Try.func22, Try.ntmps22
    go_wp2_with fail
    refine (indexFunc_ok l _ t w.heap.size _ (HH.out.below ((Below.refl _ _).alloc (Nat.le_refl _) _)) (cell_one_new w (.int .u64 t) _ 0 _ rfl) (fun r hr => (HB.out r hr).1)).mono ?_
    rw [← HJ.out, HF.out]
    rintro e w1 ⟨rfl, hb1⟩
    have hbw := below_of ((Below.refl w.heap.size w).alloc (Nat.le_refl _) _) hb1 (le_alloc _ _)
    obtain ⟨b, off, rfl, _, hc⟩ := HH.out.at_ hbw (by omega)
    obtain ⟨A', c', hc1, hc2, hc3⟩ := hc j hjl
    have HC3 := Lib.hid hc3
    have HB1 := Lib.hid hbw
    have hs1 : w.heap.size ≤ w1.heap.size := hbw.size
    have hlen := (HB.out l[j] (List.getElem_mem hjl)).2
    clear hb1 hc hc3 hbw
    go_wp2_with fail
    refine (clone_ok l[j].2 _ _ HC3.out hlen).mono ?_
    rintro e w2 ⟨v2, rfl, ho2, hb2⟩
    have HB2 := Lib.hid (below_of HB1.out hb2 hs1)
    have HO2 := Lib.hid (own_lower ho2 hs1)
    clear hb2 ho2
    go_wp2_with fail
    go_ret2
    exact ⟨_, by rw [HE3.out]; rfl, by rw [HE3.out]; exact HO2.out, HB2.out⟩
  · have HF : Hid ((if findI t l < l.length then (findI t l : Int) else -1) = -1) := by show _ = _; rw [if_neg hf]
    have HE2 : Hid (E = none) := by show _ = _; rw [HE.out]; unfold findS; rw [dif_neg hf]
    clear HE hf
    go_enter Try.func22, Try.ntmps22
    go_wp2_with fail
    refine (indexFunc_ok l _ t w.heap.size _ (HH.out.below ((Below.refl _ _).alloc (Nat.le_refl _) _)) (cell_one_new w (.int .u64 t) _ 0 _ rfl) (fun r hr => (HB.out r hr).1)).mono ?_
    rw [HF.out]
    rintro e w1 ⟨rfl, hb1⟩
    have HB1 := Lib.hid (below_of ((Below.refl w.heap.size w).alloc (Nat.le_refl _) _) hb1 (le_alloc _ _))
    clear hb1
    go_wp2_with fail
    go_ret2
    exact ⟨_, by rw [HE2.out]; rfl, by rw [HE2.out]; exact World.ownsRow_nil _ _ _ _, HB1.out⟩
end Go.Proofs.Ytdohenfbehpplaa
/- More of decS, in plain Lean. -/
namespace Go.Proofs.Ytdohenfbehpplaa
set_option linter.unusedVariables false
set_option linter.unusedSimpArgs false
theorem decF_ok (N : Nat) : ∀ (f : Nat) (out : List (Nat × List UInt8)) (b : List UInt8), (∀ r ∈ out, r.2.length ≤ N ∧ r.1 < 18446744073709551616) → b.length ≤ N → ∀ r ∈ (decF f out b).1, r.2.length ≤ N ∧ r.1 < 18446744073709551616
  | 0, _, _, _, _ => by intro r hr; simp [decF] at hr
  | f + 1, out, b, ho, hb => by
    intro r hr
    unfold decF at hr
    split at hr
    · exact ho r hr
    split at hr
    · simp at hr
    split at hr
    · simp at hr
    · rename_i t n e1
      split at hr
      · simp at hr
      split at hr
      · simp at hr
      · rename_i k m e2
        split at hr
        · simp at hr
        split at hr
        · simp at hr
        · refine decF_ok N f _ _ ?_ ?_ r hr
          · intro r' hr'
            rw [List.mem_append] at hr'
            rcases hr' with hr' | hr'
            · exact ho r' hr'
            · simp only [List.mem_singleton] at hr'
              subst hr'
              refine ⟨?_, (rdN_some e1).2.2.2⟩
              simp only [List.length_take, List.length_drop]; omega
          · rw [List.length_drop]; omega
theorem decS_ok (l : List UInt8) : ∀ r ∈ (decS l).1, r.2.length ≤ 65536 ∧ r.1 < 18446744073709551616 := by
  unfold decS
  split
  · intro r hr; simp at hr
  · exact decF_ok 65536 _ _ _ (by simp) (by omega)
theorem decF_len : ∀ (f : Nat) (out : List (Nat × List UInt8)) (b : List UInt8), out.length ≤ 64 → (decF f out b).1.length ≤ 64
  | 0, _, _, _ => by simp [decF]
  | f + 1, out, b, ho => by
    unfold decF
    split
    · exact ho
    split
    · simp
    split
    · simp
    · split
      · simp
      split
      · simp
      · split
        · simp
        split
        · simp
        · exact decF_len f _ _ (by simp; omega)
theorem decS_len (l : List UInt8) : (decS l).1.length ≤ 64 := by
  unfold decS
  split
  · simp
  · exact decF_len _ _ _ (by simp)
end Go.Proofs.Ytdohenfbehpplaa
/- Records in order; the record of a type; a message out of records: plain words. -/
namespace Go.Proofs.Ytdohenfbehpplaa
set_option linter.unusedVariables false
set_option linter.unusedSimpArgs false

theorem findS_nil (t : Nat) : findS t [] = none := by unfold findS; rw [dif_neg (by simp [findI])]
theorem findS_cons (t : Nat) (r : Rec) (l : List Rec) : findS t (r :: l) = if r.1 = t then some r.2 else findS t l := by
  unfold findS
  by_cases h : r.1 = t
  · have e : findI t (r :: l) = 0 := by simp [findI, List.findIdx_cons, h]
    rw [if_pos h, dif_pos (by rw [e]; simp)]
    simp [e]
  · have e : findI t (r :: l) = findI t l + 1 := by
      have h' : (r.1 == t) = false := by simpa using h
      simp [findI, List.findIdx_cons, h']
    rw [if_neg h]
    by_cases h2 : findI t l < l.length
    · rw [dif_pos h2, dif_pos (by rw [e]; simpa using h2)]
      simp [e]
    · rw [dif_neg h2, dif_neg (by rw [e]; simpa using h2)]
/-- Types rise. -/
def Asc (l : List Rec) : Prop := l.Pairwise fun a b => a.1 < b.1
theorem lastT_app (out : List Rec) (r : Rec) : lastT (out ++ [r]) = r.1 := by simp [lastT, List.getD_eq_getElem?_getD]
theorem asc_app {out : List Rec} {r : Rec} (h : Asc out) (hl : ∀ a ∈ out, a.1 < r.1) : Asc (out ++ [r]) := by
  unfold Asc at *
  rw [List.pairwise_append]
  exact ⟨h, List.pairwise_singleton _ _, fun a ha b hb => by simp only [List.mem_singleton] at hb; subst hb; exact hl a ha⟩
theorem decF_asc : ∀ (f : Nat) (out : List Rec) (b : List UInt8), Asc out → (∀ a ∈ out, a.1 ≤ lastT out) → Asc (decF f out b).1
  | 0, _, _, _, _ => by simp [decF, Asc]
  | f + 1, out, b, ho, hl => by
    unfold decF
    split
    · exact ho
    split
    · simp [Asc]
    split
    · simp [Asc]
    · split
      · simp [Asc]
      rename_i t n _ hnt
      split
      · simp [Asc]
      · split
        · simp [Asc]
        split
        · simp [Asc]
        · refine decF_asc f _ _ (asc_app ho fun a ha => ?_) fun a ha => ?_
          · have h1 := hl a ha
            have h2 : 0 < out.length := List.length_pos_of_mem ha
            show a.1 < t
            omega
          · rw [lastT_app]
            rw [List.mem_append] at ha
            rcases ha with ha | ha
            · have h1 := hl a ha
              have h2 : 0 < out.length := List.length_pos_of_mem ha
              show a.1 ≤ t
              omega
            · simp only [List.mem_singleton] at ha; subst ha; exact Nat.le_refl _
theorem decS_asc (b : List UInt8) : Asc (decS b).1 := by
  unfold decS
  split
  · simp [Asc]
  · exact decF_asc _ _ _ (by simp [Asc]) (by simp)
theorem innerS_gt {t : Nat} : ∀ (l : List Rec) (s : Msg × Bool), (∀ a ∈ l, t ≠ a.1) → innerS t l s = s
  | [], _, _ => rfl
  | r :: l, s, h => by
    have h1 := h r (by simp)
    show innerS t l (if r.1 = t then withS s.1 t r.2 else s) = s
    rw [if_neg (fun e => h1 e.symm)]
    exact innerS_gt l s (fun a ha => h a (by simp [ha]))
theorem innerS_find {t : Nat} : ∀ (l : List Rec) (s : Msg × Bool), Asc l → innerS t l s = match findS t l with | none => s | some v => withS s.1 t v
  | [], s, _ => by rw [findS_nil]; rfl
  | r :: l, s, h => by
    unfold Asc at h
    rw [List.pairwise_cons] at h
    show innerS t l (if r.1 = t then withS s.1 t r.2 else s) = _
    rw [findS_cons]
    by_cases e : r.1 = t
    · rw [if_pos e, if_pos e]
      exact innerS_gt l _ (fun a ha => by have := h.1 a ha; omega)
    · rw [if_neg e, if_neg e]
      exact innerS_find l s h.2
/-- The number fields that are still at zero. -/
def ZeroOn (L : List Nat) (m : Msg) : Prop := ∀ t ∈ L, ∀ k, offN t = some k → numV m t = 0
theorem zeroOn_kmsg (L : List Nat) (k : Int) : ZeroOn L (kmsg k) := by
  intro t _ j hj
  rcases offN_cases hj with ⟨rfl, rfl⟩ | ⟨rfl, rfl⟩ | ⟨rfl, rfl⟩ | ⟨rfl, rfl⟩ | ⟨rfl, rfl⟩ | ⟨rfl, rfl⟩ <;> rfl
theorem numV_with {m : Msg} {t t' k : Nat} {l : List UInt8} (ht : isType t) (hk : offN t' = some k) (hne : t' ≠ t) : numV (withS m t l).1 t' = numV m t' := by
  unfold isType at ht
  rcases ht with rfl | rfl | rfl | rfl | rfl | rfl | rfl | rfl | rfl | rfl | rfl | rfl
  all_goals
    rcases offN_cases hk with ⟨rfl, rfl⟩ | ⟨rfl, rfl⟩ | ⟨rfl, rfl⟩ | ⟨rfl, rfl⟩ | ⟨rfl, rfl⟩ | ⟨rfl, rfl⟩
    all_goals first | rfl | exact absurd rfl hne
theorem zeroOn_with {m : Msg} {t : Nat} {L : List Nat} {l : List UInt8} (h : ZeroOn (t :: L) m) (ht : isType t) (hn : t ∉ L) : ZeroOn L (withS m t l).1 := by
  intro t' h' k hk
  rw [numV_with ht hk (fun e => hn (e ▸ h'))]
  exact h t' (by simp [h']) k hk
theorem fields_nodup (k : Int) : (fieldsOf k).Nodup := by
  rcases fields_dec k with ⟨i, rfl, h1, h2⟩ | ⟨_, h0⟩
  · obtain rfl | rfl | rfl | rfl | rfl | rfl : i = 1 ∨ i = 2 ∨ i = 3 ∨ i = 4 ∨ i = 5 ∨ i = 6 := by omega
    all_goals decide
  · rw [h0]; simp
theorem not_mem_drop {L : List Nat} (h : L.Nodup) {k : Nat} (hk : k < L.length) : L[k] ∉ L.drop (k + 1) := by
  have := List.drop_eq_getElem_cons hk
  have h2 : (L.drop k).Nodup := h.sublist (List.drop_sublist _ _)
  rw [this, List.nodup_cons] at h2
  exact h2.1
theorem Gathered.lower {w : World} {base base' : Nat} {v : Value} {out : List Rec} (h : Gathered w base v out) (hb : base' ≤ base) : Gathered w base' v out := by
  obtain ⟨ps, h1, h2, h3⟩ := h
  exact ⟨ps, own_lower h1 hb, h2, fun i a c => ⟨(h3 i a c).1, own_lower (h3 i a c).2 hb⟩⟩
theorem findS_mem {t : Nat} : ∀ {l : List Rec} {v : List UInt8}, findS t l = some v → (t, v) ∈ l
  | [], v, h => by rw [findS_nil] at h; cases h
  | r :: l, v, h => by
    rw [findS_cons] at h
    by_cases e : r.1 = t
    · rw [if_pos e] at h
      simp only [Option.some.injEq] at h
      subst h; subst e
      simp
    · rw [if_neg e] at h
      exact List.mem_cons_of_mem _ (findS_mem h)
/-- The message's block anew by a call that touched it alone. -/
theorem RInv.set {w wr wr' : World} {mk m' : Msg} {o r o' r' : Value} {L : List Nat} {Af Ar : Option Addr} {cf cr : Nat} {R : List Rec} (h : RInv w wr mk o r L Af cf R Ar cr) (hT : Tch (w.heap.size + 1) wr wr') (hm' : m'.Wf) (hM : MsgIn wr' (w.heap.size + 1) m' o' r') (h2 : Two wr (w.heap.size + 2) m' o' r') :
    RInv w wr' m' o' r' L Af cf R Ar cr :=
  ⟨hm', hM, h2.tch hT (by omega), h.res.tch hT (by omega), own_tch h.nums hT (by omega), h.recs.tch hT (by omega), hT.below h.blw (by omega), by rw [hT.size]; exact h.sz⟩
end Go.Proofs.Ytdohenfbehpplaa
/- tollhouseref06.Decode: a contract. -/
namespace Go.Proofs.Ytdohenfbehpplaa
set_option linter.unusedVariables false
set_option linter.unusedSimpArgs false
open Go.RowKit
attribute [local irreducible] Go.wpList
attribute [local go_sem ↓] ldm stm bdm
attribute [local go_sem] build_kind build_none zero_msg

theorem Tch.cell {b : Nat} {w w' : World} (h : Tch b w w') {a : Addr} (hne : a.block ≠ b) : w'.cell? a = w.cell? a := World.cell?_of_block (h.block a.block hne)
set_option maxRecDepth 20000 in
set_option maxHeartbeats 3200000 in
/-- tollhouseref06.Decode. -/
theorem rdecM_ok (b : List UInt8) (v : Value) (w : World) (h : Bytes w v b) :
    Calls Try.prog 10 #[v] w fun e w' => ∃ o r, e = .returned (.tuple #[.agg (mc (decM b).1 o r), .int .i64 (decM b).2]) ∧ Bytes w' o (decM b).1.onion ∧ Bytes w' r (decM b).1.reason ∧ (decM b).1.Wf ∧ Below w.heap.size w w' := by
  obtain ⟨A, n, c, rfl⟩ := h.slice
  obtain rfl := bytes_len h
  have HH := Lib.hid h
  obtain ⟨E, hE⟩ : ∃ E, E = decM b := ⟨_, rfl⟩
  rw [← hE]
  have HE := Lib.hid hE
  clear hE
  by_cases h2 : b.length < 2
  · have HE2 : Hid (E = (zmsg, 10)) := by show _ = _; rw [HE.out]; exact if_pos h2
    have g2 : (b.length : Int) < 2 := by omega
    clear h
    go_enter Try.func10, Try.ntmps10
    go_wp2_with (first | ((with_reducible refine dst_is 2 ?_); refine wl_alloc 2 _ _ zero_msg ?_; intro W1 e1; have z1 : W1.heap.size = w.heap.size + 1 := (by rw [e1]; simp); have HA : MsgIn W1 w.heap.size zmsg nil0 nil0 := (by rw [e1]; exact msgIn_new w zmsg_wf); have HB1 : Below w.heap.size w W1 := (by rw [e1]; exact (Below.refl _ _).alloc (Nat.le_refl _) _); clear e1) | ((with_reducible refine dst_is 14 ?_); refine wl_build0 14 _ _ build_none ?_) | ((with_reducible refine store_is 2 ?_); refine wl_puts 25 _ _ w.heap.size 0 (mcl zmsg nil0 nil0) rfl rfl (size_mc _ _ _ zmsg_wf) (mcl_one rfl rfl) (by exact HA.there) ?_; intro W5 e5; replace HA := HA.all zmsg_wf zmsg_wf (o' := nil0) (r' := nil0); rw [← e5] at HA; have HT : Tch w.heap.size W1 W5 := (by rw [e5]; exact tch_setCells _ _ _ _); have HB5 := HT.below HB1 (Nat.le_refl _); clear e5 HT))
    (try simp only [Exit.inBlock, Exit.then])
    refine bodyPost_ret (results_msg_tmp rfl _ rfl HA zmsg_wf) rfl ?_
    rw [HE2.out]
    exact ⟨_, _, rfl, bytes_nil0 _, bytes_nil0 _, zmsg_wf, HB5⟩
  · obtain ⟨blk, off, rfl, hc⟩ : ∃ blk off, A = some ⟨blk, off, none⟩ ∧ ∀ j (hj : j < b.length), w.cell? ⟨blk, off + j, none⟩ = some (bv b[j]) := by
      rcases h.open with ⟨rfl, _⟩ | ⟨_, b', off, c', e, _, _, hc⟩
      · simp at h2
      · simp only [Value.slice.injEq] at e; obtain ⟨rfl, _, rfl⟩ := e; exact ⟨b', off, rfl, hc⟩
    have q0 : Hid (w.cell? ⟨blk, off, none⟩ = some (bv b[0])) := hc 0 (by omega)
    have q1 := Lib.hid (hc 1 (by omega))
    obtain ⟨x0, hx0⟩ : ∃ x0, x0 = b[0] := ⟨_, rfl⟩
    obtain ⟨x1, hx1⟩ : ∃ x1, x1 = b[1] := ⟨_, rfl⟩
    rw [← hx0] at q0
    rw [← hx1] at q1
    have HK : Hid (kindOf b = ((x0.toNat : Int) * 256 + x1.toNat)) := by
      show _ = _
      unfold kindOf
      rw [List.getD_eq_getElem?_getD, List.getD_eq_getElem?_getD, List.getElem?_eq_getElem (by omega), List.getElem?_eq_getElem (by omega), hx0, hx1]
      simp
    obtain ⟨A2, c2, hrun, hb2⟩ := bytes_from (P := Try.prog) 22 5 Try.underlying22 (by kernel_rfl) h 2 (by omega)
    have HRN := Lib.hid hrun
    have HB2' := Lib.hid hb2
    have l0 := x0.toNat_lt
    have l1 := x1.toNat_lt
    have w0 : IntKind.i64.wrap (x0.toNat : Int) = (x0.toNat : Int) := by rw [IntKind.wrap_i64]; omega
    have w1 : IntKind.i64.wrap (x1.toNat : Int) = (x1.toNat : Int) := by rw [IntKind.wrap_i64]; omega
    have w2 : IntKind.i64.wrap ((x0.toNat : Int) * 256) = (x0.toNat : Int) * 256 := by rw [IntKind.wrap_i64]; omega
    have w3 : IntKind.i64.wrap ((x0.toNat : Int) * 256 + (x1.toNat : Int)) = (x0.toNat : Int) * 256 + (x1.toNat : Int) := by rw [IntKind.wrap_i64]; omega
    have g2 : ¬ (b.length : Int) < 2 := by omega
    have hblt : blk < w.heap.size := World.block_lt_of_cell? w _ (hc 0 (by omega))
    clear hc hx0 hx1 h hrun hb2
    go_enter Try.func10, Try.ntmps10
    go_wp2_with (first | ((with_reducible refine dst_is 2 ?_); refine wl_alloc 2 _ _ zero_msg ?_; intro W1 e1; have z1 : W1.heap.size = w.heap.size + 1 := (by rw [e1]; simp); have HA : MsgIn W1 w.heap.size zmsg nil0 nil0 := (by rw [e1]; exact msgIn_new w zmsg_wf); have HB1 : Below w.heap.size w W1 := (by rw [e1]; exact (Below.refl _ _).alloc (Nat.le_refl _) _); clear e1))
    have hMn : MsgIn (W1.alloc (.cells (mc zmsg nil0 nil0) 25)).drew (w.heap.size + 1) zmsg nil0 nil0 := by
      have := msgIn_new (o := nil0) (r := nil0) W1 zmsg_wf
      rw [z1] at this
      exact this.of_block rfl
    have hth := hMn.there
    have HKW : (kmsg ((x0.toNat : Int) * 256 + x1.toNat)).Wf := ⟨rfl, rfl, rfl, rfl, by show isI64 ((x0.toNat : Int) * 256 + x1.toNat); unfold isI64; omega, zmsg_wf.channel, zmsg_wf.id, zmsg_wf.amount, zmsg_wf.expiry, zmsg_wf.number, zmsg_wf.told, Nat.zero_le _, Nat.zero_le _⟩
    have hst : ∀ W : World, W.there (w.heap.size + 1) 0 137 → (StAny 25 (.pointer (some ⟨w.heap.size + 1, 0, none⟩)) (.agg (mc (kmsg ((x0.toNat : Int) * 256 + x1.toNat)) nil0 nil0))).run Try.prog W = .ok () (W.setCells (w.heap.size + 1) 0 (mcl (kmsg ((x0.toNat : Int) * 256 + x1.toNat)) nil0 nil0)) := by
      intro W h
      have := run_storeAt_mid (P := Try.prog) W (w.heap.size + 1) 0 25 (mc (kmsg ((x0.toNat : Int) * 256 + x1.toNat)) nil0 nil0) (by simpa [mc, mcl_length HKW] using h) (by rw [size_msg]; simp [mc, mcl_length HKW]) (all_oneCell_toArray (mcl_one rfl rfl))
      simpa [mc, StAny] using this
    have p0 : W1.cell? ⟨blk, off, none⟩ = some (.int .u8 x0.toNat) := cell_below HB1 q0.out
    have p1 : W1.cell? ⟨blk, off + 1, none⟩ = some (.int .u8 x1.toNat) := cell_below HB1 q1.out
    have hT1 := tch_setCells (w.heap.size + 1) (mcl (kmsg ((x0.toNat : Int) * 256 + x1.toNat)) nil0 nil0) 0 (W1.alloc (.cells (mc zmsg nil0 nil0) 25)).drew
    have p0d : W1.drew.cell? ⟨blk, off, none⟩ = some (.int .u8 x0.toNat) := p0
    have p1d : W1.drew.cell? ⟨blk, off + 1, none⟩ = some (.int .u8 x1.toNat) := p1
    have p0a : (W1.alloc (.cells (mc zmsg nil0 nil0) 25)).drew.cell? ⟨blk, off, none⟩ = some (.int .u8 x0.toNat) := cell_alloc p0 _
    have p1a : (W1.alloc (.cells (mc zmsg nil0 nil0) 25)).drew.cell? ⟨blk, off + 1, none⟩ = some (.int .u8 x1.toNat) := cell_alloc p1 _
    have p0s := (hT1.cell (a := ⟨blk, off, none⟩) (show blk ≠ _ by omega)).trans p0a
    have p1s := (hT1.cell (a := ⟨blk, off + 1, none⟩) (show blk ≠ _ by omega)).trans p1a
    have hAl := Below.heap_alloc W1 (.cells (mc zmsg nil0 nil0) 25) blk (by omega)
    have i0 : 0 < b.length := by omega
    have i1 : (1 : Int) < b.length := by omega
    go_region_held3 (fun W => W.cell? ⟨blk, off, none⟩ = some (.int .u8 x0.toNat) ∧ W.cell? ⟨blk, off + 1, none⟩ = some (.int .u8 x1.toNat))
      (constructor <;> with_reducible assumption)
      (fail)
    have hMk := hMn.all zmsg_wf HKW (o' := nil0) (r' := nil0)
    have hMr : MsgIn (W1.alloc (.cells (mc zmsg nil0 nil0) 25)).drew w.heap.size zmsg nil0 nil0 := (HA.alloc (.cells (mc zmsg nil0 nil0) 25)).of_block rfl
    have hMr2 := hMr.tch hT1 (by omega)
    have hB2 := hT1.below ((HB1.alloc (by omega) (.cells (mc zmsg nil0 nil0) 25)).drew) (by omega)
    have z2 : ((W1.alloc (.cells (mc zmsg nil0 nil0) 25)).drew.setCells (w.heap.size + 1) 0 (mcl (kmsg ((x0.toNat : Int) * 256 + x1.toNat)) nil0 nil0)).heap.size = w.heap.size + 2 := by rw [hT1.size]; simp [z1]
    clear hT1 hAl p0 p1 p0d p1d p0a p1a p0s p1s hst hth hMn HA HB1 hMr
    generalize (W1.alloc (.cells (mc zmsg nil0 nil0) 25)).drew.setCells (w.heap.size + 1) 0 (mcl (kmsg ((x0.toNat : Int) * 256 + x1.toNat)) nil0 nil0) = W2 at *
    clear z1 w0 w1 w2 w3 q0 q1
    obtain ⟨kd, hkd⟩ : ∃ kd, kd = (x0.toNat : Int) * 256 + x1.toNat := ⟨_, rfl⟩
    rw [← hkd] at HK HKW hMk
    simp only [← hkd]
    clear hkd l0 l1
    have c0 := hMk.cell 0 _ mc_0
    have HMk := Lib.hid hMk
    have HMr := Lib.hid hMr2
    have HB2 := Lib.hid hB2
    have hrun2 : ∀ W, (Instr.slice 22 (.slice (some ⟨blk, off, none⟩) b.length c) (some (.int .i64 2)) none none).run Try.prog W = .ok (.slice A2 (b.length - 2) c2) W := HRN.out .i64
    clear hMk hMr2 hB2
    go_wp2_with fail
    obtain ⟨D, hD⟩ : ∃ D, D = decS (b.drop 2) := ⟨_, rfl⟩
    have HD := Lib.hid hD
    refine (rdecode_ok (b.drop 2) _ W2 (HB2'.out.below HB2.out)).mono ?_
    rw [← hD]
    clear hD
    rintro e W3 ⟨v3, rfl, hG, hb3⟩
    obtain ⟨A3, c3, rfl⟩ := hG.form
    have c0 := (HMk.out.below hb3).cell 0 _ mc_0
    have hM3 := Lib.hid (HMk.out.below hb3)
    have hR3 := Lib.hid (HMr.out.below hb3)
    have hB3 := Lib.hid (below_of HB2.out hb3 (by omega))
    have z3 : w.heap.size + 2 ≤ W3.heap.size := by have := hb3.size; omega
    rw [z2] at hG
    have HG3 := Lib.hid hG
    have HDV := Lib.hid (decS_ok (b.drop 2))
    rw [← HD.out] at HDV
    have hDl : D.1.length ≤ 64 := by rw [HD.out]; exact decS_len _
    clear hb3 hG HB2 HMk HMr z2 hrun2 HB2'
    go_wp2_with fail
    refine (rfields_ok kd W3).mono ?_
    rintro e W4 ⟨Af, nf, cf, rfl, hnf, _, hof, hb4⟩
    obtain ⟨L, hL⟩ : ∃ L, L = fieldsOf kd := ⟨_, rfl⟩
    rw [← hL] at hnf hof
    obtain rfl := hnf.len
    have HL := Lib.hid hL
    have hM4 := Lib.hid (hM3.out.below hb4)
    have hR4 := Lib.hid (hR3.out.below hb4)
    have hB4 := Lib.hid (below_of hB3.out hb4 (by omega))
    have HG4 := Lib.hid (HG3.out.below hb4)
    have z4 : w.heap.size + 2 ≤ W4.heap.size := by have := hb4.size; omega
    have HF4 := Lib.hid (own_lower hof z3)
    have hll : L.length ≤ 6 := by rw [hL]; exact fields_length _
    clear hof hnf hb4 hM3 hR3 hB3 HG3 c0 z3 hL
    have hDe : Hid (decM b = if D.2 ≠ 0 ∨ L = [] then (zmsg, 10) else decEnd (fillS D.1 L (kmsg kd))) := by
      show _ = _
      unfold decM
      rw [if_neg h2, ← HD.out, HK.out, ← HL.out]
    by_cases hbad : D.2 ≠ 0 ∨ L = []
    case pos =>
      have HE2 : Hid (E = (zmsg, 10)) := by show _ = _; rw [HE.out, hDe.out, if_pos hbad]
      by_cases hd0 : D.2 = 0
      · have hnz : ((D.2 : Int) != 0) = false := by rw [hd0]; rfl
        obtain rfl : L = [] := by rcases hbad with h | h; exact absurd hd0 h; exact h
        clear hd0 hbad h2 g2 i0 i1
        go_wp2_with (first | ((with_reducible refine dst_is 42 ?_); refine wl_build0 42 _ _ build_none ?_) | ((with_reducible refine store_is 2 ?_); refine wl_puts 25 _ _ w.heap.size 0 (mcl zmsg nil0 nil0) rfl rfl (size_mc _ _ _ zmsg_wf) (mcl_one rfl rfl) (by exact hR4.out.there) ?_; intro W5 e5; have HA := hR4.out.all zmsg_wf zmsg_wf (o' := nil0) (r' := nil0); rw [← e5] at HA; have HT : Tch w.heap.size W4 W5 := (by rw [e5]; exact tch_setCells _ _ _ _); have HB5 := HT.below hB4.out (Nat.le_refl _); clear e5 HT))
        (try simp only [Exit.inBlock, Exit.then])
        refine bodyPost_ret (results_msg_tmp rfl _ rfl HA zmsg_wf) rfl ?_
        rw [HE2.out]
        exact ⟨_, _, rfl, bytes_nil0 _, bytes_nil0 _, zmsg_wf, HB5⟩
      · have hnz := nums_ne hd0
        clear hd0 hbad h2 g2 i0 i1
        go_wp2_with (first | ((with_reducible refine dst_is 42 ?_); refine wl_build0 42 _ _ build_none ?_) | ((with_reducible refine store_is 2 ?_); refine wl_puts 25 _ _ w.heap.size 0 (mcl zmsg nil0 nil0) rfl rfl (size_mc _ _ _ zmsg_wf) (mcl_one rfl rfl) (by exact hR4.out.there) ?_; intro W5 e5; have HA := hR4.out.all zmsg_wf zmsg_wf (o' := nil0) (r' := nil0); rw [← e5] at HA; have HT : Tch w.heap.size W4 W5 := (by rw [e5]; exact tch_setCells _ _ _ _); have HB5 := HT.below hB4.out (Nat.le_refl _); clear e5 HT))
        (try simp only [Exit.inBlock, Exit.then])
        refine bodyPost_ret (results_msg_tmp rfl _ rfl HA zmsg_wf) rfl ?_
        rw [HE2.out]
        exact ⟨_, _, rfl, bytes_nil0 _, bytes_nil0 _, zmsg_wf, HB5⟩
    case neg =>
      have hd0 : D.2 = 0 := by by_cases h : D.2 = 0; exact h; exact absurd (.inl h) hbad
      have hLn : L ≠ [] := fun h => hbad (.inr h)
      have hLp : 0 < L.length := List.length_pos_iff.2 hLn
      have HE2 : Hid (E = decEnd (fillS D.1 L (kmsg kd))) := by show _ = _; rw [HE.out, hDe.out, if_neg hbad]
      have hnz : ((D.2 : Int) != 0) = false := by rw [hd0]; rfl
      have hlz := nums_gt hLp
      clear hd0 hbad h2 g2 i0 i1 hLn hDe HE HD
      have HFL : Hid (∀ t ∈ L, isType t) := fun t ht => by have := HL.out; subst this; exact field_type ht
      have HI : RInv w W4 (kmsg kd) nil0 nil0 L Af cf D.1 A3 c3 := ⟨HKW, hM4.out, two_kind W4 (w.heap.size + 2) kd, hR4.out, HF4.out, HG4.out, hB4.out, z4⟩
      clear hM4 hR4 HF4 HG4 hB4 z4 HKW
      go_wp2_with fail
      go_loopw [8] (fun v8 wr => ∃ (k : Nat) (mk : Msg) (o r : Value), k ≤ L.length ∧ v8 = .int .i64 k ∧ Hid (fillS D.1 L (kmsg kd) = fillS D.1 (L.drop k) mk) ∧ RInv w wr mk o r L Af cf D.1 A3 c3) (fun v8 _ => L.length - (intOf v8).toNat)
      case atStart => exact ⟨0, kmsg kd, nil0, nil0, Nat.zero_le _, rfl, rfl, HI⟩
      case round =>
        obtain ⟨k, mk, o, r, hk, rfl, HS, HI⟩ := hrel
        by_cases hlt : k < L.length
        · obtain ⟨bF, oF, rfl, -⟩ := (own_nums_at HI.nums).at_ (by omega)
          have hty := HFL.out L[k] (List.getElem_mem hlt)
          have HTY := Lib.hid hty
          have hd : L.drop k = L[k] :: L.drop (k + 1) := (List.drop_eq_getElem_cons hlt)
          have HS1 : Hid (fillS D.1 L (kmsg kd) = if (innerS L[k] D.1 (mk, false)).2 then fillS D.1 (L.drop (k + 1)) (innerS L[k] D.1 (mk, false)).1 else none) := by show _ = _; rw [HS.out, hd]; rfl
          clear hty hd HS
          go_wp2_with fail
          go_loopw [9, 10] (fun v9 v10 wi => ∃ (j : Nat) (s : Msg × Bool) (o' r' : Value), j ≤ D.1.length ∧ v10 = .int .i64 j ∧ v9 = .bool s.2 ∧ Hid (innerS L[k] (D.1.take j) (mk, false) = s) ∧ RInv w wi s.1 o' r' L (some ⟨bF, oF, none⟩) cf D.1 A3 c3) (fun _ v10 _ => D.1.length - (intOf v10).toNat)
          case atStart => exact ⟨0, (mk, false), o, r, Nat.zero_le _, rfl, rfl, rfl, HI⟩
          case round =>
            obtain ⟨j, s, o', r', hj, rfl, rfl, HN, HJ⟩ := hrel
            by_cases hjl : j < D.1.length
            · obtain ⟨g, rfl, hg⟩ := HJ.recs.at_ (by omega)
              obtain ⟨A', c', hc1, hc2, hc3⟩ := hg j hjl
              have HC2 := Lib.hid hc2
              obtain ⟨b2, o2, e2, hcF⟩ := (own_nums_at HJ.nums).at_ (by omega)
              obtain ⟨rfl, rfl⟩ : bF = b2 ∧ oF = o2 := by simpa using e2
              have hck := hcF k hlt
              clear hg hcF e2 hc2 hc3
              have hj0 : (0 : Int) ≤ j := by omega
              have hjI : (j : Int) < D.1.length := by omega
              have hkI : (k : Int) < L.length := by omega
              by_cases he : D.1[j].1 = L[k]
              · have heq : (((D.1[j].1 : Nat) : Int) == ((L[k] : Nat) : Int)) = true := by rw [beq_iff_eq, he]
                have HQ := Lib.hid he
                clear he
                go_wp2_with fail
                go_quiet (fail)
                rename_i nq
                have hqb := below_drewN (Below.refl wr.heap.size wr) nq
                have HJ2 := HJ.below hqb
                have HC3 := Lib.hid (cell_below hqb HC2.out)
                have hck2 := cell_below hqb hck
                generalize wr.drewN nq = wj at *
                clear hqb HJ HC2 hck hc1 heq
                have HT3 : Hid (wj.ownsRow (w.heap.size + 2) 5 1 (.slice A' D.1[j].2.length c') D.1[j].2.length (bvs D.1[j].2)) := by
                  obtain ⟨g', e', hg'⟩ := HJ2.recs.at_ (by omega)
                  obtain rfl : g = g' := by simpa using e'
                  obtain ⟨A2, c2, _, q2, q3⟩ := hg' j hjl
                  rw [HC3.out] at q2
                  simp only [Option.some.injEq, Value.slice.injEq] at q2
                  obtain ⟨rfl, _, rfl⟩ := q2
                  exact q3
                have hc3 := HC3.out
                have HLB := Lib.hid (HDV.out D.1[j] (List.getElem_mem hjl)).1
                have HSW := Lib.hid (withS_wf HJ2.wf L[k] D.1[j].2 (by have := HLB.out; omega))
                have HS2 : Hid (innerS L[k] (D.1.take (j + 1)) (mk, false) = withS s.1 L[k] D.1[j].2) := by show _ = _; rw [innerS_succ _ _ _ hjl, if_pos HQ.out, HN.out]
                have HD := HJ2.below ((Below.refl wj.heap.size wj).drew)
                have hL1 : ∀ W : World, W.rangeAt (w.heap.size + 1) 0 (mcl s.1 o' r') → (LdAny 25 (.pointer (some ⟨w.heap.size + 1, 0, none⟩))).run Try.prog W = .ok (.agg (mc s.1 o' r')) W := fun W h => run_loadAt_mid W _ _ _ _ _ h Try.underlying25 rfl (size_mc _ _ _ HJ2.wf)
                have hSt : ∀ W : World, W.there (w.heap.size + 1) 0 137 → (StAny 25 (.pointer (some ⟨w.heap.size + 1, 0, none⟩)) (.agg (mc (withS s.1 L[k] D.1[j].2).1 (cpO o' (.slice A' D.1[j].2.length c') L[k]) (cpR r' (.slice A' D.1[j].2.length c') L[k])))).run Try.prog W = .ok () (W.setCells (w.heap.size + 1) 0 (mcl (withS s.1 L[k] D.1[j].2).1 (cpO o' (.slice A' D.1[j].2.length c') L[k]) (cpR r' (.slice A' D.1[j].2.length c') L[k]))) := by
                  intro W h
                  have h2 := HJ2.two.with HTY.out HT3.out
                  have := run_storeAt_mid (P := Try.prog) W (w.heap.size + 1) 0 25 (mc (withS s.1 L[k] D.1[j].2).1 (cpO o' (.slice A' D.1[j].2.length c') L[k]) (cpR r' (.slice A' D.1[j].2.length c') L[k])) (by simpa [mc, mcl_length HSW.out] using h) (by rw [size_msg]; simp [mc, mcl_length HSW.out]) (all_oneCell_toArray (mcl_one (own_one h2.1) (own_one h2.2)))
                  simpa [mc, StAny] using this
                have hR1 := HD.m.range
                go_wp2_with fail
                go_region_with (first | (go_at_call 26; refine (with_ok s.1 L[k] D.1[j].2 o' r' _ _ HJ2.wf (own_one HD.two.1) (own_one HD.two.2) (own_bytes (own_below HT3.out ((Below.refl wj.heap.size wj).drew))) (by have := HLB.out; omega) HTY.out).mono ?_; rintro e wa ⟨rfl, hba⟩; have HDa := HD.below hba; have hTa := HDa.m.there; have HTa := Lib.hid (own_below (own_below HT3.out ((Below.refl wj.heap.size wj).drew)) hba)) | fail)
                all_goals
                  have HP := HDa.put HSW.out (HDa.two.with HTY.out HTa.out)
                  clear hL1 hSt hR1 hTa HDa HD hba
                  generalize wa.setCells (w.heap.size + 1) 0 (mcl (withS s.1 L[k] D.1[j].2).1 (cpO o' (.slice A' D.1[j].2.length c') L[k]) (cpR r' (.slice A' D.1[j].2.length c') L[k])) = w5 at *
                  go_wp2_with fail
                  go_roundw
                  case rel => exact ⟨j + 1, _, _, _, by omega, by go_num, rfl, HS2.out, HP⟩
                  case measure => simp [intOf]; omega
              · have heq : (((D.1[j].1 : Nat) : Int) == ((L[k] : Nat) : Int)) = false := by rw [beq_eq_false_iff_ne]; omega
                have HS2 : Hid (innerS L[k] (D.1.take (j + 1)) (mk, false) = s) := by show _ = _; rw [innerS_succ _ _ _ hjl, if_neg he, HN.out]
                clear he
                go_wp2_with fail
                go_quiet (fail)
                rename_i nq
                have HJ2 := HJ.below (below_drewN (Below.refl wr.heap.size wr) nq)
                generalize wr.drewN nq = wj at *
                clear HJ HC2 hck hc1 heq
                go_wp2_with fail
                go_roundw
                case rel => exact ⟨j + 1, s, o', r', by omega, by go_num, rfl, HS2.out, HJ2⟩
                case measure => simp [intOf]; omega
            · have hje : j = D.1.length := by omega
              have HS2 : Hid (innerS L[k] D.1 (mk, false) = s) := by show _ = _; rw [← HN.out, hje, List.take_length]
              clear HN hje
              cases hs : s.2 with
              | false =>
                have HE3 : Hid (E = (zmsg, 10)) := by show _ = _; rw [HE2.out, HS1.out, HS2.out, hs]; rfl
                go_wp2_with (first | ((with_reducible refine dst_is 81 ?_); refine wl_build0 81 _ _ build_none ?_) | ((with_reducible refine store_is 2 ?_); refine wl_puts 25 _ _ w.heap.size 0 (mcl zmsg nil0 nil0) rfl rfl (size_mc _ _ _ zmsg_wf) (mcl_one rfl rfl) (by exact HJ.res.there) ?_; intro W5 e5; obtain ⟨HA, HB5, -⟩ := HJ.ret zmsg_wf (o' := nil0) (r' := nil0); rw [← e5] at HA HB5; clear e5))
                (try simp only [Exit.inBlock, Exit.then])
                (try rw [Exit.noGoto_ret])
                refine bodyPost_ret (results_msg_tmp rfl _ rfl HA zmsg_wf) rfl ?_
                rw [HE3.out]
                exact ⟨_, _, rfl, bytes_nil0 _, bytes_nil0 _, zmsg_wf, HB5⟩
              | true =>
                have HS3 : Hid (fillS D.1 L (kmsg kd) = fillS D.1 (L.drop (k + 1)) s.1) := by show _ = _; rw [HS1.out, HS2.out, hs]; rfl
                clear hs
                go_wp2_with fail
                go_roundw
                case rel => exact ⟨k + 1, s.1, o', r', by omega, by go_num, HS3.out, HJ⟩
                case measure => simp [intOf]; omega
        · have HS1 : Hid (E = if mayS mk then (mk, 0) else (zmsg, 10)) := by show _ = _; rw [HE2.out, HS.out, List.drop_of_length_le (by omega)]; rfl
          clear HS HE2
          go_wp2_with (first | ((with_reducible refine dst_is 82 ?_); refine wl_load 82 25 _ (w.heap.size + 1) 0 (mcl mk o r) _ rfl rfl Try.underlying25 rfl (size_mc _ _ _ HI.wf) HI.m.range ?_))
          refine (rmay_ok mk o r _ HI.wf (own_bytes HI.two.1) (own_bytes HI.two.2)).mono ?_
          rintro e wa ⟨rfl, hba⟩
          have HI2 := HI.below hba
          clear HI hba
          cases hmy : mayS mk with
          | false =>
            have HE3 : Hid (E = (zmsg, 10)) := by show _ = _; rw [HS1.out, hmy]; rfl
            clear hmy HS1
            go_wp2_with (first | ((with_reducible refine dst_is 85 ?_); refine wl_build0 85 _ _ build_none ?_) | ((with_reducible refine store_is 2 ?_); refine wl_puts 25 _ _ w.heap.size 0 (mcl zmsg nil0 nil0) rfl rfl (size_mc _ _ _ zmsg_wf) (mcl_one rfl rfl) (by exact HI2.res.there) ?_; intro W5 e5; obtain ⟨HA, HB5, -⟩ := HI2.ret zmsg_wf (o' := nil0) (r' := nil0); rw [← e5] at HA HB5; clear e5))
            (try simp only [Exit.inBlock, Exit.then])
            refine bodyPost_ret (results_msg_tmp rfl _ rfl HA zmsg_wf) rfl ?_
            rw [HE3.out]
            exact ⟨_, _, rfl, bytes_nil0 _, bytes_nil0 _, zmsg_wf, HB5⟩
          | true =>
            have HE3 : Hid (E = (mk, 0)) := by show _ = _; rw [HS1.out, hmy]; rfl
            clear hmy HS1
            go_wp2_with (first | ((with_reducible refine dst_is 86 ?_); refine wl_load 86 25 _ (w.heap.size + 1) 0 (mcl mk o r) _ rfl rfl Try.underlying25 rfl (size_mc _ _ _ HI2.wf) HI2.m.range ?_) | ((with_reducible refine store_is 2 ?_); refine wl_puts 25 _ _ w.heap.size 0 (mcl mk o r) rfl rfl (size_mc _ _ _ HI2.wf) (mcl_one (own_one HI2.two.1) (own_one HI2.two.2)) (by rw [mcl_length HI2.wf]; exact HI2.res.there) ?_; intro W5 e5; obtain ⟨HA, HB5, HT5⟩ := HI2.ret HI2.wf (o' := o) (r' := r); rw [← e5] at HA HB5 HT5; clear e5))
            (try simp only [Exit.inBlock, Exit.then])
            refine bodyPost_ret (results_msg_tmp rfl _ rfl HA HI2.wf) rfl ?_
            rw [HE3.out]
            exact ⟨_, _, rfl, own_bytes (own_tch HI2.two.1 HT5 (by omega)), own_bytes (own_tch HI2.two.2 HT5 (by omega)), HI2.wf, HB5⟩
end Go.Proofs.Ytdohenfbehpplaa
/- wire.Decode: a contract. -/
namespace Go.Proofs.Ytdohenfbehpplaa
set_option linter.unusedVariables false
set_option linter.unusedSimpArgs false
open Go.RowKit
attribute [local irreducible] Go.wpList
attribute [local go_sem ↓] ldm stm bdm
attribute [local go_sem] build_kind build_none zero_msg

set_option maxRecDepth 20000 in
set_option maxHeartbeats 3200000 in
/-- wire.Decode. -/
theorem decM_ok (b : List UInt8) (v : Value) (w : World) (h : Bytes w v b) :
    Calls Try.prog 9 #[v] w fun e w' => ∃ o r, e = .returned (.tuple #[.agg (mc (decM b).1 o r), .int .i64 (decM b).2]) ∧ Bytes w' o (decM b).1.onion ∧ Bytes w' r (decM b).1.reason ∧ (decM b).1.Wf ∧ Below w.heap.size w w' := by
  obtain ⟨A, n, c, rfl⟩ := h.slice
  obtain rfl := bytes_len h
  have HH := Lib.hid h
  obtain ⟨E, hE⟩ : ∃ E, E = decM b := ⟨_, rfl⟩
  rw [← hE]
  have HE := Lib.hid hE
  clear hE
  by_cases h2 : b.length < 2
  · have HE2 : Hid (E = (zmsg, 10)) := by show _ = _; rw [HE.out]; exact if_pos h2
    have g2 : (b.length : Int) < 2 := by omega
    clear h
    go_enter Try.func9, Try.ntmps9
    go_wp2_with (first | ((with_reducible refine dst_is 2 ?_); refine wl_alloc 2 _ _ zero_msg ?_; intro W1 e1; have z1 : W1.heap.size = w.heap.size + 1 := (by rw [e1]; simp); have HA : MsgIn W1 w.heap.size zmsg nil0 nil0 := (by rw [e1]; exact msgIn_new w zmsg_wf); have HB1 : Below w.heap.size w W1 := (by rw [e1]; exact (Below.refl _ _).alloc (Nat.le_refl _) _); clear e1))
    go_step3
    go_wp2_with (first | ((with_reducible refine dst_is 16 ?_); refine wl_build0 16 _ _ build_none ?_) | ((with_reducible refine store_is 2 ?_); refine wl_puts 25 _ _ w.heap.size 0 (mcl zmsg nil0 nil0) rfl rfl (size_mc _ _ _ zmsg_wf) (mcl_one rfl rfl) (by exact HA.there) ?_; intro W5 e5; replace HA := HA.all zmsg_wf zmsg_wf (o' := nil0) (r' := nil0); rw [← e5] at HA; have HT : Tch w.heap.size W1 W5 := (by rw [e5]; exact tch_setCells _ _ _ _); have HB5 := HT.below HB1 (Nat.le_refl _); clear e5 HT))
    (try rw [Exit.noGoto_ret])
    (try simp only [Exit.inBlock, Exit.then])
    refine bodyPost_ret (results_msg_tmp rfl _ rfl HA zmsg_wf) rfl ?_
    rw [HE2.out]
    exact ⟨_, _, rfl, bytes_nil0 _, bytes_nil0 _, zmsg_wf, HB5⟩
  · obtain ⟨blk, off, rfl, hc⟩ : ∃ blk off, A = some ⟨blk, off, none⟩ ∧ ∀ j (hj : j < b.length), w.cell? ⟨blk, off + j, none⟩ = some (bv b[j]) := by
      rcases h.open with ⟨rfl, _⟩ | ⟨_, b', off, c', e, _, _, hc⟩
      · simp at h2
      · simp only [Value.slice.injEq] at e; obtain ⟨rfl, _, rfl⟩ := e; exact ⟨b', off, rfl, hc⟩
    have q0 : Hid (w.cell? ⟨blk, off, none⟩ = some (bv b[0])) := hc 0 (by omega)
    have q1 := Lib.hid (hc 1 (by omega))
    obtain ⟨x0, hx0⟩ : ∃ x0, x0 = b[0] := ⟨_, rfl⟩
    obtain ⟨x1, hx1⟩ : ∃ x1, x1 = b[1] := ⟨_, rfl⟩
    rw [← hx0] at q0
    rw [← hx1] at q1
    obtain ⟨kn, hkn⟩ : ∃ kn, kn = x0.toNat * 256 + x1.toNat := ⟨_, rfl⟩
    have HK : Hid (kindOf b = (kn : Int)) := by
      show _ = _
      unfold kindOf
      rw [List.getD_eq_getElem?_getD, List.getD_eq_getElem?_getD, List.getElem?_eq_getElem (by omega), List.getElem?_eq_getElem (by omega), hkn, hx0, hx1]
      simp
    obtain ⟨A2, c2, hrun, hb2⟩ := bytes_from (P := Try.prog) 22 5 Try.underlying22 (by kernel_rfl) h 2 (by omega)
    have HRN := Lib.hid hrun
    have HB2' := Lib.hid hb2
    have l0 := x0.toNat_lt
    have l1 := x1.toNat_lt
    have hkb : kn < 65536 := by omega
    have w0 : IntKind.i64.wrap (x0.toNat : Int) = (x0.toNat : Int) := by rw [IntKind.wrap_i64]; omega
    have w1 : IntKind.i64.wrap (x1.toNat : Int) = (x1.toNat : Int) := by rw [IntKind.wrap_i64]; omega
    have w2 : IntKind.i64.wrap ((x0.toNat : Int) * 256) = (x0.toNat : Int) * 256 := by rw [IntKind.wrap_i64]; omega
    have w3 : bits BinOp.or IntKind.i64 ((x0.toNat : Int) * 256) (x1.toNat : Int) = (kn : Int) := by rw [or_i64 _ _ (by omega), hkn]
    have g2 : ¬ (b.length : Int) < 2 := by omega
    have hblt : blk < w.heap.size := World.block_lt_of_cell? w _ (hc 0 (by omega))
    clear hc hx0 hx1 h hrun hb2 hkn
    go_enter Try.func9, Try.ntmps9
    go_wp2_with (first | ((with_reducible refine dst_is 2 ?_); refine wl_alloc 2 _ _ zero_msg ?_; intro W1 e1; have z1 : W1.heap.size = w.heap.size + 1 := (by rw [e1]; simp); have HA : MsgIn W1 w.heap.size zmsg nil0 nil0 := (by rw [e1]; exact msgIn_new w zmsg_wf); have HB1 : Below w.heap.size w W1 := (by rw [e1]; exact (Below.refl _ _).alloc (Nat.le_refl _) _); clear e1))
    go_step3
    go_wp2_with fail
    have hMn : MsgIn (W1.alloc (.cells (mc zmsg nil0 nil0) 25)).drew (w.heap.size + 1) zmsg nil0 nil0 := by
      have := msgIn_new (o := nil0) (r := nil0) W1 zmsg_wf
      rw [z1] at this
      exact this.of_block rfl
    have hth := hMn.there
    have HKW : (kmsg (kn : Int)).Wf := ⟨rfl, rfl, rfl, rfl, by show isI64 (kn : Int); unfold isI64; omega, zmsg_wf.channel, zmsg_wf.id, zmsg_wf.amount, zmsg_wf.expiry, zmsg_wf.number, zmsg_wf.told, Nat.zero_le _, Nat.zero_le _⟩
    have hst : ∀ W : World, W.there (w.heap.size + 1) 0 137 → (StAny 25 (.pointer (some ⟨w.heap.size + 1, 0, none⟩)) (.agg (mc (kmsg (kn : Int)) nil0 nil0))).run Try.prog W = .ok () (W.setCells (w.heap.size + 1) 0 (mcl (kmsg (kn : Int)) nil0 nil0)) := by
      intro W h
      have := run_storeAt_mid (P := Try.prog) W (w.heap.size + 1) 0 25 (mc (kmsg (kn : Int)) nil0 nil0) (by simpa [mc, mcl_length HKW] using h) (by rw [size_msg]; simp [mc, mcl_length HKW]) (all_oneCell_toArray (mcl_one rfl rfl))
      simpa [mc, StAny] using this
    have p0 : W1.cell? ⟨blk, off, none⟩ = some (.int .u8 x0.toNat) := cell_below HB1 q0.out
    have p1 : W1.cell? ⟨blk, off + 1, none⟩ = some (.int .u8 x1.toNat) := cell_below HB1 q1.out
    have hT1 := tch_setCells (w.heap.size + 1) (mcl (kmsg (kn : Int)) nil0 nil0) 0 (W1.alloc (.cells (mc zmsg nil0 nil0) 25)).drew
    have p0d : W1.drew.cell? ⟨blk, off, none⟩ = some (.int .u8 x0.toNat) := p0
    have p1d : W1.drew.cell? ⟨blk, off + 1, none⟩ = some (.int .u8 x1.toNat) := p1
    have p0a : (W1.alloc (.cells (mc zmsg nil0 nil0) 25)).drew.cell? ⟨blk, off, none⟩ = some (.int .u8 x0.toNat) := cell_alloc p0 _
    have p1a : (W1.alloc (.cells (mc zmsg nil0 nil0) 25)).drew.cell? ⟨blk, off + 1, none⟩ = some (.int .u8 x1.toNat) := cell_alloc p1 _
    have p0s := (tch_cell hT1 (a := ⟨blk, off, none⟩) (show blk ≠ _ by omega)).trans p0a
    have p1s := (tch_cell hT1 (a := ⟨blk, off + 1, none⟩) (show blk ≠ _ by omega)).trans p1a
    have i0 : 0 < b.length := by omega
    have i1 : (1 : Int) < b.length := by omega
    go_region_held3 (fun W => W.cell? ⟨blk, off, none⟩ = some (.int .u8 x0.toNat) ∧ W.cell? ⟨blk, off + 1, none⟩ = some (.int .u8 x1.toNat))
      (constructor <;> with_reducible assumption)
      (fail)
    have hMk := hMn.all zmsg_wf HKW (o' := nil0) (r' := nil0)
    have hMr : MsgIn (W1.alloc (.cells (mc zmsg nil0 nil0) 25)).drew w.heap.size zmsg nil0 nil0 := (HA.alloc (.cells (mc zmsg nil0 nil0) 25)).of_block rfl
    have hMr2 := hMr.tch hT1 (by omega)
    have hB2 := hT1.below ((HB1.alloc (by omega) (.cells (mc zmsg nil0 nil0) 25)).drew) (by omega)
    have z2 : ((W1.alloc (.cells (mc zmsg nil0 nil0) 25)).drew.setCells (w.heap.size + 1) 0 (mcl (kmsg (kn : Int)) nil0 nil0)).heap.size = w.heap.size + 2 := by rw [hT1.size]; simp [z1]
    clear hT1 p0 p1 p0d p1d p0a p1a p0s p1s hst hth hMn HA HB1 hMr
    generalize (W1.alloc (.cells (mc zmsg nil0 nil0) 25)).drew.setCells (w.heap.size + 1) 0 (mcl (kmsg (kn : Int)) nil0 nil0) = W2 at *
    clear z1 w0 w1 w2 w3 q0 q1 l0 l1
    have c0 := hMk.cell 0 _ mc_0
    have HMk := Lib.hid hMk
    have HMr := Lib.hid hMr2
    have HB2 := Lib.hid hB2
    have hrun2 : ∀ W, (Instr.slice 22 (.slice (some ⟨blk, off, none⟩) b.length c) (some (.int .i64 2)) none none).run Try.prog W = .ok (.slice A2 (b.length - 2) c2) W := HRN.out .i64
    clear hMk hMr2 hB2 i0 i1
    go_wp2_with fail
    refine (fields_ok (kn : Int) W2).mono ?_
    rintro e W3 ⟨Af, nf, cf, rfl, hnf, hnn, hof, hb3⟩
    obtain ⟨L, hL⟩ : ∃ L, L = fieldsOf (kn : Int) := ⟨_, rfl⟩
    rw [← hL] at hnf hof hnn
    obtain rfl := hnf.len
    rw [z2] at hof
    have HL := Lib.hid hL
    have hM3 := Lib.hid (HMk.out.below hb3)
    have hR3 := Lib.hid (HMr.out.below hb3)
    have hB3 := Lib.hid (below_of HB2.out hb3 (by omega))
    have z3 : w.heap.size + 2 ≤ W3.heap.size := by have := hb3.size; omega
    have HF3 := Lib.hid hof
    have hll : L.length ≤ 6 := by rw [hL]; exact fields_length _
    have HNN := Lib.hid hnn
    clear hof hnf hb3 HMk HMr HB2 c0 hL hnn z2
    go_wp2_with fail
    obtain ⟨D, hD⟩ : ∃ D, D = decS (b.drop 2) := ⟨_, rfl⟩
    have HD := Lib.hid hD
    refine (decode_ok (b.drop 2) _ W3 (HB2'.out.below hB3.out)).mono ?_
    rw [← hD]
    clear hD
    rintro e W4 ⟨v4, rfl, hG, hb4⟩
    obtain ⟨A4, c4, rfl⟩ := hG.form
    have HDV := Lib.hid (decS_ok (b.drop 2))
    have HAS := Lib.hid (decS_asc (b.drop 2))
    have hDl : D.1.length ≤ 64 := by rw [HD.out]; exact decS_len _
    rw [← HD.out] at HDV HAS
    have HI : RInv w W4 (kmsg (kn : Int)) nil0 nil0 L Af cf D.1 A4 c4 := ⟨HKW, hM3.out.below hb4, two_kind W4 (w.heap.size + 2) _, hR3.out.below hb4, own_below HF3.out hb4, hG.lower z3, below_of hB3.out hb4 (by omega), by have := hb4.size; omega⟩
    clear hb4 hG hM3 hR3 hB3 HF3 z3 hrun2 HB2'
    have hDe : Hid (decM b = if D.2 ≠ 0 ∨ L = [] then (zmsg, 10) else decEnd (fillS D.1 L (kmsg (kn : Int)))) := by
      show _ = _
      unfold decM
      rw [if_neg h2, ← HD.out, HK.out, ← HL.out]
    have hneq : ∀ W, (binOp .neq 45 (.slice Af L.length cf) (.slice none 0 0)).run Try.prog W = .ok (.bool (!Af.isNone)) W := fun W => run_neq_slice_nil (P := Try.prog) W 45 32 Af L.length cf Try.underlying45
    obtain ⟨rb, hrb⟩ : ∃ rb : Bool, rb = decide (D.2 = 0 ∧ L ≠ []) := ⟨_, rfl⟩
    have HRB := Lib.hid hrb
    have HFL : Hid (∀ t ∈ L, isType t) := fun t ht => by have := HL.out; subst this; exact field_type ht
    have HND : Hid (L.Nodup) := by have := HL.out; subst this; exact fields_nodup _
    have HE2 : Hid (rb = false → E = (zmsg, 10)) := fun h => by
      rw [HE.out, hDe.out, if_pos]
      rw [HRB.out] at h
      simp only [decide_eq_false_iff_not] at h
      by_cases q : D.2 = 0
      · right
        by_cases q2 : L = []
        · exact q2
        · exact absurd ⟨q, q2⟩ h
      · exact .inl q
    have HE3 : Hid (rb = true → E = decEnd (fillS D.1 L (kmsg (kn : Int)))) := fun h => by
      rw [HRB.out] at h
      simp only [decide_eq_true_eq] at h
      rw [HE.out, hDe.out, if_neg (by rintro (q | q); exact q h.1; exact h.2 q)]
    have hone : (((D.2 : Nat) : Int) == 0) = true ∧ (!Af.isNone) = rb ∨ (((D.2 : Nat) : Int) == 0) = false ∧ rb = false := by
      by_cases q : D.2 = 0
      · left
        refine ⟨by rw [q]; rfl, ?_⟩
        rw [hrb]
        cases hA : Af with
        | none => have := HNN.out.1 hA; simp [this]
        | some af => have : L ≠ [] := fun h => by have := HNN.out.2 h; rw [hA] at this; cases this
                     simp [q, this]
      · right
        exact ⟨by rw [beq_eq_false_iff_ne]; omega, by rw [hrb]; simp [q]⟩
    clear hDe hrb h2 g2 HKW
    cases hrv : rb with
    | true =>
      obtain ⟨hz0, hzr⟩ : (((D.2 : Nat) : Int) == 0) = true ∧ (!Af.isNone) = true := by
        rcases hone with ⟨h1, h2⟩ | ⟨h1, h2⟩
        · exact ⟨h1, h2.trans hrv⟩
        · rw [hrv] at h2; cases h2
      have HEE := Lib.hid (HE3.out hrv)
      rw [hzr] at hneq
      clear hone hrv
      clear hzr
      go_wp2_with fail
      go_step3
      go_wp2_with fail
      clear hz0 hneq
      go_loopw [8, 45] (fun v8 v45 wr => ∃ (k : Nat) (mk : Msg) (o r : Value), k ≤ L.length ∧ v45 = .int .i64 k ∧ v8 = .bool true ∧ Hid (fillS D.1 L (kmsg (kn : Int)) = fillS D.1 (L.drop k) mk) ∧ Hid (ZeroOn (L.drop k) mk) ∧ RInv w wr mk o r L Af cf D.1 A4 c4) (fun _ v45 _ => L.length - (intOf v45).toNat)
      case atStart => exact ⟨0, kmsg kn, nil0, nil0, Nat.zero_le _, rfl, rfl, rfl, zeroOn_kmsg _ _, HI⟩
      case round =>
        obtain ⟨k, mk, o, r, hk, rfl, rfl, HS, HZO, HJ⟩ := hrel
        clear HI
        by_cases hlt : k < L.length
        · obtain ⟨bF, oF, rfl, hcF⟩ := (own_nums_at HJ.nums).at_ (by omega)
          have hck := hcF k hlt
          have HTY := Lib.hid (HFL.out L[k] (List.getElem_mem hlt))
          have HNM := Lib.hid (not_mem_drop HND.out hlt)
          have HDR := Lib.hid (List.drop_eq_getElem_cons hlt)
          clear hcF
          obtain ⟨t, htt⟩ : ∃ t, t = L[k] := ⟨_, rfl⟩
          rw [← htt] at HTY hck HNM HDR
          clear htt
          go_wp2_with fail
          refine (find_ok D.1 _ t wr HJ.recs.recs (fun r hr => ⟨(HDV.out r hr).2, by have := (HDV.out r hr).1; omega⟩)).mono ?_
          rintro e wa ⟨v6, rfl, ho6, hb6⟩
          have HK2 := HJ.below hb6
          have HO6 := Lib.hid ho6
          have hzz := HJ.sz
          obtain ⟨A6, c6, rfl, _⟩ := own_form ho6
          clear hck HJ ho6 hb6
          have HS1 := Lib.hid HS.out
          clear HS
          have HIN := Lib.hid (innerS_find (t := t) D.1 (mk, false) HAS.out)
          have HFS : Hid (fillS D.1 (L.drop k) mk = if (innerS t D.1 (mk, false)).2 then fillS D.1 (L.drop (k + 1)) (innerS t D.1 (mk, false)).1 else none) := by show _ = _; rw [HDR.out]; rfl
          cases hfs : findS t D.1 with
          | none =>
            have HE4 : Hid (E = (zmsg, 10)) := by show _ = _; rw [HEE.out, HS1.out, HFS.out, HIN.out, hfs]; rfl
            clear hfs HEE
            have HEE := HE4
            go_wp2_with (first | ((with_reducible refine dst_is 76 ?_); refine wl_build0 76 _ _ build_none ?_) | ((with_reducible refine store_is 2 ?_); refine wl_puts 25 _ _ w.heap.size 0 (mcl zmsg nil0 nil0) rfl rfl (size_mc _ _ _ zmsg_wf) (mcl_one rfl rfl) (by exact HK2.res.there) ?_; intro W5 e5; obtain ⟨HA, HB5⟩ := And.intro (HK2.ret zmsg_wf (o' := nil0) (r' := nil0)).1 (HK2.ret zmsg_wf (o' := nil0) (r' := nil0)).2.1; rw [← e5] at HA HB5; clear e5))
            (try rw [Exit.noGoto_ret])
            (try simp only [Exit.inBlock, Exit.then])
            refine bodyPost_ret (results_msg_tmp rfl _ rfl HA zmsg_wf) rfl ?_
            rw [HEE.out]
            exact ⟨_, _, rfl, bytes_nil0 _, bytes_nil0 _, zmsg_wf, HB5⟩
          | some val =>
            have HIN2 : Hid (innerS t D.1 (mk, false) = withS mk t val) := by show _ = _; rw [HIN.out, hfs]
            have HO7 : Hid (wa.ownsRow wr.heap.size 5 1 (.slice A6 ((findS t D.1).getD []).length c6) val.length (bvs val)) := by
              have := HO6.out; rw [hfs] at this ⊢; exact this
            have HVL : Hid (val.length ≤ 65536) := (HDV.out _ (findS_mem hfs)).1
            rw [hfs] at HO7
            clear hfs HIN HO6
            simp only [Option.getD_some] at HO7 ⊢
            have HWF := Lib.hid (withS_wf HK2.wf t val (by have := HVL.out; omega))
            have HTW := Lib.hid (HK2.two.with HTY.out (own_lower HO7.out hzz))
            go_wp2_with fail
            refine (set_ok mk (w.heap.size + 1) t val o r _ wa HK2.wf HK2.m (own_bytes HO7.out) (by have := HVL.out; omega) (fun g hg => by have := own_base HO7.out g hg; omega) HTY.out (fun j hj => HZO.out t (by rw [HDR.out]; simp) j hj)).mono ?_
            rintro e wb ⟨rfl, hMs, hTs⟩
            cases hq : (withS mk t val).2 with
            | false =>
              have HE4 : Hid (E = (zmsg, 10)) := by show _ = _; rw [HEE.out, HS1.out, HFS.out, HIN2.out, hq]; rfl
              clear HEE
              have HEE := HE4
              have hres := HK2.res.tch hTs (by omega)
              have hblw := hTs.below HK2.blw (by omega)
              clear hq hMs
              go_wp2_with (first | ((with_reducible refine dst_is 76 ?_); refine wl_build0 76 _ _ build_none ?_) | ((with_reducible refine store_is 2 ?_); refine wl_puts 25 _ _ w.heap.size 0 (mcl zmsg nil0 nil0) rfl rfl (size_mc _ _ _ zmsg_wf) (mcl_one rfl rfl) (by exact hres.there) ?_; intro W5 e5; obtain ⟨HA, HB5⟩ := And.intro (hres.all zmsg_wf zmsg_wf (o' := nil0) (r' := nil0)) ((tch_setCells w.heap.size (mcl zmsg nil0 nil0) 0 wb).below hblw (Nat.le_refl _)); rw [← e5] at HA HB5; clear e5))
              (try rw [Exit.noGoto_ret])
              (try simp only [Exit.inBlock, Exit.then])
              refine bodyPost_ret (results_msg_tmp rfl _ rfl HA zmsg_wf) rfl ?_
              rw [HEE.out]
              exact ⟨_, _, rfl, bytes_nil0 _, bytes_nil0 _, zmsg_wf, HB5⟩
            | true =>
              have HS2 : Hid (fillS D.1 L (kmsg (kn : Int)) = fillS D.1 (L.drop (k + 1)) (withS mk t val).1) := by show _ = _; rw [HS1.out, HFS.out, HIN2.out, hq]; rfl
              have HJ2 := HK2.set hTs HWF.out (hMs hq) HTW.out
              have HZ2 : Hid (ZeroOn (L.drop (k + 1)) (withS mk t val).1) := by
                have := HZO.out
                rw [HDR.out] at this
                exact zeroOn_with this HTY.out HNM.out
              clear hq hMs hTs HK2 HTW
              go_wp2_with fail
              go_roundw
              case rel => exact ⟨k + 1, _, _, _, by omega, by go_num, rfl, HS2.out, HZ2.out, HJ2⟩
              case measure => simp [intOf]; omega
        · have hkl : k = L.length := by omega
          have HS1 : Hid (E = if mayS mk then (mk, 0) else (zmsg, 10)) := by show _ = _; rw [HEE.out, HS.out, hkl, List.drop_length]; rfl
          clear HEE HS
          go_wp2_with (first | ((with_reducible refine dst_is 72 ?_); refine wl_load 72 25 _ (w.heap.size + 1) 0 (mcl mk o r) _ rfl rfl Try.underlying25 rfl (size_mc _ _ _ HJ.wf) HJ.m.range ?_))
          refine (may_ok mk o r _ HJ.wf (own_bytes HJ.two.1) (own_bytes HJ.two.2)).mono ?_
          rintro e wa ⟨rfl, hba⟩
          have HI2 := HJ.below hba
          clear HJ hba
          cases hmy : mayS mk with
          | false =>
            have HEE : Hid (E = (zmsg, 10)) := by show _ = _; rw [HS1.out, hmy]; rfl
            clear hmy HS1
            go_wp2_with (first | ((with_reducible refine dst_is 76 ?_); refine wl_build0 76 _ _ build_none ?_) | ((with_reducible refine store_is 2 ?_); refine wl_puts 25 _ _ w.heap.size 0 (mcl zmsg nil0 nil0) rfl rfl (size_mc _ _ _ zmsg_wf) (mcl_one rfl rfl) (by exact HI2.res.there) ?_; intro W5 e5; obtain ⟨HA, HB5⟩ := And.intro (HI2.ret zmsg_wf (o' := nil0) (r' := nil0)).1 (HI2.ret zmsg_wf (o' := nil0) (r' := nil0)).2.1; rw [← e5] at HA HB5; clear e5))
            (try rw [Exit.noGoto_ret])
            (try simp only [Exit.inBlock, Exit.then])
            refine bodyPost_ret (results_msg_tmp rfl _ rfl HA zmsg_wf) rfl ?_
            rw [HEE.out]
            exact ⟨_, _, rfl, bytes_nil0 _, bytes_nil0 _, zmsg_wf, HB5⟩
          | true =>
            have HEE : Hid (E = (mk, 0)) := by show _ = _; rw [HS1.out, hmy]; rfl
            clear hmy HS1
            go_wp2_with (first | ((with_reducible refine dst_is 77 ?_); refine wl_load 77 25 _ (w.heap.size + 1) 0 (mcl mk o r) _ rfl rfl Try.underlying25 rfl (size_mc _ _ _ HI2.wf) HI2.m.range ?_) | ((with_reducible refine store_is 2 ?_); refine wl_puts 25 _ _ w.heap.size 0 (mcl mk o r) rfl rfl (size_mc _ _ _ HI2.wf) (mcl_one (own_one HI2.two.1) (own_one HI2.two.2)) (by rw [mcl_length HI2.wf]; exact HI2.res.there) ?_; intro W5 e5; obtain ⟨HA, HB5, HT5⟩ := HI2.ret HI2.wf (o' := o) (r' := r); rw [← e5] at HA HB5 HT5; clear e5))
            (try rw [Exit.noGoto_ret])
            (try simp only [Exit.inBlock, Exit.then])
            refine bodyPost_ret (results_msg_tmp rfl _ rfl HA HI2.wf) rfl ?_
            rw [HEE.out]
            exact ⟨_, _, rfl, own_bytes (own_tch HI2.two.1 HT5 (by omega)), own_bytes (own_tch HI2.two.2 HT5 (by omega)), HI2.wf, HB5⟩
    | false =>
      have HEE := Lib.hid (HE2.out hrv)
      rw [hrv] at hone
      clear hrv
      rcases hone with ⟨hz0, hzr⟩ | ⟨hz0, _⟩
      case' inl => rw [hzr] at hneq; clear hzr
      all_goals
        go_wp2_with fail
        go_step3
        go_wp2_with fail
        clear hz0 hneq
        go_loopw [8, 45] (fun v8 v45 wr => v45 = .int .i64 0 ∧ v8 = .bool false ∧ RInv w wr (kmsg (kn : Int)) nil0 nil0 L Af cf D.1 A4 c4) (fun _ _ _ => 0)
        case atStart => exact ⟨rfl, rfl, HI⟩
        case round =>
          obtain ⟨rfl, rfl, HJ⟩ := hrel
          clear HI
          by_cases hlt : 0 < L.length
          · obtain ⟨bF, oF, rfl, hcF⟩ := (own_nums_at HJ.nums).at_ (by omega)
            have hck := hcF 0 hlt
            rw [Nat.add_zero] at hck
            clear hcF
            obtain ⟨t, htt⟩ : ∃ t, t = L[0] := ⟨_, rfl⟩
            rw [← htt] at hck
            clear htt
            have hlt2 : (0 : Int) < L.length := by omega
            go_wp2_with fail
            refine (find_ok D.1 _ t wr HJ.recs.recs (fun r hr => ⟨(HDV.out r hr).2, by have := (HDV.out r hr).1; omega⟩)).mono ?_
            rintro e wa ⟨v6, rfl, ho6, hb6⟩
            have HK2 := HJ.below hb6
            clear hck HJ ho6 hb6
            go_wp2_with (first | ((with_reducible refine dst_is 76 ?_); refine wl_build0 76 _ _ build_none ?_) | ((with_reducible refine store_is 2 ?_); refine wl_puts 25 _ _ w.heap.size 0 (mcl zmsg nil0 nil0) rfl rfl (size_mc _ _ _ zmsg_wf) (mcl_one rfl rfl) (by exact HK2.res.there) ?_; intro W5 e5; obtain ⟨HA, HB5⟩ := And.intro (HK2.ret zmsg_wf (o' := nil0) (r' := nil0)).1 (HK2.ret zmsg_wf (o' := nil0) (r' := nil0)).2.1; rw [← e5] at HA HB5; clear e5))
            (try rw [Exit.noGoto_ret])
            (try simp only [Exit.inBlock, Exit.then])
            refine bodyPost_ret (results_msg_tmp rfl _ rfl HA zmsg_wf) rfl ?_
            rw [HEE.out]
            exact ⟨_, _, rfl, bytes_nil0 _, bytes_nil0 _, zmsg_wf, HB5⟩
          · have hlt2 : ¬ (0 : Int) < L.length := by omega
            go_wp2_with (first | ((with_reducible refine dst_is 76 ?_); refine wl_build0 76 _ _ build_none ?_) | ((with_reducible refine store_is 2 ?_); refine wl_puts 25 _ _ w.heap.size 0 (mcl zmsg nil0 nil0) rfl rfl (size_mc _ _ _ zmsg_wf) (mcl_one rfl rfl) (by exact HJ.res.there) ?_; intro W5 e5; obtain ⟨HA, HB5⟩ := And.intro (HJ.ret zmsg_wf (o' := nil0) (r' := nil0)).1 (HJ.ret zmsg_wf (o' := nil0) (r' := nil0)).2.1; rw [← e5] at HA HB5; clear e5))
            (try rw [Exit.noGoto_ret])
            (try simp only [Exit.inBlock, Exit.then])
            refine bodyPost_ret (results_msg_tmp rfl _ rfl HA zmsg_wf) rfl ?_
            rw [HEE.out]
            exact ⟨_, _, rfl, bytes_nil0 _, bytes_nil0 _, zmsg_wf, HB5⟩
end Go.Proofs.Ytdohenfbehpplaa
/- Streams of records there and back; messages there and back: plain words. -/
namespace Go.Proofs.Ytdohenfbehpplaa
set_option linter.unusedVariables false
set_option linter.unusedSimpArgs false

theorem numB_succ (n x : Nat) : numB (n + 1) x = numB n (x / 256) ++ [UInt8.ofNat x] := by
  unfold numB
  rw [List.range_succ, List.map_append]
  congr 1
  · apply List.map_congr_left
    intro i hi
    have hi' : i < n := by simpa using hi
    have e : x / 2 ^ (8 * (n + 1 - 1 - i)) = x / 256 / 2 ^ (8 * (n - 1 - i)) := by
      rw [show 8 * (n + 1 - 1 - i) = 8 + 8 * (n - 1 - i) by omega, Nat.pow_add, ← Nat.div_div_eq_div_mul]
    rw [e]
  · simp
theorem be_numB : ∀ (n x : Nat), x < 256 ^ n → be (numB n x) = x
  | 0, x, h => by
    have : x = 0 := by simpa using h
    subst this; rfl
  | n + 1, x, h => by
    rw [numB_succ, be_snoc, be_numB n (x / 256) (by rw [Nat.pow_succ] at h; omega)]
    have : (UInt8.ofNat x).toNat = x % 256 := by simp
    rw [this]; omega
theorem rdN_num (x : Nat) (hx : x < 18446744073709551616) (rest : List UInt8) : rdN (num x ++ rest) = some (x, size x) := by
  unfold num
  by_cases h1 : x < 253
  · rw [if_pos h1]
    have e : (UInt8.ofNat x).toNat = x := by simp; omega
    have e2 : size x = 1 := by unfold size; rw [if_pos h1]
    simp only [List.singleton_append, rdN]
    rw [e, if_pos h1, e2]
  · rw [if_neg h1]
    by_cases h2 : x ≤ 65535
    · rw [if_pos h2]
      have e : be ((numB 2 x ++ rest).take 2) = x := by
        rw [List.take_append_of_le_length (by rw [numB_length]; omega), List.take_of_length_le (by rw [numB_length]; omega), be_numB 2 x (by omega)]
      have e2 : size x = 3 := by unfold size; rw [if_neg h1, if_pos h2]
      show rdN (253 :: (numB 2 x ++ rest)) = _
      have hm : more 253 = 2 := by decide
      simp only [rdN]
      rw [if_neg (by decide), hm, if_neg (by simp [numB_length]), e, e2, if_neg (by omega)]
    · rw [if_neg h2]
      by_cases h3 : x ≤ 4294967295
      · rw [if_pos h3]
        have e : be ((numB 4 x ++ rest).take 4) = x := by
          rw [List.take_append_of_le_length (by rw [numB_length]; omega), List.take_of_length_le (by rw [numB_length]; omega), be_numB 4 x (by omega)]
        have e2 : size x = 5 := by unfold size; rw [if_neg h1, if_neg h2, if_pos h3]
        show rdN (254 :: (numB 4 x ++ rest)) = _
        have hm : more 254 = 4 := by decide
        simp only [rdN]
        rw [if_neg (by decide), hm, if_neg (by simp [numB_length]), e, e2, if_neg (by omega)]
      · rw [if_neg h3]
        have e : be ((numB 8 x ++ rest).take 8) = x := by
          rw [List.take_append_of_le_length (by rw [numB_length]; omega), List.take_of_length_le (by rw [numB_length]; omega), be_numB 8 x (by omega)]
        have e2 : size x = 9 := by unfold size; rw [if_neg h1, if_neg h2, if_neg h3]
        show rdN (255 :: (numB 8 x ++ rest)) = _
        have hm : more 255 = 8 := by decide
        simp only [rdN]
        rw [if_neg (by decide), hm, if_neg (by simp [numB_length]), e, e2, if_neg (by omega)]
/-- A number cut off. -/
theorem rdN_cut (x j : Nat) (hj : j < size x) : rdN ((num x).take j) = none := by
  unfold size at hj
  cases j with
  | zero => rfl
  | succ j =>
    unfold num
    by_cases h1 : x < 253
    · rw [if_pos h1] at hj; omega
    · rw [if_neg h1] at hj ⊢
      by_cases h2 : x ≤ 65535
      · rw [if_pos h2] at hj ⊢
        show rdN (253 :: (numB 2 x).take j) = _
        have hm : more 253 = 2 := by decide
        simp only [rdN]
        rw [if_neg (by decide), hm, if_pos (by simp [numB_length]; omega)]
      · rw [if_neg h2] at hj ⊢
        by_cases h3 : x ≤ 4294967295
        · rw [if_pos h3] at hj ⊢
          show rdN (254 :: (numB 4 x).take j) = _
          have hm : more 254 = 4 := by decide
          simp only [rdN]
          rw [if_neg (by decide), hm, if_pos (by simp [numB_length]; omega)]
        · rw [if_neg h3] at hj ⊢
          show rdN (255 :: (numB 8 x).take j) = _
          have hm : more 255 = 8 := by decide
          simp only [rdN]
          rw [if_neg (by decide), hm, if_pos (by simp [numB_length]; omega)]
theorem drop_num (x : Nat) (X : List UInt8) : (num x ++ X).drop (size x) = X := by rw [← num_length x]; exact List.drop_left
theorem num_ne (x : Nat) (l : List UInt8) : num x ++ l ≠ [] := by
  have h1 := num_length x
  have h2 := size_pos x
  intro h
  have h0 := congrArg List.length h
  rw [List.length_append, List.length_nil] at h0
  omega
/-- A record that may stand behind others. -/
structure RecOk (out : List Rec) (r : Rec) : Prop where
  few : out.length < 64
  rises : 0 < out.length → lastT out < r.1
  small : r.1 < 18446744073709551616
  len : r.2.length < 18446744073709551616
theorem decF_head (f : Nat) (out : List Rec) (r : Rec) (rest : List UInt8) (h : RecOk out r) : decF (f + 1) out (recBytes r ++ rest) = if r.1 % 2 = 0 then ([], 12) else decF f (out ++ [r]) rest := by
  obtain ⟨t, v⟩ := r
  have e1 : rdN (recBytes (t, v) ++ rest) = some (t, size t) := by
    unfold recBytes; rw [List.append_assoc, List.append_assoc]; exact rdN_num t h.small _
  have hd : ∀ n, (recBytes (t, v) ++ rest).drop (size t + n) = (num v.length ++ (v ++ rest)).drop n := by
    intro n
    have e : recBytes (t, v) ++ rest = num t ++ (num v.length ++ (v ++ rest)) := by simp [recBytes]
    rw [e, ← List.drop_drop, drop_num]
  have hd2 : ∀ n, (recBytes (t, v) ++ rest).drop (size t + size v.length + n) = (v ++ rest).drop n := by
    intro n
    rw [Nat.add_assoc, hd, ← List.drop_drop, drop_num]
  have e2 : rdN ((recBytes (t, v) ++ rest).drop (size t)) = some (v.length, size v.length) := by
    have := hd 0
    rw [Nat.add_zero, List.drop_zero] at this
    rw [this]; exact rdN_num _ h.len _
  have e3 : (recBytes (t, v) ++ rest).drop (size t + size v.length) = v ++ rest := by have := hd2 0; rwa [Nat.add_zero, List.drop_zero] at this
  have e4 : (recBytes (t, v) ++ rest).drop (size t + size v.length + v.length) = rest := by rw [hd2]; simp
  have hne : recBytes (t, v) ++ rest ≠ [] := by unfold recBytes; rw [List.append_assoc, List.append_assoc]; exact num_ne _ _
  have hf := h.few
  have hr := h.rises
  simp only at hr
  simp only [decF]
  rw [if_neg hne, if_neg (by omega), e1]
  simp only []
  rw [if_neg (by intro hh; have := hr hh.1; omega), e2]
  simp only []
  rw [e3, e4, if_neg (by simp)]
  simp
/-- Records that may be read one behind another. -/
def RecsOk : List Rec → List Rec → Prop
  | _, [] => True
  | out, r :: l => RecOk out r ∧ r.1 % 2 = 1 ∧ RecsOk (out ++ [r]) l
theorem recsBytes_cons (r : Rec) (l : List Rec) : recsBytes (r :: l) = recBytes r ++ recsBytes l := by simp [recsBytes]
theorem decF_recs : ∀ (l out : List Rec) (f : Nat) (rest : List UInt8), RecsOk out l → decF (f + l.length) out (recsBytes l ++ rest) = decF f (out ++ l) rest
  | [], out, f, rest, _ => by simp [recsBytes]
  | r :: l, out, f, rest, h => by
    obtain ⟨h1, h2, h3⟩ := h
    rw [recsBytes_cons, List.append_assoc, show f + (r :: l).length = (f + l.length) + 1 by simp; omega, decF_head _ _ _ _ h1, if_neg (by omega), decF_recs l _ f rest h3, List.append_assoc, List.singleton_append]
theorem recsSize_ge (l : List Rec) : l.length ≤ recsSize l := by
  induction l with
  | nil => simp [recsSize]
  | cons r l ih =>
    have : recsSize (r :: l) = recSize r + recsSize l := by simp [recsSize]
    rw [this, List.length_cons]
    have := size_pos r.1
    unfold recSize
    omega
theorem decS_recs (l : List Rec) (h : RecsOk [] l) (hs : recsSize l ≤ 65536) : decS (recsBytes l) = (l, 0) := by
  unfold decS
  have hl := recsBytes_length l
  rw [if_neg (by omega)]
  have hg := recsSize_ge l
  obtain ⟨d, hd⟩ : ∃ d, (recsBytes l).length + 1 = (d + 1) + l.length := ⟨recsSize l - l.length, by omega⟩
  have := decF_recs l [] (d + 1) [] h
  rw [List.append_nil, List.nil_append] at this
  rw [hd, this]
  simp [decF]
/-- Behind a stream a record of an even type. -/
theorem decS_even (l : List Rec) (r : Rec) (h : RecsOk [] l) (hr : RecOk l r) (h2 : r.1 % 2 = 0) (hs : recsSize l + recSize r ≤ 65536) : decS (recsBytes l ++ recBytes r) = ([], 12) := by
  unfold decS
  have hl := recsBytes_length l
  have hlr := recBytes_length r
  rw [if_neg (by simp; omega)]
  have hg := recsSize_ge l
  have hz := size_pos r.1
  obtain ⟨d, hd⟩ : ∃ d, (recsBytes l ++ recBytes r).length + 1 = (d + 1) + l.length := ⟨recsSize l + recSize r - l.length, by simp; omega⟩
  have := decF_recs l [] (d + 1) (recBytes r) h
  rw [List.nil_append] at this
  rw [hd, this]
  have e := decF_head d l r [] hr
  rw [List.append_nil] at e
  rw [e, if_pos h2]
/-- A record cut off. -/
theorem decF_cut (f : Nat) (out : List Rec) (r : Rec) (j : Nat) (h : RecOk out r) (h0 : 0 < j) (hj : j < recSize r) : decF (f + 1) out ((recBytes r).take j) = ([], 10) := by
  obtain ⟨t, v⟩ := r
  have hne : (recBytes (t, v)).take j ≠ [] := by
    intro hh
    have := congrArg List.length hh
    rw [List.length_take, recBytes_length] at this
    simp at this; omega
  have hf := h.few
  have hr := h.rises
  simp only at hr
  simp only [decF]
  rw [if_neg hne, if_neg (by omega)]
  have hb : recBytes (t, v) = num t ++ (num v.length ++ v) := by simp [recBytes]
  by_cases c1 : j < size t
  · have e : (recBytes (t, v)).take j = (num t).take j := by rw [hb, List.take_append_of_le_length (by rw [num_length]; omega)]
    rw [e, rdN_cut t j c1]
  · have e : (recBytes (t, v)).take j = num t ++ (num v.length ++ v).take (j - size t) := by
      rw [hb, List.take_append, List.take_of_length_le (by rw [num_length]; omega), num_length]
    have hs1 : recSize (t, v) = size t + size v.length + v.length := rfl
    rw [e, rdN_num t h.small]
    simp only []
    rw [if_neg (by intro hh; have := hr hh.1; omega)]
    have d1 := drop_num t
    rw [d1]
    by_cases c2 : j - size t < size v.length
    · have e2 : (num v.length ++ v).take (j - size t) = (num v.length).take (j - size t) := by rw [List.take_append_of_le_length (by rw [num_length]; omega)]
      rw [e2, rdN_cut _ _ c2]
    · have e2 : (num v.length ++ v).take (j - size t) = num v.length ++ v.take (j - size t - size v.length) := by
        rw [List.take_append, List.take_of_length_le (by rw [num_length]; omega), num_length]
      rw [e2, rdN_num _ h.len]
      simp only []
      have d2 : (num t ++ (num v.length ++ v.take (j - size t - size v.length))).drop (size t + size v.length) = v.take (j - size t - size v.length) := by
        rw [← List.drop_drop, d1, drop_num]
      rw [d2, if_pos (by rw [List.length_take]; omega)]
theorem decF_cuts : ∀ (l out : List Rec) (f j : Nat), RecsOk out l → j < recsSize l → l.length < f → (∃ i, i < l.length ∧ decF f out ((recsBytes l).take j) = (out ++ l.take i, 0)) ∨ decF f out ((recsBytes l).take j) = ([], 10)
  | [], out, f, j, _, hj, _ => by simp [recsSize] at hj
  | r :: l, out, f, j, h, hj, hf => by
    obtain ⟨h1, h2, h3⟩ := h
    obtain ⟨f, rfl⟩ : ∃ g, f = g + 1 := ⟨f - 1, by omega⟩
    have hss : recsSize (r :: l) = recSize r + recsSize l := by simp [recsSize]
    rcases Nat.eq_zero_or_pos j with rfl | h0
    · left
      exact ⟨0, by simp, by simp [decF]⟩
    · by_cases c : j < recSize r
      · right
        have e : (recsBytes (r :: l)).take j = (recBytes r).take j := by rw [recsBytes_cons, List.take_append_of_le_length (by rw [recBytes_length]; omega)]
        rw [e]
        exact decF_cut f out r j h1 h0 c
      · have e : (recsBytes (r :: l)).take j = recBytes r ++ (recsBytes l).take (j - recSize r) := by
          rw [recsBytes_cons, List.take_append, List.take_of_length_le (by rw [recBytes_length]; omega), recBytes_length]
        rw [e, decF_head _ _ _ _ h1, if_neg (by omega)]
        rcases decF_cuts l (out ++ [r]) f (j - recSize r) h3 (by omega) (by simp at hf; omega) with ⟨i, hi, hh⟩ | hh
        · left
          exact ⟨i + 1, by simp; omega, by rw [hh, List.append_assoc]; simp⟩
        · right; exact hh
theorem decS_cuts (l : List Rec) (j : Nat) (h : RecsOk [] l) (hs : recsSize l ≤ 65536) (hj : j < recsSize l) : (∃ i, i < l.length ∧ decS ((recsBytes l).take j) = (l.take i, 0)) ∨ decS ((recsBytes l).take j) = ([], 10) := by
  unfold decS
  have hl := recsBytes_length l
  rw [if_neg (by rw [List.length_take]; omega)]
  rw [List.length_take, Nat.min_eq_left (by omega)]
  -- the fuel is enough: as many bytes as records that are read
  have key : ∀ (l out : List Rec) (f j : Nat), RecsOk out l → j < recsSize l → j < f → (∃ i, i < l.length ∧ decF f out ((recsBytes l).take j) = (out ++ l.take i, 0)) ∨ decF f out ((recsBytes l).take j) = ([], 10) := by
    intro l
    induction l with
    | nil => intro out f j _ hj; simp [recsSize] at hj
    | cons r l ih =>
      intro out f j h hj hf
      obtain ⟨h1, h2, h3⟩ := h
      obtain ⟨f, rfl⟩ : ∃ g, f = g + 1 := ⟨f - 1, by omega⟩
      have hss : recsSize (r :: l) = recSize r + recsSize l := by simp [recsSize]
      rcases Nat.eq_zero_or_pos j with rfl | h0
      · left
        exact ⟨0, by simp, by simp [decF]⟩
      · by_cases c : j < recSize r
        · right
          have e : (recsBytes (r :: l)).take j = (recBytes r).take j := by rw [recsBytes_cons, List.take_append_of_le_length (by rw [recBytes_length]; omega)]
          rw [e]
          exact decF_cut f out r j h1 h0 c
        · have e : (recsBytes (r :: l)).take j = recBytes r ++ (recsBytes l).take (j - recSize r) := by
            rw [recsBytes_cons, List.take_append, List.take_of_length_le (by rw [recBytes_length]; omega), recBytes_length]
          have hz := size_pos r.1
          have hz2 : 1 ≤ recSize r := by unfold recSize; omega
          rw [e, decF_head _ _ _ _ h1, if_neg (by omega)]
          rcases ih (out ++ [r]) f (j - recSize r) h3 (by omega) (by omega) with ⟨i, hi, hh⟩ | hh
          · left
            exact ⟨i + 1, by simp; omega, by rw [hh, List.append_assoc]; simp⟩
          · right; exact hh
  have := key l [] (j + 1) j h hj (by omega)
  simpa using this
end Go.Proofs.Ytdohenfbehpplaa
/- Messages there and back: plain words. -/
namespace Go.Proofs.Ytdohenfbehpplaa
set_option linter.unusedVariables false
set_option linter.unusedSimpArgs false

theorem beF_ge (l : List UInt8) : ∀ x, x * 256 ^ l.length ≤ beF x l := by
  induction l with
  | nil => intro x; simp [beF]
  | cons b l ih =>
    intro x
    have h := ih (x * 256 + b.toNat)
    have e : beF x (b :: l) = beF (x * 256 + b.toNat) l := rfl
    rw [e, List.length_cons, Nat.pow_succ]
    calc x * (256 ^ l.length * 256) = (x * 256) * 256 ^ l.length := by rw [Nat.mul_comm (256 ^ l.length), Nat.mul_assoc]
      _ ≤ (x * 256 + b.toNat) * 256 ^ l.length := Nat.mul_le_mul_right _ (by omega)
      _ ≤ _ := h
theorem be_nbF (n : Nat) : be (nbF n) = n := by
  induction n using Nat.strongRecOn with
  | ind n ih =>
    rcases Nat.eq_zero_or_pos n with rfl | h
    · rw [nbF_zero]; rfl
    · rw [nbF_pos h, be_snoc, ih (n / 256) (by omega)]
      have : (UInt8.ofNat n).toNat = n % 256 := by simp
      rw [this]; omega
theorem nbF_head (n : Nat) : ∀ b r, nbF n = b :: r → b ≠ 0 := by
  induction n using Nat.strongRecOn with
  | ind n ih =>
    intro b r h
    rcases Nat.eq_zero_or_pos n with rfl | h0
    · rw [nbF_zero] at h; cases h
    · rw [nbF_pos h0] at h
      cases hc : nbF (n / 256) with
      | nil =>
        rw [hc] at h
        simp only [List.nil_append, List.cons.injEq] at h
        have h1 := be_nbF (n / 256)
        rw [hc] at h1
        have h2 : n / 256 = 0 := h1.symm
        rw [← h.1]
        intro e
        have := congrArg UInt8.toNat e
        simp at this
        omega
      | cons c l =>
        rw [hc] at h
        simp only [List.cons_append, List.cons.injEq] at h
        rw [← h.1]
        exact ih (n / 256) (by omega) c l hc
theorem rdI_nbF (n : Nat) (hn : n < 9223372036854775808) : rdI (nbF n) = (n : Int) := by
  have hl := nbF_length 8 n (by omega)
  have hb := be_nbF n
  have : badN (nbF n) = false := by
    cases hc : nbF n with
    | nil => rfl
    | cons b r =>
      have h0 := nbF_head n b r hc
      rw [hc] at hl hb
      simp only [badN, Bool.or_eq_false_iff, decide_eq_false_iff_not, beq_eq_false_iff_ne, Bool.and_eq_false_iff]
      refine ⟨by omega, h0, ?_⟩
      by_cases h8 : (b :: r).length = 8
      · right
        have e : be (b :: r) = beF b.toNat r := by simp [be, beF]
        rw [e] at hb
        have := beF_ge r b.toNat
        simp only [List.length_cons] at h8
        rw [show r.length = 7 by omega] at this
        omega
      · left; exact h8
  rw [rdI_good this, hb]
/-- A field's bytes read again. -/
theorem with_val {mk m : Msg} {t : Nat} (hm : m.Wf) (ht : isType t) (hr : ∀ k, offN t = some k → 0 ≤ numV m t) : withS mk t (valS m t) = (cp mk m t, true) := by
  rcases type_cases ht with ⟨k, h1, h2, h3⟩ | ⟨k, h1, h2, h3⟩ | ⟨k, h1, h2, h3⟩
  · have h0 := hr k h1
    have hi := num_i64 hm t
    unfold isI64 at hi
    rw [num_with h1, num_val h1, num_cp h1, rdI_nbF _ (by omega)]
    have e : (((numV m t).toNat : Nat) : Int) = numV m t := by omega
    rw [e]
    simp [h0]
  · rw [hash_with h2, hash_val h2, hash_cp h2]
    have := hash_len hm t
    unfold hashS
    rw [if_pos this]
  · rw [text_with h3, text_val h3, text_cp h3]
theorem fillS_all {R : List Rec} {m : Msg} (hA : Asc R) : ∀ (ts : List Nat) (mk : Msg), (∀ t ∈ ts, findS t R = some (valS m t) ∧ ∀ mk, withS mk t (valS m t) = (cp mk m t, true)) → fillS R ts mk = some (ts.foldl (fun a t => cp a m t) mk)
  | [], mk, _ => rfl
  | t :: ts, mk, h => by
    obtain ⟨h1, h2⟩ := h t (by simp)
    have e : innerS t R (mk, false) = (cp mk m t, true) := by rw [innerS_find R _ hA, h1]; exact h2 mk
    show (if (innerS t R (mk, false)).2 then fillS R ts (innerS t R (mk, false)).1 else none) = _
    rw [e]
    simp only [if_true]
    rw [fillS_all hA ts _ (fun t' ht' => h t' (by simp [ht']))]
    rfl
theorem fillS_lacks {R : List Rec} (hA : Asc R) : ∀ (ts : List Nat) (mk : Msg), (∃ t ∈ ts, findS t R = none) → fillS R ts mk = none
  | [], _, h => by obtain ⟨t, h, _⟩ := h; cases h
  | t :: ts, mk, h => by
    show (if (innerS t R (mk, false)).2 then fillS R ts (innerS t R (mk, false)).1 else none) = _
    by_cases c : findS t R = none
    · rw [innerS_find R _ hA, c]; rfl
    · obtain ⟨t', h1, h2⟩ := h
      rcases List.mem_cons.1 h1 with rfl | h1
      · exact absurd h2 c
      · split
        · exact fillS_lacks hA ts _ ⟨t', h1, h2⟩
        · rfl
theorem fields_asc (k : Int) : (fieldsOf k).Pairwise (· < ·) := by
  rcases fields_dec k with ⟨i, rfl, h1, h2⟩ | ⟨_, h0⟩
  · obtain rfl | rfl | rfl | rfl | rfl | rfl : i = 1 ∨ i = 2 ∨ i = 3 ∨ i = 4 ∨ i = 5 ∨ i = 6 := by omega
    all_goals decide
  · rw [h0]; simp
theorem recsOf_asc (m : Msg) : Asc (recsOf m) := by
  unfold Asc recsOf
  rw [List.pairwise_map]
  exact fields_asc _
theorem asc_more {l e : List Rec} (hl : Asc l) (he : Asc e) (h : ∀ a ∈ l, ∀ b ∈ e, a.1 < b.1) : Asc (l ++ e) := by
  unfold Asc at *
  rw [List.pairwise_append]
  exact ⟨hl, he, h⟩
theorem recsOk_of : ∀ (l out : List Rec), out.length + l.length ≤ 64 → Asc l → (0 < out.length → ∀ r ∈ l, lastT out < r.1) → (∀ r ∈ l, r.1 < 18446744073709551616 ∧ r.2.length < 18446744073709551616 ∧ r.1 % 2 = 1) → RecsOk out l
  | [], _, _, _, _, _ => trivial
  | r :: l, out, hn, ha, hl, hs => by
    obtain ⟨s1, s2, s3⟩ := hs r (by simp)
    unfold Asc at ha
    rw [List.pairwise_cons] at ha
    simp only [List.length_cons] at hn
    refine ⟨⟨by omega, fun h => hl h r (by simp), s1, s2⟩, s3, recsOk_of l (out ++ [r]) (by simp; omega) ha.2 (fun _ r' hr' => ?_) (fun r' hr' => hs r' (by simp [hr']))⟩
    rw [lastT_app]
    exact ha.1 r' hr'
theorem findS_map (f : Nat → List UInt8) (e : List Rec) (t : Nat) : ∀ l : List Nat, t ∈ l → findS t (l.map (fun t => (t, f t)) ++ e) = some (f t)
  | [], h => by cases h
  | a :: l, h => by
    rw [List.map_cons, List.cons_append, findS_cons]
    by_cases c : a = t
    · rw [if_pos c]; simp [c]
    · rw [if_neg c]
      rcases List.mem_cons.1 h with h | h
      · exact absurd h.symm c
      · exact findS_map f e t l h
theorem findS_none_of {t : Nat} : ∀ {l : List Rec}, (∀ r ∈ l, r.1 ≠ t) → findS t l = none
  | [], _ => findS_nil t
  | r :: l, h => by
    rw [findS_cons, if_neg (h r (by simp))]
    exact findS_none_of (fun r' h' => h r' (by simp [h']))
theorem kindOf_B {k : Int} {X : List UInt8} (h0 : 0 ≤ k) (h1 : k < 65536) : kindOf (kindB k ++ X) = k := by
  unfold kindOf kindB
  simp
  omega
theorem may_num {m : Msg} (h : mayS m = true) (t : Nat) : 0 ≤ numV m t := by
  obtain ⟨_, _, hr, _⟩ := may_parts h
  unfold inRange at hr
  unfold numV
  split; omega
  split; omega
  split; omega
  split; omega
  split; omega
  omega
theorem may_bare {m : Msg} (h : mayS m = true) : bareS m = m := ((sameB_iff _ _).1 (may_parts h).2.1).symm
/-- What may stand behind a message's own records. -/
structure More (e : List Rec) : Prop where
  few : e.length ≤ 10
  asc : Asc e
  big : ∀ r ∈ e, 23 < r.1 ∧ r.1 < 18446744073709551616
  len : ∀ r ∈ e, r.2.length ≤ 1000
theorem recsOf_ok {m : Msg} (hm : m.Wf) (h : mayS m = true) {e : List Rec} (he : More e) (hodd : ∀ r ∈ e, r.1 % 2 = 1) : RecsOk [] (recsOf m ++ e) := by
  have hl : (recsOf m).length ≤ 6 := by rw [recsOf_length]; exact fields_length _
  have hf := he.few
  have mem : ∀ r ∈ recsOf m, r.1 ≤ 23 ∧ r.1 % 2 = 1 ∧ r.2.length ≤ 2112 := by
    intro r hr
    simp only [recsOf, List.mem_map] at hr
    obtain ⟨t, ht, rfl⟩ := hr
    have ht' := field_type ht
    unfold isType at ht'
    have := val_len hm h ht
    simp only; omega
  refine recsOk_of _ [] (by simp; omega) (asc_more (recsOf_asc m) he.asc fun a ha b hb => ?_) (fun h => by simp at h) fun r hr => ?_
  · have := (mem a ha).1; have := (he.big b hb).1; omega
  · rw [List.mem_append] at hr
    rcases hr with hr | hr
    · have := mem r hr; omega
    · have := he.big r hr; have := he.len r hr; have := hodd r hr; omega
theorem recsSize_app (l e : List Rec) : recsSize (l ++ e) = recsSize l + recsSize e := by simp [recsSize]
theorem recsOf_size {m : Msg} (hm : m.Wf) (h : mayS m = true) : recsSize (recsOf m) ≤ 12780 := by
  have hB : ∀ r ∈ recsOf m, r.2.length ≤ 2112 := by
    intro r hr
    simp only [recsOf, List.mem_map] at hr
    obtain ⟨t, ht, rfl⟩ := hr
    exact val_len hm h ht
  have hl : (recsOf m).length ≤ 6 := by rw [recsOf_length]; exact fields_length _
  have hs := recsSize_take_le (recsOf m) 2112 hB (recsOf m).length
  rw [List.take_length] at hs
  exact Nat.le_trans hs (Nat.le_trans (Nat.mul_le_mul_right _ hl) (by decide))
theorem more_size {e : List Rec} (he : More e) : recsSize e ≤ 10180 := by
  have hs := recsSize_take_le e 1000 he.len e.length
  rw [List.take_length] at hs
  exact Nat.le_trans hs (Nat.le_trans (Nat.mul_le_mul_right _ he.few) (by decide))
theorem asc_take {l : List Rec} (h : Asc l) (i : Nat) : Asc (l.take i) := List.Pairwise.sublist (List.take_sublist _ _) h
theorem encS_recs {m : Msg} (hm : m.Wf) (h : mayS m = true) : (encS (recsOf m)).1 = recsBytes (recsOf m) := by
  have h0 := recs_ok hm h
  unfold encS at *
  split at h0
  · simp at h0
  · split at h0
    · simp at h0
    · rename_i h1 h2; rw [if_neg h1, if_neg h2]
theorem encM_bytes {m : Msg} (hm : m.Wf) (h : mayS m = true) : encM m = (kindB m.kind ++ recsBytes (recsOf m), 0) := by
  unfold encM; rw [if_pos h, encS_recs hm h]
/-- A message's bytes, odd records behind them, are the message. -/
theorem decM_odd {m : Msg} (hm : m.Wf) (h : mayS m = true) {e : List Rec} (he : More e) (hodd : ∀ r ∈ e, r.1 % 2 = 1) : decM (kindB m.kind ++ recsBytes (recsOf m ++ e)) = (m, 0) := by
  obtain ⟨i, hi, h1, h2⟩ := may_kind h
  have hds : decS (recsBytes (recsOf m ++ e)) = (recsOf m ++ e, 0) := decS_recs _ (recsOf_ok hm h he hodd) (by rw [recsSize_app]; have := recsOf_size hm h; have := more_size he; omega)
  have hd : (kindB m.kind ++ recsBytes (recsOf m ++ e)).drop 2 = recsBytes (recsOf m ++ e) := by simp [kindB]
  unfold decM
  rw [if_neg (by simp [kindB]), hd, hds, kindOf_B (by omega) (by omega), if_neg (by rintro (q | q); exact q rfl; exact (may_parts h).1 q)]
  have hA : Asc (recsOf m ++ e) := asc_more (recsOf_asc m) he.asc fun a ha b hb => by
    simp only [recsOf, List.mem_map] at ha
    obtain ⟨t, ht, rfl⟩ := ha
    have ht' := field_type ht
    unfold isType at ht'
    have := (he.big b hb).1
    simp only; omega
  have hfill : fillS (recsOf m ++ e) (fieldsOf m.kind) (kmsg m.kind) = some m := by
    rw [fillS_all (m := m) hA _ _ fun t ht => ⟨findS_map (valS m) e t _ ht, fun mk => with_val hm (field_type ht) (fun k _ => may_num h t)⟩]
    show some (bareS m) = _
    rw [may_bare h]
  rw [hfill]
  show (if mayS m then (m, 0) else (zmsg, 10)) = _
  rw [if_pos h]
theorem more_nil : More [] := ⟨by simp, by simp [Asc], by simp, by simp⟩
theorem dec_enc {m : Msg} (hm : m.Wf) (h : mayS m = true) : decM (encM m).1 = (m, 0) := by
  rw [encM_bytes hm h]
  have := decM_odd hm h more_nil (by simp)
  rwa [List.append_nil] at this
theorem decM_even {m : Msg} (hm : m.Wf) (h : mayS m = true) {r : Rec} (h1 : 23 < r.1) (h2 : r.1 < 18446744073709551616) (h3 : r.1 % 2 = 0) (h4 : r.2.length ≤ 1000) : decM (kindB m.kind ++ (recsBytes (recsOf m) ++ recBytes r)) = (zmsg, 10) := by
  have hl : (recsOf m).length ≤ 6 := by rw [recsOf_length]; exact fields_length _
  have hr : RecOk (recsOf m) r := ⟨by omega, fun h0 => by
    have hlt : (recsOf m).length - 1 < (recsOf m).length := by omega
    have e : lastT (recsOf m) = ((recsOf m)[(recsOf m).length - 1]).1 := by simp [lastT, List.getD_eq_getElem?_getD, hlt]
    have hmem := List.getElem_mem hlt
    rw [e]
    generalize (recsOf m)[(recsOf m).length - 1] = x at hmem
    simp only [recsOf, List.mem_map] at hmem
    obtain ⟨t, ht, rfl⟩ := hmem
    have ht' := field_type ht
    unfold isType at ht'
    simp only; omega, h2, by omega⟩
  have hok : RecsOk [] (recsOf m) := by have := recsOf_ok hm h more_nil (by simp); rwa [List.append_nil] at this
  have hsz := recsOf_size hm h
  have hrs : recSize r ≤ 1018 := by have := size_le r.1; have := size_le r.2.length; unfold recSize; omega
  have hds := decS_even (recsOf m) r hok hr h3 (by omega)
  have hd : (kindB m.kind ++ (recsBytes (recsOf m) ++ recBytes r)).drop 2 = recsBytes (recsOf m) ++ recBytes r := by simp [kindB]
  unfold decM
  rw [if_neg (by simp [kindB]), hd, hds, if_pos (.inl (by simp))]
/-- A message without its end is none. -/
theorem decM_cut {m : Msg} (hm : m.Wf) (h : mayS m = true) (j : Nat) (hj : j < (encM m).1.length) : decM ((encM m).1.take j) = (zmsg, 10) := by
  rw [encM_bytes hm h] at hj ⊢
  simp only at hj ⊢
  obtain ⟨i, hi, h1, h2⟩ := may_kind h
  by_cases c : j < 2
  · unfold decM
    rw [if_pos (by rw [List.length_take]; omega)]
  · have e : (kindB m.kind ++ recsBytes (recsOf m)).take j = kindB m.kind ++ (recsBytes (recsOf m)).take (j - 2) := by
      rw [List.take_append, List.take_of_length_le (by simp [kindB]; omega)]; rfl
    have hk2 : (kindB m.kind).length = 2 := rfl
    rw [e]
    rw [List.length_append, hk2, recsBytes_length] at hj
    have hok : RecsOk [] (recsOf m) := by have := recsOf_ok hm h more_nil (by simp); rwa [List.append_nil] at this
    have hd : (kindB m.kind ++ (recsBytes (recsOf m)).take (j - 2)).drop 2 = (recsBytes (recsOf m)).take (j - 2) := by simp [kindB]
    unfold decM
    rw [if_neg (by simp [kindB]), hd, kindOf_B (by omega) (by omega)]
    rcases decS_cuts (recsOf m) (j - 2) hok (by have := recsOf_size hm h; omega) (by omega) with ⟨i', hi', hh⟩ | hh
    · rw [hh, if_neg (by rintro (q | q); exact q rfl; exact (may_parts h).1 q)]
      rw [fillS_lacks (asc_take (recsOf_asc m) i')]
      · rfl
      · rw [recsOf_length] at hi'
        refine ⟨(fieldsOf m.kind)[i'], List.getElem_mem _, findS_none_of fun r hr => ?_⟩
        have hrr : r ∈ (recsOf m).take i' := hr
        unfold recsOf at hrr
        rw [← List.map_take, List.mem_map] at hrr
        obtain ⟨t, ht, rfl⟩ := hrr
        obtain ⟨k, hk, rfl⟩ := List.getElem_of_mem ht
        rw [List.getElem_take]
        rw [List.length_take] at hk
        have := List.pairwise_iff_getElem.1 (fields_asc m.kind) k i' (by omega) hi' (by omega)
        simp only
        omega
    · rw [hh, if_pos (.inl (by simp))]
end Go.Proofs.Ytdohenfbehpplaa
/- tollhouselaw06.lives: it is true. -/
namespace Go.Proofs.Ytdohenfbehpplaa
set_option linter.unusedVariables false
set_option linter.unusedSimpArgs false
open Go.RowKit
attribute [local irreducible] Go.wpList
attribute [local go_sem ↓] ldm stm bdm

section
variable {P : Program} {ops : Array Oper} {rest : List Oper} {a : Act} {Q : Exit → Act → World → Prop} {W : World} {rt : TypeId} {pos : String} {after : Array Edge} {g : Option (Nat × Bool)}
/-- A literal, whatever its parts: by its run. -/
theorem wl_lit (d : Tmp) (ty : TypeId) (parts : Array (Nat × Operand)) (v : Value)
    (hr : ∀ W, (Instr.build ty (parts.map fun (i, x) => (i, a.eval x))).run P W = .ok v W) (h : wpList P ops Q rest (a.put (some d) v) W) :
    wpList P ops Q ({ dst := some d, op := .build ty parts, type := rt, pos := pos, after := after, guard := none } :: rest) a W := by
  refine wpList_plain rfl fun K hK => ?_
  unfold Oper.wp execOp
  simp only [Sem.run_bind, hr W, Result.andThen_ok, Sem.run_pure]
  exact hK _ _ h
end
section
variable {ops : Array Oper} {rest : List Oper} {a : Act} {Q : Exit → Act → World → Prop} {W : World} {rt rt2 : TypeId} {pos pos2 : String} {after after2 : Array Edge}
/-- 'x := f(..)' of a message whose address is taken: a block of its own. -/
theorem wl_newmsg (d : Tmp) (x : Operand) (m : Msg) (o r : Value) (hm : m.Wf) (ho : o.oneCell' = true) (hr : r.oneCell' = true)
    (hd : (a.put (some d) (.pointer (some ⟨W.heap.size, 0, none⟩))).eval (.tmp d) = .pointer (some ⟨W.heap.size, 0, none⟩)) (hx : (a.put (some d) (.pointer (some ⟨W.heap.size, 0, none⟩))).eval x = .agg (mc m o r))
    (h : ∀ W', MsgIn W' W.heap.size m o r → Below W.heap.size W W' → W'.heap.size = W.heap.size + 1 → wpList Try.prog ops Q rest ((a.put (some d) (.pointer (some ⟨W.heap.size, 0, none⟩))).put none undef) W') :
    wpList Try.prog ops Q ({ dst := some d, op := .alloc 25, type := rt, pos := pos, after := after, guard := none } :: { dst := none, op := .store 25 (.tmp d) x, type := rt2, pos := pos2, after := after2, guard := none } :: rest) a W := by
  refine wl_alloc d _ _ zero_msg ?_
  intro W1 e1
  subst e1
  have hM := msgIn_new (o := nil0) (r := nil0) W zmsg_wf
  refine wl_puts 25 _ _ W.heap.size 0 (mcl m o r) hd hx (size_mc _ _ _ hm) (mcl_one ho hr) (by rw [mcl_length hm]; exact hM.there) ?_
  intro W2 e2
  subst e2
  have hT := tch_setCells W.heap.size (mcl m o r) 0 (W.alloc (.cells (mc zmsg nil0 nil0) 25))
  exact h _ (hM.all zmsg_wf hm) (hT.below ((Below.refl _ _).alloc (Nat.le_refl _) _) (Nat.le_refl _)) (by rw [hT.size]; simp)
end
def lm : Msg := { zmsg with kind := 2, channel := 1, secret := 9 :: List.replicate 31 0 }
theorem lm_wf : lm.Wf := by
  constructor <;> first | rfl | (constructor <;> decide) | decide
theorem lm_may : mayS lm = true := by decide +kernel
theorem zmsg_may : mayS zmsg = false := by decide +kernel
theorem nbF_0 : nbF 0 = [] := nbF_zero
theorem nbF_1 : nbF 1 = [1] := by rw [nbF_pos (by omega), show 1 / 256 = 0 from rfl, nbF_zero]; rfl
theorem lm_bytes : (encM lm).1 = [0, 2, 1, 1, 1, 3, 0, 13, 32, 9] ++ List.replicate 31 0 := by
  rw [encM_bytes lm_wf lm_may]
  have e : recsOf lm = [(1, [1]), (3, []), (13, 9 :: List.replicate 31 0)] := by
    show [(1, nbF 1), (3, nbF 0), (13, 9 :: List.replicate 31 0)] = _
    rw [nbF_1, nbF_0]
  rw [e]
  decide +kernel
theorem lm_zero : (encM lm).2 = 0 := by rw [encM_bytes lm_wf lm_may]
theorem zmsg_enc : encM zmsg = ([], 1) := by unfold encM; rw [if_neg (by rw [zmsg_may]; simp)]
theorem lm_same : sameB lm lm = true := (sameB_iff _ _).2 rfl
theorem build_lm (W : World) : (BdAny 25 #[(0, .int .i64 2), (1, .int .i64 1), (7, .agg #[Value.int IntKind.u8 9, Value.int IntKind.u8 0, Value.int IntKind.u8 0, Value.int IntKind.u8 0, Value.int IntKind.u8 0, Value.int IntKind.u8 0, Value.int IntKind.u8 0, Value.int IntKind.u8 0, Value.int IntKind.u8 0, Value.int IntKind.u8 0, Value.int IntKind.u8 0, Value.int IntKind.u8 0, Value.int IntKind.u8 0, Value.int IntKind.u8 0, Value.int IntKind.u8 0, Value.int IntKind.u8 0, Value.int IntKind.u8 0, Value.int IntKind.u8 0, Value.int IntKind.u8 0, Value.int IntKind.u8 0, Value.int IntKind.u8 0, Value.int IntKind.u8 0, Value.int IntKind.u8 0, Value.int IntKind.u8 0, Value.int IntKind.u8 0, Value.int IntKind.u8 0, Value.int IntKind.u8 0, Value.int IntKind.u8 0, Value.int IntKind.u8 0, Value.int IntKind.u8 0, Value.int IntKind.u8 0, Value.int IntKind.u8 0])]).run Try.prog W = .ok (.agg (mc lm nil0 nil0)) W := by kernel_rfl
attribute [local go_sem] build_lm
set_option maxRecDepth 20000 in
set_option maxHeartbeats 1600000 in
theorem lives_ok (w : World) : Calls Try.prog 11 #[] w fun e w' => e = .returned (.bool true) ∧ Below w.heap.size w w' := by
  go_enter Try.func11, Try.ntmps11
  go_wp2_with (first | ((with_reducible refine dst_is 1 ?_); refine wl_newmsg 1 _ lm nil0 nil0 lm_wf rfl rfl rfl rfl ?_; intro W1 HM1 HB1 z1) | ((with_reducible refine dst_is 11 ?_); refine wl_load 11 25 _ w.heap.size 0 (mcl lm nil0 nil0) _ rfl rfl Try.underlying25 rfl (size_mc _ _ _ lm_wf) HM1.range ?_))
  refine (encM_ok lm nil0 nil0 W1 lm_wf (bytes_nil0 _) (bytes_nil0 _)).mono ?_
  rw [lm_zero]
  rintro e W2 ⟨v2, rfl, ho2, hb2⟩
  obtain ⟨A2, c2, rfl, _, _⟩ := own_form ho2
  have HM2 := HM1.below hb2
  have HB2 := below_of HB1 hb2 (by omega)
  have z2 : w.heap.size < W2.heap.size := by have := hb2.size; omega
  have HO2 := Lib.hid ho2
  clear HM1 HB1 z1 hb2 ho2
  go_wp2_with fail
  refine (decM_ok (encM lm).1 _ W2 (own_bytes HO2.out)).mono ?_
  rw [dec_enc lm_wf lm_may]
  rintro e W3 ⟨o3, r3, rfl, ho3, hr3, _, hb3⟩
  have HM3 := HM2.below hb3
  have HB3 := below_of HB2 hb3 (by omega)
  have z3 : w.heap.size < W3.heap.size := by have := hb3.size; omega
  have HO3 := Lib.hid (own_below HO2.out hb3)
  have HX := Lib.hid ho3
  have HY := Lib.hid hr3
  have HX1 := Lib.hid ho3.one
  have HY1 := Lib.hid hr3.one
  clear HM2 HB2 z2 hb3 ho3 hr3 HO2
  go_wp2_with (first | ((with_reducible refine dst_is 4 ?_); refine wl_newmsg 4 _ lm o3 r3 lm_wf HX1.out HY1.out rfl rfl ?_; intro W4 HN4 hb4 z4) | ((with_reducible refine dst_is 21 ?_); refine wl_zero 21 _ _ rfl build_none ?_))
  refine (encM_ok zmsg nil0 nil0 W4 zmsg_wf (bytes_nil0 _) (bytes_nil0 _)).mono ?_
  rw [zmsg_enc]
  rintro e W5 ⟨v5, rfl, _, hb5⟩
  have HM5 := (HM3.below hb4).below hb5
  have HN5 := HN4.below hb5
  have HB5 := below_of (below_of HB3 hb4 (by omega)) hb5 (by omega)
  have HO5 := own_below (own_below HO3.out hb4) hb5
  have HX5 := Lib.hid ((HX.out.below hb4).below hb5)
  have HY5 := Lib.hid ((HY.out.below hb4).below hb5)
  have z5 : w.heap.size < W5.heap.size := by have := hb5.size; omega
  clear HM3 HB3 hb4 hb5 HN4 HX HY z4 HO3
  have hlen : (encM lm).1.length = 41 := by rw [lm_bytes]; rfl
  obtain ⟨g, rfl, hc⟩ : ∃ g, A2 = some ⟨g, 0, none⟩ ∧ W5.cell? ⟨g, 1, none⟩ = some (.int .u8 2) := by
    obtain ⟨g, rfl, _, hc⟩ := own_at HO5 1 (by omega)
    refine ⟨g, rfl, ?_⟩
    rw [hc]
    have : ((encM lm).1)[1]'(by omega) = 2 := by simp [lm_bytes]
    rw [this]; rfl
  have hl41 : (((encM lm).1.length : Nat) : Int) = 41 := by rw [hlen]; rfl
  rw [hlen]
  have HOB := Lib.hid HB5
  clear HO5 hlen hl41
  go_wp2_with (first | ((with_reducible refine dst_is 36 ?_); refine wl_load 36 25 _ W3.heap.size 0 (mcl lm o3 r3) _ rfl rfl Try.underlying25 rfl (size_mc _ _ _ lm_wf) HN5.range ?_) | ((with_reducible refine dst_is 37 ?_); refine wl_load 37 25 _ w.heap.size 0 (mcl lm nil0 nil0) _ rfl rfl Try.underlying25 rfl (size_mc _ _ _ lm_wf) HM5.range ?_))
  refine (same_ok lm lm o3 r3 nil0 nil0 W5 lm_wf lm_wf HX5.out HY5.out (bytes_nil0 _) (bytes_nil0 _)).mono ?_
  rw [lm_same]
  rintro e W6 ⟨rfl, hb6⟩
  have HM6 := HM5.below hb6
  have hc6 := cell_below hb6 hc
  have HB6 := below_of HB5 hb6 (by omega)
  clear HM5 HN5 HB5 HOB
  go_wp2_with (first | ((with_reducible refine dst_is 52 ?_); refine wl_load 52 25 _ w.heap.size 0 (mcl lm nil0 nil0) _ rfl rfl Try.underlying25 rfl (size_mc _ _ _ lm_wf) HM6.range ?_))
  refine (may_ok lm nil0 nil0 W6 lm_wf (bytes_nil0 _) (bytes_nil0 _)).mono ?_
  rw [lm_may]
  rintro e W7 ⟨rfl, hb7⟩
  have HB7 := below_of HB6 hb7 (by have := hb6.size; omega)
  clear hc6 HM6
  go_wp2_with fail
  go_ret
  exact ⟨rfl, HB7⟩
end Go.Proofs.Ytdohenfbehpplaa
