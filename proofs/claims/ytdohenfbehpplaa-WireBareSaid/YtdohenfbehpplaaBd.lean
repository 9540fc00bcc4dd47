/- Lemmas for this seat's claims, joined by a program of mine out of: OpenMsg, Laws6a, Laws6c, Laws6e. -/
import Derived.Test.YtdohenfbehpplaaBc
import Derived.Deep.DeepCutAuto
/- A message among the arguments. -/
namespace Go.Proofs.Ytdohenfbehpplaa
set_option linter.unusedVariables false
set_option linter.unusedSimpArgs false
open Go.RowKit
theorem cells_msg : Try.prog.cellsOf 25 = 137 := by kernel_rfl
theorem cells_arr32 : Try.prog.cellsOf 23 = 32 := by kernel_rfl
theorem cells_u8 : Try.prog.cellsOf 5 = 1 := by kernel_rfl
theorem cells_sl8 : Try.prog.cellsOf 22 = 1 := by kernel_rfl
theorem cells_int : Try.prog.cellsOf 3 = 1 := by kernel_rfl
theorem bytesOf_u8 : Try.prog.bytesOf 5 = 1 := by kernel_rfl
def msgFields : List (TypeId × Nat) := [(3, 0), (3, 1), (3, 2), (3, 3), (3, 4), (23, 5), (22, 37), (23, 38), (23, 70), (23, 102), (3, 134), (3, 135), (22, 136)]
theorem msg_under : ∃ fs : Array Field, Try.prog.underlying 25 = some (.struct fs) ∧ fs.toList.map (fun f => (f.type, f.offset)) = msgFields := ⟨_, Try.underlying25, by kernel_rfl⟩
theorem open_msg {H : Type} {enc : TypeId × Value → H} {w : World} {cs : List Value} (h : Good enc Try.prog w 25 cs) :
    ∃ (m : Msg) (o r : Value), cs = mcl m o r ∧ m.Wf ∧ Bytes w o m.onion ∧ Bytes w r m.reason := by
  obtain ⟨fs, hu, hfs⟩ := msg_under
  obtain ⟨hl, hf⟩ := h.struct hu
  rw [cells_msg] at hl
  have fld : ∀ (i : Nat) (t : TypeId) (off : Nat), msgFields[i]? = some (t, off) → Good enc Try.prog w t ((cs.drop off).take (Try.prog.cellsOf t)) := by
    intro i t off hi
    rw [← hfs, List.getElem?_map, Option.map_eq_some_iff] at hi
    obtain ⟨f, h1, h2⟩ := hi
    simp only [Prod.mk.injEq] at h2
    obtain ⟨rfl, rfl⟩ := h2
    exact hf i f (by simpa using h1)
  obtain ⟨n0, e0, w0⟩ := (fld 0 _ _ rfl).int Try.underlying3
  obtain ⟨n1, e1, w1⟩ := (fld 1 _ _ rfl).int Try.underlying3
  obtain ⟨n2, e2, w2⟩ := (fld 2 _ _ rfl).int Try.underlying3
  obtain ⟨n3, e3, w3⟩ := (fld 3 _ _ rfl).int Try.underlying3
  obtain ⟨n4, e4, w4⟩ := (fld 4 _ _ rfl).int Try.underlying3
  obtain ⟨l5, e5, w5⟩ := (fld 5 _ _ rfl).bytesN Try.underlying23 Try.underlying5 cells_u8 cells_arr32
  obtain ⟨o, l6, e6, w6, x6⟩ := (fld 6 _ _ rfl).bytes Try.underlying22 Try.underlying5 cells_u8 bytesOf_u8
  obtain ⟨l7, e7, w7⟩ := (fld 7 _ _ rfl).bytesN Try.underlying23 Try.underlying5 cells_u8 cells_arr32
  obtain ⟨l8, e8, w8⟩ := (fld 8 _ _ rfl).bytesN Try.underlying23 Try.underlying5 cells_u8 cells_arr32
  obtain ⟨l9, e9, w9⟩ := (fld 9 _ _ rfl).bytesN Try.underlying23 Try.underlying5 cells_u8 cells_arr32
  obtain ⟨n10, e10, w10⟩ := (fld 10 _ _ rfl).int Try.underlying3
  obtain ⟨n11, e11, w11⟩ := (fld 11 _ _ rfl).int Try.underlying3
  obtain ⟨r, l12, e12, w12, x12⟩ := (fld 12 _ _ rfl).bytes Try.underlying22 Try.underlying5 cells_u8 bytesOf_u8
  rw [cells_int] at e0 e1 e2 e3 e4 e10 e11
  rw [cells_arr32] at e5 e7 e8 e9
  rw [cells_sl8] at e6 e12
  refine ⟨⟨n0, n1, n2, n3, n4, l5, l6, l7, l8, l9, n10, n11, l12⟩, o, r, ?_, ⟨w5, w7, w8, w9, i64_of w0, i64_of w1, i64_of w2, i64_of w3, i64_of w4, i64_of w10, i64_of w11, x6, x12⟩, w6, w12⟩
  have p0 := piece cs 0 1
  have p1 := piece cs 1 1
  have p2 := piece cs 2 1
  have p3 := piece cs 3 1
  have p4 := piece cs 4 1
  have p5 := piece cs 5 32
  have p6 := piece cs 37 1
  have p7 := piece cs 38 32
  have p8 := piece cs 70 32
  have p9 := piece cs 102 32
  have p10 := piece cs 134 1
  have p11 := piece cs 135 1
  have p12 := piece cs 136 1
  have p13 : cs.drop (136 + 1) = [] := List.drop_of_length_le (by omega)
  rw [e0] at p0; rw [e1] at p1; rw [e2] at p2; rw [e3] at p3; rw [e4] at p4; rw [e5] at p5; rw [e6] at p6; rw [e7] at p7; rw [e8] at p8; rw [e9] at p9; rw [e10] at p10; rw [e11] at p11; rw [e12, p13] at p12
  rw [List.drop_zero] at p0
  rw [p0, p1, p2, p3, p4, p5, p6, p7, p8, p9, p10, p11, p12]
  simp [mcl]
end Go.Proofs.Ytdohenfbehpplaa
/- The walks of WireDecodes, WireOdd, WireEven, WireCuts. -/
namespace Go.Proofs.Ytdohenfbehpplaa
set_option linter.unusedVariables false
set_option linter.unusedSimpArgs false
open Go.RowKit
attribute [local irreducible] Go.wpList
attribute [local go_sem ↓] ldm stm bdm

theorem errno_eq (x : Int) : (x == x) = true := by simp
set_option maxRecDepth 20000 in
set_option maxHeartbeats 1600000 in
theorem wireDecodes_walk (b : List UInt8) (v : Value) (w : World) (h : Bytes w v b) (hl : b.length ≤ 140737488351232) :
    Calls Try.prog 3 #[v] w fun e w' => e = .returned (.bool true) ∧ Below w.heap.size w w' := by
  have HH := Lib.hid h
  have HL := Lib.hid hl
  obtain ⟨A, n, c, rfl⟩ := h.slice
  clear h hl
  go_enter Try.func3, Try.ntmps3
  go_wp2_with (at_builtin; refine wl_app 10 _ _ _ _ Try.underlying22 info_u8 w.heap.size _ [] rfl (own_empty w w.heap.size _ (Nat.le_refl _)) _ b rfl (HH.out.below ((Below.refl _ _).alloc (Nat.le_refl _) _)) ?hl ?hb ?_; (case hl => have := HL.out; simp; omega); (case hb => simp); intro v1 W1 ho1 hg1 hat1; have HB1 := below_append ((Below.refl w.heap.size w).alloc (Nat.le_refl _) _) (own_empty w w.heap.size _ (Nat.le_refl _)) hg1 (by simp) (Nat.le_refl _); have HO1 := Lib.hid (own_bytes ho1); obtain ⟨A1, c1, rfl, _, _⟩ := own_form ho1; clear ho1 hg1 hat1)
  simp only [List.nil_append] at HO1 ⊢
  refine (decM_ok b _ W1 HO1.out).mono ?_
  rintro e W2 ⟨o2, r2, rfl, ho2, hr2, hwf, hb2⟩
  obtain ⟨E, hE⟩ : ∃ E, E = decM b := ⟨_, rfl⟩
  rw [← hE] at ho2 hr2 hwf ⊢
  have HE := Lib.hid hE
  have HWF := Lib.hid hwf
  have HX := Lib.hid ho2
  have HY := Lib.hid hr2
  have HX1 := Lib.hid ho2.one
  have HY1 := Lib.hid hr2.one
  have HB2 := below_of HB1 hb2 HB1.size
  have HO2 := Lib.hid (HO1.out.below hb2)
  have z2 := HB2.size
  clear ho2 hr2 hwf hE HB1 hb2 HO1
  go_wp2_with (first | ((with_reducible refine dst_is 4 ?_); refine wl_newmsg 4 _ E.1 o2 r2 HWF.out HX1.out HY1.out rfl rfl ?_; intro W3 HM3 hb3 z3))
  have HB3 := below_of HB2 hb3 z2
  refine (rdecM_ok b _ W3 (HH.out.below HB3)).mono ?_
  rintro e W4 ⟨o4, r4, rfl, ho4, hr4, _, hb4⟩
  rw [← HE.out] at ho4 hr4 ⊢
  have HX4 := Lib.hid ho4
  have HY4 := Lib.hid hr4
  have HX41 := Lib.hid ho4.one
  have HY41 := Lib.hid hr4.one
  have HB4 := below_of HB3 hb4 (by omega)
  have HO4 := Lib.hid ((HO2.out.below hb3).below hb4)
  have HU4 := Lib.hid ((HX.out.below hb3).below hb4)
  have HV4 := Lib.hid ((HY.out.below hb3).below hb4)
  have HM4 := HM3.below hb4
  have z4 := HB4.size
  have z24 : W2.heap.size < W4.heap.size := by have := hb4.size; omega
  clear ho4 hr4 hb3 hb4 HB2 HB3 HM3 HX HY HO2 z3
  go_wp2_with (first | ((with_reducible refine dst_is 6 ?_); refine wl_newmsg 6 _ E.1 o4 r4 HWF.out HX41.out HY41.out rfl rfl ?_; intro W5 HM5 hb5 z5))
  have HB5 := below_of HB4 hb5 z4
  refine (lives_ok W5).mono ?_
  rintro e W6 ⟨rfl, hb6⟩
  have HB6 := below_of HB5 hb6 (by omega)
  have z6 := HB6.size
  have HM6 := (HM4.below hb5).below hb6
  have HN6 := HM5.below hb6
  have HU6 := Lib.hid ((HU4.out.below hb5).below hb6)
  have HV6 := Lib.hid ((HV4.out.below hb5).below hb6)
  have HX6 := Lib.hid ((HX4.out.below hb5).below hb6)
  have HY6 := Lib.hid ((HY4.out.below hb5).below hb6)
  have HO6 := Lib.hid ((HO4.out.below hb5).below hb6)
  clear hb5 hb6 HB4 HB5 HM4 HM5 HU4 HV4 HX4 HY4 HO4 z5
  go_wp2_with (first | ((with_reducible refine dst_is 23 ?_); refine wl_load 23 25 _ W2.heap.size 0 (mcl E.1 o2 r2) _ rfl rfl Try.underlying25 rfl (size_mc _ _ _ HWF.out) HM6.range ?_) | ((with_reducible refine dst_is 24 ?_); refine wl_load 24 25 _ W4.heap.size 0 (mcl E.1 o4 r4) _ rfl rfl Try.underlying25 rfl (size_mc _ _ _ HWF.out) HN6.range ?_))
  refine (same_ok E.1 E.1 o2 r2 o4 r4 W6 HWF.out HWF.out HU6.out HV6.out HX6.out HY6.out).mono ?_
  rw [(sameB_iff _ _).2 rfl]
  rintro e W7 ⟨rfl, hb7⟩
  have HB7 := below_of HB6 hb7 z6
  have s1 := run_str (HO6.out.below hb7)
  have s2 := run_str (HH.out.below HB7)
  clear hb7 HM6 HN6
  go_wp2_with fail
  go_ret
  exact ⟨rfl, HB7⟩
theorem wireDecodes_row {H : Type} {enc : TypeId × Value → H} (a : Option Addr) (n c : Nat) (w : World) (g : Good enc Try.prog w 22 (Value.slice a n c).cells.toList) :
    Calls Try.prog 3 #[.slice a n c] w fun e w' => e = .returned (.bool true) ∧ Below w.heap.size w w' := by
  obtain ⟨v, l, e, hb, hl⟩ := g.bytes Try.underlying22 Try.underlying5 cells_u8 bytesOf_u8
  have e2 : [Value.slice a n c] = [v] := e
  simp only [List.cons.injEq, and_true] at e2
  subst e2
  exact wireDecodes_walk l _ w hb hl
end Go.Proofs.Ytdohenfbehpplaa
/- The walk of WireEncodes. -/
namespace Go.Proofs.Ytdohenfbehpplaa
set_option linter.unusedVariables false
set_option linter.unusedSimpArgs false
open Go.RowKit
attribute [local irreducible] Go.wpList
attribute [local go_sem ↓] ldm stm bdm

/-- A row of one's own from base on, or nothing. -/
def Mine (w : World) (base : Nat) (v : Value) (l : List UInt8) : Prop := (l = [] ∧ ∃ A c, v = .slice A 0 c ∧ c ≤ 9223372036854775807 ∧ (A = none → c = 0)) ∨ w.ownsRow base 5 1 v l.length (bvs l)
section
variable {w w' : World} {base base' b : Nat} {v : Value} {l : List UInt8}
theorem Mine.bytes (h : Mine w base v l) : Bytes w v l := by
  rcases h with ⟨rfl, A, c, rfl, h1, h2⟩ | h
  · exact Bytes.nil h1 h2
  · exact own_bytes h
theorem Mine.below (h : Mine w base v l) (hb : Below w.heap.size w w') : Mine w' base v l := h.imp id fun h => own_below h hb
theorem Mine.tch (h : Mine w base v l) (hT : Tch b w w') (hb : b < base) : Mine w' base v l := h.imp id fun h => own_tch h hT hb
theorem Mine.lower (h : Mine w base v l) (hb : base' ≤ base) : Mine w base' v l := h.imp id fun h => own_lower h hb
end
/-- append([]byte{}, x...): a new row, or nothing; all that was there stays. -/
theorem run_append_e0 {W : World} (b : Addr) (ty : TypeId) {x : Value} {ys : List UInt8} (hx : Bytes W x ys) (hl : ys.length ≤ 140737488351232) :
    ∃ v' w', (Builtin.append_ #[22, 22] ty #[.slice (some b) 0 0, x]).run Try.prog W = .ok v' w' ∧ Mine w' W.heap.size v' ys ∧ Below W.heap.size W w' := by
  rcases hx.open with ⟨rfl, A, c, rfl, h1, h2⟩ | ⟨h0, b', off, c, rfl, h1, h2, hc⟩
  · obtain ⟨i0, hi, hzz⟩ := Option.map_eq_some_iff.1 info_u8
    simp only [Prod.mk.injEq] at hzz
    obtain ⟨hz0, hz1, hz2⟩ := hzz
    cases A with
    | none =>
      obtain rfl := h2 rfl
      refine ⟨.slice (some b) 0 0, W, ?_, .inl ⟨rfl, _, _, rfl, by omega, fun h => by cases h⟩, Below.refl _ _⟩
      simp [Builtin.append_, run_underlying Try.underlying22, sizeOf, typeInfo, hi, Builtin.lenOf, Builtin.firstCells, loadCells, loadCellsFrom, storeCells]
    | some a =>
      refine ⟨.slice (some b) 0 0, W, ?_, .inl ⟨rfl, _, _, rfl, by omega, fun h => by cases h⟩, Below.refl _ _⟩
      have hlc : (loadCells a 0).run Try.prog W = .ok #[] W := run_loadCells_list (P := Try.prog) W a [] (fun j v hj => by simp at hj)
      simp [Builtin.append_, run_underlying Try.underlying22, sizeOf, typeInfo, hi, Builtin.lenOf, Builtin.firstCells, hlc, storeCells]
  · obtain ⟨i0, hi, hzz⟩ := Option.map_eq_some_iff.1 info_u8
    simp only [Prod.mk.injEq] at hzz
    obtain ⟨hz0, hz1, hz2⟩ := hzz
    have hcap : Builtin.nextslicecap (0 + ys.length) 0 * i0.bytes ≤ 281474976710656 := by
      rw [hz2]
      have := nextslicecap_le (need := 0 + ys.length) (old := 0) (by omega)
      omega
    have hr := run_append_grow (P := Try.prog) W 22 ty 5 i0 (.int .u8 0) Try.underlying22 hi hz0 b 0 0 [] (by simp) (fun j v hj => by simp at hj) ⟨b', off, none⟩ ys.length c (bvs ys) (by rw [hz1]; simp [bvs]) (fun j v hj => by
      obtain ⟨hj1, rfl⟩ := bvs_at hj
      rw [add_off]; exact hc j hj1) (by omega) (by omega) hcap
    have e0 : ([] : List Value).toArray ++ (bvs ys).toArray = (bvs ys).toArray := by simp
    rw [e0] at hr
    simp only [Nat.zero_add] at hr
    have hge := grownCap_ge W ys.length 0 5
    have hcm : grownCap W ys.length 0 5 ≤ maxLen := grownCap_le_maxLen W ys.length 0 5 (by simp only [maxLen]; omega)
    refine ⟨_, _, hr, .inr ⟨by simp [bvs], .inr ⟨W.heap.size, _, _, rfl, Nat.le_refl _, heap_alloc_new W.drew _, hge, hcm, ?_, ?_⟩⟩, ((Below.refl _ _).drew).alloc (Nat.le_refl _) _⟩
    · simp only [Array.size_append, List.size_toArray, size_zeroCells, bvs_length]
      simp [Value.cells]
      omega
    · simp only [Array.toList_append, Nat.mul_one]
      rw [show ys.length = (bvs ys).length from (bvs_length ys).symm]
      exact List.take_left
theorem step_lit0 {W : World} {ops : Array Oper} {o : Oper} {a : Act} {K : Act → World → Prop} {Q : Exit → Act → World → Prop} {E : Prop} (hgd : o.guard = none) (ho : o.op = .buildSlice 22 0 #[])
    (h : ∀ W', W' = W.alloc (.cells #[] 5) → Below W.heap.size W W' → K (a.put o.dst (.slice (some ⟨W.heap.size, 0, none⟩) 0 0)) W') :
    if Region.wanted o (yielded ops a.tmps) = true then Oper.wp Try.prog o a W K Q else E := by
  have hw : Region.wanted o (yielded ops a.tmps) = true := by simp [Region.wanted, hgd]
  rw [if_pos hw]
  have hr : (Instr.buildSlice 22 0 #[]).run Try.prog W = .ok (.slice (some ⟨W.heap.size, 0, none⟩) 0 0) (W.alloc (.cells #[] 5)) := by kernel_rfl
  unfold Oper.wp execOp
  simp only [ho, Array.map_empty, Sem.run_bind, hr, Sem.run_pure, Result.andThen_ok]
  exact h _ rfl ((Below.refl _ _).alloc (Nat.le_refl _) _)
theorem step_e0 {W : World} {ops : Array Oper} {o : Oper} {a : Act} {K : Act → World → Prop} {Q : Exit → Act → World → Prop} {E : Prop} (hgd : o.guard = none) (s x : Operand)
    (ho : o.op = .call { callee := .builtin .append, args := #[s, x], argTypes := #[22, 22] }) (b : Addr) (v : Value) (ys : List UInt8) (hs : a.eval s = .slice (some b) 0 0) (hx : a.eval x = v) (hv : Bytes W v ys) (hl : ys.length ≤ 140737488351232)
    (h : ∀ v' w', Mine w' W.heap.size v' ys → Below W.heap.size W w' → K (a.put o.dst v') w') :
    if Region.wanted o (yielded ops a.tmps) = true then Oper.wp Try.prog o a W K Q else E := by
  obtain ⟨v', w', hr, hm, hb⟩ := run_append_e0 b o.type hv hl
  exact step_run hgd s x _ ho _ _ hs hx v' w' hr (h v' w' hm hb)
theorem Below.al {a w : World} (h : Below a.heap.size a w) (o : Obj) : Below a.heap.size a (w.alloc o) := h.alloc h.size o
/-- The same, seen from an earlier world. -/
theorem step_e1 {W : World} {ops : Array Oper} {o : Oper} {a : Act} {K : Act → World → Prop} {Q : Exit → Act → World → Prop} {E : Prop} (Ws : World) (hB : Below Ws.heap.size Ws W) (hgd : o.guard = none) (s x : Operand)
    (ho : o.op = .call { callee := .builtin .append, args := #[s, x], argTypes := #[22, 22] }) (b : Addr) (v : Value) (ys : List UInt8) (hs : a.eval s = .slice (some b) 0 0) (hx : a.eval x = v) (hv : Bytes Ws v ys) (hl : ys.length ≤ 140737488351232)
    (h : ∀ A' n' c' w', n' = ys.length → Mine w' Ws.heap.size (.slice A' n' c') ys → Below W.heap.size W w' → Below Ws.heap.size Ws w' → K (a.put o.dst (.slice A' n' c')) w') :
    if Region.wanted o (yielded ops a.tmps) = true then Oper.wp Try.prog o a W K Q else E := by
  refine step_e0 hgd s x ho b v ys hs hx (hv.below hB) hl ?_
  intro v' w' hm hb
  obtain ⟨A', n', c', rfl⟩ := hm.bytes.slice
  exact h _ _ _ _ (bytes_len hm.bytes) (hm.lower hB.size) hb (below_of hB hb hB.size)
set_option maxRecDepth 20000 in
set_option maxHeartbeats 3200000 in
theorem wireEncodes_walk (m : Msg) (o r : Value) (w : World) (hm : m.Wf) (ho : Bytes w o m.onion) (hr : Bytes w r m.reason) :
    Calls Try.prog 7 #[.agg (mc m o r)] w fun e w' => e = .returned (.bool true) ∧ Below w.heap.size w w' := by
  have HO := Lib.hid ho
  have HR := Lib.hid hr
  have HO1 := Lib.hid ho.one
  have HR1 := Lib.hid hr.one
  obtain ⟨Ao, no, co, rfl⟩ := ho.slice
  obtain ⟨Ar, nr, cr, rfl⟩ := hr.slice
  clear ho hr
  go_enter Try.func7, Try.ntmps7
  go_upto_region 2 with (first | ((with_reducible refine dst_is 1 ?_); refine wl_box 1 _ _ _ rfl ?_; intro W1 e1; have z1 : W1.heap.size = w.heap.size + 1 := (by rw [e1]; simp); have HA : MsgIn W1 w.heap.size m (.slice Ao no co) (.slice Ar nr cr) := (by rw [e1]; exact msgIn_new w hm); have HB1 : Below w.heap.size w W1 := (by rw [e1]; exact (Below.refl _ _).alloc (Nat.le_refl _) _); clear e1) | ((with_reducible refine dst_is 9 ?_); refine wl_load 9 25 _ w.heap.size 0 (mcl m (.slice Ao no co) (.slice Ar nr cr)) _ rfl rfl Try.underlying25 rfl (size_mc _ _ _ hm) HA.range ?_) | ((with_reducible refine dst_is 3 ?_); refine wl_newmsg 3 _ m _ _ hm HO1.out HR1.out rfl rfl ?_; intro W2 HM2 hb2 z2; have HA2 := HA.below hb2; have HB2 := below_of HB1 hb2 (by omega); rw [z1] at z2 HM2 ⊢; clear HA HB1 hb2 z1))
  have HO2 := Lib.hid (HO.out.below HB2)
  have HR2 := Lib.hid (HR.out.below HB2)
  go_simp
  go_cut [3] (fun s3 wx => s3 = .pointer (some ⟨w.heap.size + 1, 0, none⟩) ∧ ∃ o' r', Hid (MsgIn wx (w.heap.size + 1) m o' r') ∧ Hid (MsgIn wx w.heap.size m (.slice Ao no co) (.slice Ar nr cr)) ∧ Hid (Bytes wx o' m.onion) ∧ Hid (Bytes wx r' m.reason) ∧ Hid (Below w.heap.size w wx) ∧ w.heap.size + 2 ≤ wx.heap.size)
  case first =>
    have hne1 : w.heap.size ≠ w.heap.size + 1 := by omega
    have HBs : Below W2.heap.size W2 W2 := Below.refl _ _
    have c1 := HA2.cell 37 _ (mc_37 hm)
    have c2 := HA2.cell 136 _ (mc_136 hm)
    have R3 : Hid (∀ W', Below W2.heap.size W2 W' → W'.cell? ⟨w.heap.size + 1, 37, none⟩ = some (.slice Ao no co)) := fun W' h => cell_below h (HM2.cell 37 _ (mc_37 hm))
    have R4 : Hid (∀ W', Below W2.heap.size W2 W' → W'.cell? ⟨w.heap.size + 1, 136, none⟩ = some (.slice Ar nr cr)) := fun W' h => cell_below h (HM2.cell 136 _ (mc_136 hm))
    have R5 : Hid (∀ W', Below W2.heap.size W2 W' → W'.frozen? ⟨w.heap.size + 1, 37, none⟩ = false) := fun W' h => ((HM2.below h).ok 37 (by omega)).2
    have R6 : Hid (∀ W', Below W2.heap.size W2 W' → W'.frozen? ⟨w.heap.size + 1, 136, none⟩ = false) := fun W' h => ((HM2.below h).ok 136 (by omega)).2
    go_region_held3 (fun W => W.cell? ⟨w.heap.size, 37, none⟩ = some (.slice Ao no co) ∧ W.cell? ⟨w.heap.size, 136, none⟩ = some (.slice Ar nr cr))
      (first | exact ⟨cell_below HBs c1, cell_below HBs c2⟩ | exact ⟨(tch_cell (tch_setCell _ (w.heap.size + 1) _ _) hne1).trans (cell_below HBs c1), (tch_cell (tch_setCell _ (w.heap.size + 1) _ _) hne1).trans (cell_below HBs c2)⟩ | exact ⟨(tch_cell ((tch_setCell _ (w.heap.size + 1) _ _).trans (tch_setCell _ (w.heap.size + 1) _ _)) hne1).trans (cell_below HBs c1), (tch_cell ((tch_setCell _ (w.heap.size + 1) _ _).trans (tch_setCell _ (w.heap.size + 1) _ _)) hne1).trans (cell_below HBs c2)⟩ | exact ⟨cell_below HBs.drew c1, cell_below HBs.drew c2⟩ | exact ⟨cell_below (Below.al HBs _).drew c1, cell_below (Below.al HBs _).drew c2⟩ | exact ⟨cell_below (Below.al (Below.al HBs _) _).drew c1, cell_below (Below.al (Below.al HBs _) _).drew c2⟩ | exact ⟨cell_below (Below.al HBs _) c1, cell_below (Below.al HBs _) c2⟩ | exact ⟨cell_below (Below.al (Below.al HBs _) _) c1, cell_below (Below.al (Below.al HBs _) _) c2⟩)
      (first | (refine step_e1 W2 ?hB rfl (.tmp 10) (.tmp 12) rfl _ _ m.onion rfl rfl HO2.out hm.onion ?_; (case hB => first | exact HBs | exact HBs.drew | exact (Below.al HBs _).drew | exact (Below.al (Below.al HBs _) _).drew | exact Below.al HBs _ | exact Below.al (Below.al HBs _) _); intro A13 n13 c13 W' e13 HV13 hbx HBn; clear HBs; have HBs := HBn; subst e13; have q3 := R3.out _ HBs; have q4 := R4.out _ HBs; have q5 := R5.out _ HBs; have q6 := R6.out _ HBs; clear hbx HBn) | (refine step_e1 W2 ?hB rfl (.tmp 14) (.tmp 16) rfl _ _ m.reason rfl rfl HR2.out hm.reason ?_; (case hB => first | exact HBs | exact HBs.drew | exact (Below.al HBs _).drew | exact (Below.al (Below.al HBs _) _).drew | exact Below.al HBs _ | exact Below.al (Below.al HBs _) _); intro A17 n17 c17 W' e17 HV17 hbx HBn; (first | replace HV13 := HV13.below hbx | replace HV13 := HV13.below (below_of (Below.al (Below.refl _ _) _) hbx (le_alloc _ _)) | skip); clear HBs; have HBs := HBn; subst e17; have q3 := R3.out _ HBs; have q4 := R4.out _ HBs; have q5 := R5.out _ HBs; have q6 := R6.out _ HBs; clear hbx HBn))
    · have hMa := (HM2.below HBs).s6 hm (.slice A13 m.onion.length c13) m.onion
      have hMb := hMa.s12 (show Msg.Wf { m with onion := m.onion } from hm) (.slice A17 m.reason.length c17) m.reason
      have hT := (tch_setCell _ (w.heap.size + 1) 37 (.slice A13 m.onion.length c13)).trans (tch_setCell _ (w.heap.size + 1) 136 (.slice A17 m.reason.length c17)) (u := W')
      have hAb := (HA2.below HBs).tch hT (by omega)
      have h13 := (HV13.tch hT (by omega)).bytes
      have h17 := (HV17.tch hT (by omega)).bytes
      have hBb := hT.below (below_of HB2 HBs (by omega)) (by omega)
      have hzb : w.heap.size + 2 ≤ ((W'.setCell ⟨w.heap.size + 1, 37, none⟩ (.slice A13 m.onion.length c13)).setCell ⟨w.heap.size + 1, 136, none⟩ (.slice A17 m.reason.length c17)).heap.size := by
        rw [hT.size]; have := HBs.size; omega
      clear HV13 HV17 hMa
      go_wp2_with fail
      go_meet
      case rel => exact ⟨rfl, _, _, hMb, hAb, h13, h17, hBb, hzb⟩
    · have hMa := (HM2.below HBs).s6 hm (.slice A13 m.onion.length c13) m.onion
      have hMb := hMa.s12 (show Msg.Wf { m with onion := m.onion } from hm) (.slice A17 m.reason.length c17) m.reason
      have hT := (tch_setCell _ (w.heap.size + 1) 37 (.slice A13 m.onion.length c13)).trans (tch_setCell _ (w.heap.size + 1) 136 (.slice A17 m.reason.length c17)) (u := W')
      have hAb := (HA2.below HBs).tch hT (by omega)
      have h13 := (HV13.tch hT (by omega)).bytes
      have h17 := (HV17.tch hT (by omega)).bytes
      have hBb := hT.below (below_of HB2 HBs (by omega)) (by omega)
      have hzb : w.heap.size + 2 ≤ ((W'.setCell ⟨w.heap.size + 1, 37, none⟩ (.slice A13 m.onion.length c13)).setCell ⟨w.heap.size + 1, 136, none⟩ (.slice A17 m.reason.length c17)).heap.size := by
        rw [hT.size]; have := HBs.size; omega
      clear HV13 HV17 hMa
      go_wp2_with fail
      go_meet
      case rel => exact ⟨rfl, _, _, hMb, hAb, h13, h17, hBb, hzb⟩
    · have hMa := (HM2.below HBs).s6 hm (.slice A13 m.onion.length c13) m.onion
      have hMb := hMa.s12 (show Msg.Wf { m with onion := m.onion } from hm) (.slice A17 m.reason.length c17) m.reason
      have hT := (tch_setCell _ (w.heap.size + 1) 37 (.slice A13 m.onion.length c13)).trans (tch_setCell _ (w.heap.size + 1) 136 (.slice A17 m.reason.length c17)) (u := W')
      have hAb := (HA2.below HBs).tch hT (by omega)
      have h13 := (HV13.tch hT (by omega)).bytes
      have h17 := (HV17.tch hT (by omega)).bytes
      have hBb := hT.below (below_of HB2 HBs (by omega)) (by omega)
      have hzb : w.heap.size + 2 ≤ ((W'.setCell ⟨w.heap.size + 1, 37, none⟩ (.slice A13 m.onion.length c13)).setCell ⟨w.heap.size + 1, 136, none⟩ (.slice A17 m.reason.length c17)).heap.size := by
        rw [hT.size]; have := HBs.size; omega
      clear HV13 HV17 hMa
      go_wp2_with fail
      go_meet
      case rel => exact ⟨rfl, _, _, hMb, hAb, h13, h17, hBb, hzb⟩
  case rest =>
    obtain ⟨rfl, o', r', HMo, HMa, HX, HY, HB, hz⟩ := hcut
    clear HA2 HM2 HB2 HO2 HR2 z2
    have HX1 := Lib.hid HX.out.one
    have HY1 := Lib.hid HY.out.one
    go_wp2_with (first | ((with_reducible refine dst_is 21 ?_); refine wl_load 21 25 _ (w.heap.size + 1) 0 (mcl m o' r') _ rfl rfl Try.underlying25 rfl (size_mc _ _ _ hm) HMo.out.range ?_))
    refine (encM_ok m o' r' wc hm HX.out HY.out).mono ?_
    rintro e W4 ⟨v4, rfl, ho4, hb4⟩
    have HMo4 := Lib.hid (HMo.out.below hb4)
    have HMa4 := Lib.hid (HMa.out.below hb4)
    have HX4 := Lib.hid (HX.out.below hb4)
    have HY4 := Lib.hid (HY.out.below hb4)
    have HB4 := Lib.hid (below_of HB.out hb4 (by omega))
    have HE4 := Lib.hid ho4
    have z4 : w.heap.size + 2 ≤ W4.heap.size := by have := hb4.size; omega
    obtain ⟨A4, c4, rfl, _, _⟩ := own_form ho4
    clear HMo HMa HX HY HB ho4 hb4 hz
    go_wp2_with (first | ((with_reducible refine dst_is 26 ?_); refine wl_load 26 25 _ w.heap.size 0 (mcl m (.slice Ao no co) (.slice Ar nr cr)) _ rfl rfl Try.underlying25 rfl (size_mc _ _ _ hm) HMa4.out.range ?_))
    refine (rencM_ok m _ _ W4 hm (HO.out.below HB4.out) (HR.out.below HB4.out)).mono ?_
    rintro e W6 ⟨v6, rfl, ho6, hb6⟩
    have HMo6 := Lib.hid (HMo4.out.below hb6)
    have HMa6 := Lib.hid (HMa4.out.below hb6)
    have HX6 := Lib.hid (HX4.out.below hb6)
    have HY6 := Lib.hid (HY4.out.below hb6)
    have HB6 := Lib.hid (below_of HB4.out hb6 (by omega))
    have HE6 := Lib.hid (own_below HE4.out hb6)
    have HF6 := Lib.hid ho6
    have z6 : w.heap.size + 2 ≤ W6.heap.size := by have := hb6.size; omega
    have HOo := Lib.hid (HO.out.below HB6.out)
    have HRo := Lib.hid (HR.out.below HB6.out)
    obtain ⟨A6, c6, rfl, _, _⟩ := own_form ho6
    clear HMo4 HMa4 HX4 HY4 HB4 HE4 ho6 hb6 z4
    go_wp2_with fail
    have hsm : sameB m m = true := (sameB_iff _ _).2 rfl
    have hsb : sameB (bareS m) (bareS m) = true := (sameB_iff _ _).2 rfl
    have HWB := Lib.hid (bareS_wf hm)
    have hL1 : ∀ W : World, W.rangeAt (w.heap.size + 1) 0 (mcl m o' r') → (LdAny 25 (.pointer (some ⟨w.heap.size + 1, 0, none⟩))).run Try.prog W = .ok (.agg (mc m o' r')) W := fun W h => run_loadAt_mid W _ _ _ _ _ h Try.underlying25 rfl (size_mc _ _ _ hm)
    have hL2 : ∀ W : World, W.rangeAt w.heap.size 0 (mcl m (.slice Ao no co) (.slice Ar nr cr)) → (LdAny 25 (.pointer (some ⟨w.heap.size, 0, none⟩))).run Try.prog W = .ok (.agg (mc m (.slice Ao no co) (.slice Ar nr cr))) W := fun W h => run_loadAt_mid W _ _ _ _ _ h Try.underlying25 rfl (size_mc _ _ _ hm)
    have HS1 : Hid (∀ W, Below W6.heap.size W6 W → (convert 22 9 (.slice A4 (encM m).1.length c4)).run Try.prog W = .ok (.string ⟨(encM m).1.toArray⟩) W) := fun W h => run_str ((own_bytes HE6.out).below h)
    have HS2 : Hid (∀ W, Below W6.heap.size W6 W → (convert 22 9 (.slice A6 (encM m).1.length c6)).run Try.prog W = .ok (.string ⟨(encM m).1.toArray⟩) W) := fun W h => run_str ((own_bytes HF6.out).below h)
    have HBs : Below W6.heap.size W6 W6.drew := (Below.refl _ _).drew
    go_region_held3 (fun W => W.rangeAt (w.heap.size + 1) 0 (mcl m o' r') ∧ W.rangeAt w.heap.size 0 (mcl m (.slice Ao no co) (.slice Ar nr cr)) ∧ (convert 22 9 (.slice A4 (encM m).1.length c4)).run Try.prog W = .ok (.string ⟨(encM m).1.toArray⟩) W ∧ (convert 22 9 (.slice A6 (encM m).1.length c6)).run Try.prog W = .ok (.string ⟨(encM m).1.toArray⟩) W)
      (first | exact ⟨range_below HMo6.out.range HBs, range_below HMa6.out.range HBs, HS1.out _ HBs, HS2.out _ HBs⟩)
      (first | (go_at_call 11; refine (lives_ok _).mono ?_; rintro e W' ⟨rfl, hbx⟩; replace HBs := below_of HBs hbx HBs.size; (try replace HOB := HOB.below hbx); (try replace HRB := HRB.below hbx); (try replace HOR := HOR.below hbx); (try replace HRR := HRR.below hbx); clear hbx) | (go_at_call 16; refine (may_ok m _ _ _ hm (HX6.out.below HBs) (HY6.out.below HBs)).mono ?_; rintro e W' ⟨rfl, hbx⟩; replace HBs := below_of HBs hbx HBs.size; (try replace HOB := HOB.below hbx); (try replace HRB := HRB.below hbx); (try replace HOR := HOR.below hbx); (try replace HRR := HRR.below hbx); clear hbx) | (go_at_call 17; refine (rmay_ok m _ _ _ hm (HOo.out.below HBs) (HRo.out.below HBs)).mono ?_; rintro e W' ⟨rfl, hbx⟩; replace HBs := below_of HBs hbx HBs.size; (try replace HOB := HOB.below hbx); (try replace HRB := HRB.below hbx); (try replace HOR := HOR.below hbx); (try replace HRR := HRR.below hbx); clear hbx) | (go_at_call 18; refine (bare_ok m _ _ _ hm (HX6.out.below HBs) (HY6.out.below HBs)).mono ?_; rintro e W' ⟨oB, rB, rfl, hoB, hrB, hbx⟩; replace HBs := below_of HBs hbx HBs.size; have HOB := own_bytes hoB; have HRB := own_bytes hrB; (try replace HOR := HOR.below hbx); (try replace HRR := HRR.below hbx); clear hbx hoB hrB) | (go_at_call 19; refine (rbare_ok m _ _ _ hm (HOo.out.below HBs) (HRo.out.below HBs)).mono ?_; rintro e W' ⟨oR, rR, rfl, HOR, HRR, hbx⟩; replace HBs := below_of HBs hbx HBs.size; replace HOR := HOR.below hbx; replace HRR := HRR.below hbx; (try replace HOB := HOB.below hbx); (try replace HRB := HRB.below hbx); clear hbx) | (go_at_call 12; have b1 : Bytes _ o' m.onion := HX6.out.below HBs; have b2 : Bytes _ r' m.reason := HY6.out.below HBs; have b3 : Bytes _ (.slice Ao no co) m.onion := HOo.out.below HBs; have b4 : Bytes _ (.slice Ar nr cr) m.reason := HRo.out.below HBs; (with_reducible refine (same_ok m m o' r' (.slice Ao no co) (.slice Ar nr cr) _ hm hm b1 b2 b3 b4).mono ?_); clear b1 b2 b3 b4; rintro e W' ⟨rfl, hbx⟩; replace HBs := below_of HBs hbx HBs.size; (try replace HOB := HOB.below hbx); (try replace HRB := HRB.below hbx); (try replace HOR := HOR.below hbx); (try replace HRR := HRR.below hbx); clear hbx) | (go_at_call 12; have b1 : Bytes _ oB (bareS m).onion := HOB; have b2 : Bytes _ rB (bareS m).reason := HRB; have b3 : Bytes _ oR (bareS m).onion := HOR; have b4 : Bytes _ rR (bareS m).reason := HRR; (with_reducible refine (same_ok (bareS m) (bareS m) oB rB oR rR _ HWB.out HWB.out b1 b2 b3 b4).mono ?_); clear b1 b2 b3 b4; rintro e W' ⟨rfl, hbx⟩; replace HBs := below_of HBs hbx HBs.size; clear hbx HOB HRB HOR HRR))
    focus
      have HBn := below_of HB6.out HBs (by omega)
      have hMa := HMa6.out.below HBs
      have HE7 := Lib.hid (own_below HE6.out HBs)
      have zn := HBn.size
      clear hsb hL1 hL2
      by_cases hmy : mayS m = true
      case neg =>
        have e0 : (encM m).2 = 1 := by unfold encM; rw [if_neg hmy]
        rw [e0]
        clear hmy e0 hMa
        go_wp2_with fail
        go_ret
        exact ⟨rfl, HBn⟩
      case pos =>
        have e0 : (encM m).2 = 0 := by rw [encM_bytes hm hmy]
        have HDE := Lib.hid (dec_enc hm hmy)
        rw [e0]
        clear hmy e0
        go_wp2_with fail
        refine (decM_ok (encM m).1 _ _ (own_bytes HE7.out)).mono ?_
        rw [HDE.out]
        rintro e W8 ⟨o8, r8, rfl, ho8, hr8, _, hb8⟩
        have HB8 := below_of HBn hb8 zn
        have HA8 := hMa.below hb8
        have HX8 := Lib.hid ho8
        have HY8 := Lib.hid hr8
        have HX81 := Lib.hid ho8.one
        have HY81 := Lib.hid hr8.one
        have z8 := HB8.size
        clear hMa HBn HBs hb8 ho8 hr8
        go_wp2_with (first | ((with_reducible refine dst_is 8 ?_); refine wl_newmsg 8 _ m o8 r8 hm HX81.out HY81.out rfl rfl ?_; intro W9 HM9 hb9 z9; have HA9 := HA8.below hb9; have HB9 := below_of HB8 hb9 z8; have HX9 := Lib.hid (HX8.out.below hb9); have HY9 := Lib.hid (HY8.out.below hb9); clear HA8 HB8 hb9 z9) | ((with_reducible refine dst_is 75 ?_); refine wl_load 75 25 _ W8.heap.size 0 (mcl m o8 r8) _ rfl rfl Try.underlying25 rfl (size_mc _ _ _ hm) HM9.range ?_) | ((with_reducible refine dst_is 76 ?_); refine wl_load 76 25 _ w.heap.size 0 (mcl m (.slice Ao no co) (.slice Ar nr cr)) _ rfl rfl Try.underlying25 rfl (size_mc _ _ _ hm) HA9.range ?_))
        refine (same_ok m m o8 r8 _ _ W9 hm hm HX9.out HY9.out (HO.out.below HB9) (HR.out.below HB9)).mono ?_
        rw [hsm]
        rintro e W10 ⟨rfl, hb10⟩
        have HB10 := below_of HB9 hb10 HB9.size
        clear hb10 HM9 HA9
        go_wp2_with fail
        go_ret
        exact ⟨rfl, HB10⟩
end Go.Proofs.Ytdohenfbehpplaa
/- The walk of WireBare. -/
namespace Go.Proofs.Ytdohenfbehpplaa
set_option linter.unusedVariables false
set_option linter.unusedSimpArgs false
open Go.RowKit
attribute [local irreducible] Go.wpList
attribute [local go_sem ↓] ldm stm bdm

theorem bare_bare (m : Msg) : bareS (bareS m) = bareS m := by
  have e : bareS (bareS m) = (fieldsOf m.kind).foldl (fun a t => cp a (bareS m) t) (kmsg m.kind) := by
    show (fieldsOf (bareS m).kind).foldl (fun a t => cp a (bareS m) t) (kmsg (bareS m).kind) = _
    rw [bareS_kind]
  rw [e]
  clear e
  have hb : bareS m = (fieldsOf m.kind).foldl (fun a t => cp a m t) (kmsg m.kind) := rfl
  rcases fields_dec m.kind with ⟨i, hi, h1, h2⟩ | ⟨_, h0⟩
  · obtain rfl | rfl | rfl | rfl | rfl | rfl : i = 1 ∨ i = 2 ∨ i = 3 ∨ i = 4 ∨ i = 5 ∨ i = 6 := by omega
    · have e : fieldsOf m.kind = [1, 3, 5, 7, 9, 11] := by rw [hi]; decide
      rw [hb, e]; rfl
    · have e : fieldsOf m.kind = [1, 3, 13] := by rw [hi]; decide
      rw [hb, e]; rfl
    · have e : fieldsOf m.kind = [1, 3, 23] := by rw [hi]; decide
      rw [hb, e]; rfl
    · have e : fieldsOf m.kind = [1, 17, 19] := by rw [hi]; decide
      rw [hb, e]; rfl
    · have e : fieldsOf m.kind = [1, 13, 15, 19] := by rw [hi]; decide
      rw [hb, e]; rfl
    · have e : fieldsOf m.kind = [1, 15, 19, 21] := by rw [hi]; decide
      rw [hb, e]; rfl
  · rw [hb, h0]; rfl
theorem enc_ok_may (m : Msg) (hm : m.Wf) : ((encM m).2 == (0 : Int)) = mayS m := by
  cases h : mayS m
  · have e0 : (encM m).2 = 1 := by unfold encM; rw [if_neg (by rw [h]; simp)]
    rw [e0]; rfl
  · have e0 : (encM m).2 = 0 := by rw [encM_bytes hm h]
    rw [e0]; rfl
set_option maxRecDepth 20000 in
set_option maxHeartbeats 3200000 in
theorem wireBare_walk (m : Msg) (o r : Value) (w : World) (hm : m.Wf) (ho : Bytes w o m.onion) (hr : Bytes w r m.reason) :
    Calls Try.prog 8 #[.agg (mc m o r)] w fun e w' => e = .returned (.bool true) ∧ Below w.heap.size w w' := by
  have HO := Lib.hid ho
  have HR := Lib.hid hr
  have HO1 := Lib.hid ho.one
  have HR1 := Lib.hid hr.one
  obtain ⟨Ao, no, co, rfl⟩ := ho.slice
  obtain ⟨Ar, nr, cr, rfl⟩ := hr.slice
  clear ho hr
  have HWB := Lib.hid (bareS_wf hm)
  go_enter Try.func8, Try.ntmps8
  go_wp2_with (first | ((with_reducible refine dst_is 1 ?_); refine wl_box 1 _ _ _ rfl ?_; intro W1 e1; have z1 : W1.heap.size = w.heap.size + 1 := (by rw [e1]; simp); have HA : MsgIn W1 w.heap.size m (.slice Ao no co) (.slice Ar nr cr) := (by rw [e1]; exact msgIn_new w hm); have HB1 : Below w.heap.size w W1 := (by rw [e1]; exact (Below.refl _ _).alloc (Nat.le_refl _) _); clear e1) | ((with_reducible refine dst_is 6 ?_); refine wl_load 6 25 _ w.heap.size 0 (mcl m (.slice Ao no co) (.slice Ar nr cr)) _ rfl rfl Try.underlying25 rfl (size_mc _ _ _ hm) HA.range ?_))
  refine (bare_ok m _ _ W1 hm (HO.out.below HB1) (HR.out.below HB1)).mono ?_
  rintro e W2 ⟨oB, rB, rfl, hoB, hrB, hb2⟩
  have HA2 := HA.below hb2
  have HB2 := below_of HB1 hb2 (by omega)
  have z2 := hb2.size
  have HX := Lib.hid (own_bytes hoB)
  have HY := Lib.hid (own_bytes hrB)
  have HX1 := Lib.hid (own_bytes hoB).one
  have HY1 := Lib.hid (own_bytes hrB).one
  clear HA HB1 hb2 hoB hrB
  go_wp2_with (first | ((with_reducible refine dst_is 3 ?_); refine wl_newmsg 3 _ (bareS m) oB rB HWB.out HX1.out HY1.out rfl rfl ?_; intro W3 HM3 hb3 z3; have HA3 := HA2.below hb3; have HB3 := below_of HB2 hb3 (by omega); have HX3 := Lib.hid (HX.out.below hb3); have HY3 := Lib.hid (HY.out.below hb3); clear HA2 HB2 hb3 HX HY) | ((with_reducible refine dst_is 9 ?_); refine wl_load 9 25 _ W2.heap.size 0 (mcl (bareS m) oB rB) _ rfl rfl Try.underlying25 rfl (size_mc _ _ _ HWB.out) HM3.range ?_))
  refine (encM_ok (bareS m) oB rB W3 HWB.out HX3.out HY3.out).mono ?_
  rintro e W6 ⟨v6, rfl, ho6, hb6⟩
  have HMo6 := Lib.hid (HM3.below hb6)
  have HMa6 := Lib.hid (HA3.below hb6)
  have HX6 := Lib.hid (HX3.out.below hb6)
  have HY6 := Lib.hid (HY3.out.below hb6)
  have HB6 := Lib.hid (below_of HB3 hb6 (by omega))
  have z6 : w.heap.size ≤ W6.heap.size := by have := hb6.size; omega
  have HOo := Lib.hid (HO.out.below HB6.out)
  have HRo := Lib.hid (HR.out.below HB6.out)
  obtain ⟨A6, c6, rfl, _, _⟩ := own_form ho6
  clear HM3 HA3 HX3 HY3 HB3 ho6 hb6
  have hsm : sameB (bareS m) (bareS m) = true := (sameB_iff _ _).2 rfl
  have hem := enc_ok_may (bareS m) HWB.out
  have hL1 : ∀ W : World, W.rangeAt W2.heap.size 0 (mcl (bareS m) oB rB) → (LdAny 25 (.pointer (some ⟨W2.heap.size, 0, none⟩))).run Try.prog W = .ok (.agg (mc (bareS m) oB rB)) W := fun W h => run_loadAt_mid W _ _ _ _ _ h Try.underlying25 rfl (size_mc _ _ _ HWB.out)
  have hL2 : ∀ W : World, W.rangeAt w.heap.size 0 (mcl m (.slice Ao no co) (.slice Ar nr cr)) → (LdAny 25 (.pointer (some ⟨w.heap.size, 0, none⟩))).run Try.prog W = .ok (.agg (mc m (.slice Ao no co) (.slice Ar nr cr))) W := fun W h => run_loadAt_mid W _ _ _ _ _ h Try.underlying25 rfl (size_mc _ _ _ hm)
  have HBs : Below W6.heap.size W6 W6.drew := (Below.refl _ _).drew
  have hcase : mayS m = false ∨ (mayS m = true ∧ sameB (bareS m) m = true) := by
    cases h : mayS m
    · exact .inl rfl
    · exact .inr ⟨rfl, (sameB_iff _ _).2 (may_bare h)⟩
  go_wp2_with fail
  rcases hcase with hmay | ⟨hmay, hsbm⟩
  · refine wp_region_held_drew (S := (fun W => W.rangeAt W2.heap.size 0 (mcl (bareS m) oB rB) ∧ W.rangeAt w.heap.size 0 (mcl m (.slice Ao no co) (.slice Ar nr cr)))) (by kernel_rfl) ⟨range_below HMo6.out.range HBs, range_below HMa6.out.range HBs⟩ (fun hHeld => ?_)
    refine wpAnyH_ready (rs := [0]) (by kernel_rfl) (by simp) ?_
    refine AllReadyH.cons rfl (fun K hK => ?_) AllReadyH.nil
    go_simp
    refine (lives_ok _).mono ?_; rintro e W' ⟨rfl, hbx⟩; replace HBs := below_of HBs hbx HBs.size; clear hbx
    go_wp2_with fail
    refine hK.out _ _ ⟨range_below HMo6.out.range HBs, range_below HMa6.out.range HBs⟩ (fun hHeld => ?_)
    clear hK K
    (try simp only [List.getElem_toArray, List.getElem_cons_succ, List.getElem_cons_zero, Act.put, List.setIfInBounds_toArray, List.set_cons_zero, List.set_cons_succ])
    refine wpAnyH_take (i := 1) (oi := _) (v := ?v1) rfl (by kernel_rfl) (by kernel_rfl) (by kernel_rfl) (fun _ _ _ h => h) (Or.inl ⟨by rfl, ?hy1⟩) hHeld ?rest1
    case hy1 => (intro w hSw; (try dsimp only at hSw); go_simp; (try with_reducible rfl))
    (try simp only [List.getElem_toArray, List.getElem_cons_succ, List.getElem_cons_zero, Act.put, List.setIfInBounds_toArray, List.set_cons_zero, List.set_cons_succ])
    refine wpAnyH_take (i := 2) (oi := _) (v := ?v2) rfl (by kernel_rfl) (by kernel_rfl) (by kernel_rfl) (fun _ _ _ h => h) (Or.inl ⟨by rfl, ?hy2⟩) hHeld ?rest2
    case hy2 => (intro w hSw; (try dsimp only at hSw); go_simp; (try with_reducible rfl))
    (try simp only [List.getElem_toArray, List.getElem_cons_succ, List.getElem_cons_zero, Act.put, List.setIfInBounds_toArray, List.set_cons_zero, List.set_cons_succ])
    refine wpAnyH_take (i := 3) (oi := _) (v := ?v3) rfl (by kernel_rfl) (by kernel_rfl) (by kernel_rfl) (fun _ _ _ h => h) (Or.inl ⟨by rfl, ?hy3⟩) hHeld ?rest3
    case hy3 => (intro w hSw; (try dsimp only at hSw); go_simp; (try with_reducible rfl))
    (try simp only [List.getElem_toArray, List.getElem_cons_succ, List.getElem_cons_zero, Act.put, List.setIfInBounds_toArray, List.set_cons_zero, List.set_cons_succ])
    refine wpAnyH_ready (rs := [4]) (by kernel_rfl) (by simp) ?_
    refine AllReadyH.cons rfl (fun K hK => ?_) AllReadyH.nil
    go_simp
    refine (rbare_ok m _ _ _ hm (HOo.out.below HBs) (HRo.out.below HBs)).mono ?_; rintro e W' ⟨oR, rR, rfl, HOR, HRR, hbx⟩; replace HBs := below_of HBs hbx HBs.size; replace HOR := HOR.below hbx; replace HRR := HRR.below hbx; clear hbx
    go_wp2_with fail
    refine hK.out _ _ ⟨range_below HMo6.out.range HBs, range_below HMa6.out.range HBs⟩ (fun hHeld => ?_)
    clear hK K
    (try simp only [List.getElem_toArray, List.getElem_cons_succ, List.getElem_cons_zero, Act.put, List.setIfInBounds_toArray, List.set_cons_zero, List.set_cons_succ])
    refine wpAnyH_ready (rs := [5]) (by kernel_rfl) (by simp) ?_
    refine AllReadyH.cons rfl (fun K hK => ?_) AllReadyH.nil
    go_simp
    refine (same_ok (bareS m) (bareS m) oB rB oR rR _ HWB.out HWB.out (HX6.out.below HBs) (HY6.out.below HBs) HOR HRR).mono ?_; rw [hsm]; rintro e W' ⟨rfl, hbx⟩; replace HBs := below_of HBs hbx HBs.size; clear hbx HOR HRR
    go_wp2_with fail
    refine hK.out _ _ ⟨range_below HMo6.out.range HBs, range_below HMa6.out.range HBs⟩ (fun hHeld => ?_)
    clear hK K
    (try simp only [List.getElem_toArray, List.getElem_cons_succ, List.getElem_cons_zero, Act.put, List.setIfInBounds_toArray, List.set_cons_zero, List.set_cons_succ])
    refine wpAnyH_take (i := 6) (oi := _) (v := ?v6) rfl (by kernel_rfl) (by kernel_rfl) (by kernel_rfl) (fun _ _ _ h => h) (Or.inl ⟨by rfl, ?hy6⟩) hHeld ?rest6
    case hy6 => (intro w hSw; (try dsimp only at hSw); go_simp; (try with_reducible rfl))
    (try simp only [List.getElem_toArray, List.getElem_cons_succ, List.getElem_cons_zero, Act.put, List.setIfInBounds_toArray, List.set_cons_zero, List.set_cons_succ])
    refine wpAnyH_take (i := 7) (oi := _) (v := ?v7) rfl (by kernel_rfl) (by kernel_rfl) (by kernel_rfl) (fun _ _ _ h => h) (Or.inl ⟨by rfl, ?hy7⟩) hHeld ?rest7
    case hy7 => (intro w hSw; (try dsimp only at hSw); go_simp; (try with_reducible rfl))
    (try simp only [List.getElem_toArray, List.getElem_cons_succ, List.getElem_cons_zero, Act.put, List.setIfInBounds_toArray, List.set_cons_zero, List.set_cons_succ])
    refine wpAnyH_take (i := 8) (oi := _) (v := ?v8) rfl (by kernel_rfl) (by kernel_rfl) (by kernel_rfl) (fun _ _ _ h => h) (Or.inl ⟨by rfl, ?hy8⟩) hHeld ?rest8
    case hy8 => (intro w hSw; (try dsimp only at hSw); go_simp; (try with_reducible rfl))
    (try simp only [List.getElem_toArray, List.getElem_cons_succ, List.getElem_cons_zero, Act.put, List.setIfInBounds_toArray, List.set_cons_zero, List.set_cons_succ])
    refine wpAnyH_take (i := 10) (oi := _) (v := ?v10) rfl (by kernel_rfl) (by kernel_rfl) (by kernel_rfl) (fun _ _ _ h => h) (Or.inl ⟨by rfl, ?hy10⟩) hHeld ?rest10
    case hy10 => (intro w hSw; (try dsimp only at hSw); go_simp; (try with_reducible rfl))
    (try simp only [List.getElem_toArray, List.getElem_cons_succ, List.getElem_cons_zero, Act.put, List.setIfInBounds_toArray, List.set_cons_zero, List.set_cons_succ])
    refine wpAnyH_ready (rs := [9]) (by kernel_rfl) (by simp) ?_
    refine AllReadyH.cons rfl (fun K hK => ?_) AllReadyH.nil
    go_simp
    refine (bare_ok (bareS m) _ _ _ HWB.out (HX6.out.below HBs) (HY6.out.below HBs)).mono ?_; rw [bare_bare]; rintro e W' ⟨oC, rC, rfl, hoC, hrC, hbx⟩; replace HBs := below_of HBs hbx HBs.size; have HOC := own_bytes hoC; have HRC := own_bytes hrC; clear hbx hoC hrC
    go_wp2_with fail
    refine hK.out _ _ ⟨range_below HMo6.out.range HBs, range_below HMa6.out.range HBs⟩ (fun hHeld => ?_)
    clear hK K
    (try simp only [List.getElem_toArray, List.getElem_cons_succ, List.getElem_cons_zero, Act.put, List.setIfInBounds_toArray, List.set_cons_zero, List.set_cons_succ])
    refine wpAnyH_ready (rs := [11]) (by kernel_rfl) (by simp) ?_
    refine AllReadyH.cons rfl (fun K hK => ?_) AllReadyH.nil
    go_simp
    refine (same_ok (bareS m) (bareS m) oC rC oB rB _ HWB.out HWB.out HOC HRC (HX6.out.below HBs) (HY6.out.below HBs)).mono ?_; rw [hsm]; rintro e W' ⟨rfl, hbx⟩; replace HBs := below_of HBs hbx HBs.size; clear hbx HOC HRC
    go_wp2_with fail
    refine hK.out _ _ ⟨range_below HMo6.out.range HBs, range_below HMa6.out.range HBs⟩ (fun hHeld => ?_)
    clear hK K
    (try simp only [List.getElem_toArray, List.getElem_cons_succ, List.getElem_cons_zero, Act.put, List.setIfInBounds_toArray, List.set_cons_zero, List.set_cons_succ])
    refine wpAnyH_take (i := 12) (oi := _) (v := ?v12) rfl (by kernel_rfl) (by kernel_rfl) (by kernel_rfl) (fun _ _ _ h => h) (Or.inl ⟨by rfl, ?hy12⟩) hHeld ?rest12
    case hy12 => (intro w hSw; (try dsimp only at hSw); go_simp; (try with_reducible rfl))
    (try simp only [List.getElem_toArray, List.getElem_cons_succ, List.getElem_cons_zero, Act.put, List.setIfInBounds_toArray, List.set_cons_zero, List.set_cons_succ])
    refine wpAnyH_take (i := 13) (oi := _) (v := ?v13) rfl (by kernel_rfl) (by kernel_rfl) (by kernel_rfl) (fun _ _ _ h => h) (Or.inl ⟨by rfl, ?hy13⟩) hHeld ?rest13
    case hy13 => (intro w hSw; (try dsimp only at hSw); go_simp; (try with_reducible rfl))
    (try simp only [List.getElem_toArray, List.getElem_cons_succ, List.getElem_cons_zero, Act.put, List.setIfInBounds_toArray, List.set_cons_zero, List.set_cons_succ])
    refine wpAnyH_take (i := 14) (oi := _) (v := ?v14) rfl (by kernel_rfl) (by kernel_rfl) (by kernel_rfl) (fun _ _ _ h => h) (Or.inl ⟨by rfl, ?hy14⟩) hHeld ?rest14
    case hy14 => (intro w hSw; (try dsimp only at hSw); go_simp; (try with_reducible rfl))
    (try simp only [List.getElem_toArray, List.getElem_cons_succ, List.getElem_cons_zero, Act.put, List.setIfInBounds_toArray, List.set_cons_zero, List.set_cons_succ])
    refine wpAnyH_take (i := 15) (oi := _) (v := ?v15) rfl (by kernel_rfl) (by kernel_rfl) (by kernel_rfl) (fun _ _ _ h => h) (Or.inl ⟨by rfl, ?hy15⟩) hHeld ?rest15
    case hy15 => (intro w hSw; (try dsimp only at hSw); go_simp; (try with_reducible rfl))
    (try simp only [List.getElem_toArray, List.getElem_cons_succ, List.getElem_cons_zero, Act.put, List.setIfInBounds_toArray, List.set_cons_zero, List.set_cons_succ])
    refine wpAnyH_take (i := 16) (oi := _) (v := ?v16) rfl (by kernel_rfl) (by kernel_rfl) (by kernel_rfl) (fun _ _ _ h => h) (Or.inl ⟨by rfl, ?hy16⟩) hHeld ?rest16
    case hy16 => (intro w hSw; (try dsimp only at hSw); go_simp; (try with_reducible rfl))
    (try simp only [List.getElem_toArray, List.getElem_cons_succ, List.getElem_cons_zero, Act.put, List.setIfInBounds_toArray, List.set_cons_zero, List.set_cons_succ])
    refine wpAnyH_ready (rs := [17]) (by kernel_rfl) (by simp) ?_
    refine AllReadyH.cons rfl (fun K hK => ?_) AllReadyH.nil
    go_simp
    refine (rmay_ok (bareS m) oB rB _ HWB.out (HX6.out.below HBs) (HY6.out.below HBs)).mono ?_; rintro e W' ⟨rfl, hbx⟩; replace HBs := below_of HBs hbx HBs.size; clear hbx
    go_wp2_with fail
    refine hK.out _ _ ⟨range_below HMo6.out.range HBs, range_below HMa6.out.range HBs⟩ (fun hHeld => ?_)
    clear hK K
    (try simp only [List.getElem_toArray, List.getElem_cons_succ, List.getElem_cons_zero, Act.put, List.setIfInBounds_toArray, List.set_cons_zero, List.set_cons_succ])
    refine wpAnyH_take (i := 18) (oi := _) (v := ?v18) rfl (by kernel_rfl) (by kernel_rfl) (by kernel_rfl) (fun _ _ _ h => h) (Or.inl ⟨by rfl, ?hy18⟩) hHeld ?rest18
    case hy18 => (intro w hSw; (try dsimp only at hSw); go_simp; (try with_reducible rfl))
    (try simp only [List.getElem_toArray, List.getElem_cons_succ, List.getElem_cons_zero, Act.put, List.setIfInBounds_toArray, List.set_cons_zero, List.set_cons_succ])
    refine wpAnyH_take (i := 19) (oi := _) (v := ?v19) rfl (by kernel_rfl) (by kernel_rfl) (by kernel_rfl) (fun _ _ _ h => h) (Or.inl ⟨by rfl, ?hy19⟩) hHeld ?rest19
    case hy19 => (intro w hSw; (try dsimp only at hSw); go_simp; (try with_reducible rfl))
    (try simp only [List.getElem_toArray, List.getElem_cons_succ, List.getElem_cons_zero, Act.put, List.setIfInBounds_toArray, List.set_cons_zero, List.set_cons_succ])
    refine wpAnyH_take (i := 20) (oi := _) (v := ?v20) rfl (by kernel_rfl) (by kernel_rfl) (by kernel_rfl) (fun _ _ _ h => h) (Or.inl ⟨by rfl, ?hy20⟩) hHeld ?rest20
    case hy20 => (intro w hSw; (try dsimp only at hSw); go_simp; (try with_reducible rfl))
    (try simp only [List.getElem_toArray, List.getElem_cons_succ, List.getElem_cons_zero, Act.put, List.setIfInBounds_toArray, List.set_cons_zero, List.set_cons_succ])
    refine wpAnyH_take (i := 21) (oi := _) (v := ?v21) rfl (by kernel_rfl) (by kernel_rfl) (by kernel_rfl) (fun _ _ _ h => h) (Or.inl ⟨by rfl, ?hy21⟩) hHeld ?rest21
    case hy21 => (intro w hSw; (try dsimp only at hSw); go_simp; (try with_reducible rfl))
    (try simp only [List.getElem_toArray, List.getElem_cons_succ, List.getElem_cons_zero, Act.put, List.setIfInBounds_toArray, List.set_cons_zero, List.set_cons_succ])
    refine wpAnyH_ready (rs := [22]) (by kernel_rfl) (by simp) ?_
    refine AllReadyH.cons rfl (fun K hK => ?_) AllReadyH.nil
    go_simp
    refine (rmay_ok m (.slice Ao no co) (.slice Ar nr cr) _ hm (HOo.out.below HBs) (HRo.out.below HBs)).mono ?_; rw [hmay]; rintro e W' ⟨rfl, hbx⟩; replace HBs := below_of HBs hbx HBs.size; clear hbx
    go_wp2_with fail
    refine hK.out _ _ ⟨range_below HMo6.out.range HBs, range_below HMa6.out.range HBs⟩ (fun hHeld => ?_)
    clear hK K
    (try simp only [List.getElem_toArray, List.getElem_cons_succ, List.getElem_cons_zero, Act.put, List.setIfInBounds_toArray, List.set_cons_zero, List.set_cons_succ])
    refine wpAnyH_take (i := 23) (oi := _) (v := ?v23) rfl (by kernel_rfl) (by kernel_rfl) (by kernel_rfl) (fun _ _ _ h => h) (Or.inl ⟨by rfl, ?hy23⟩) hHeld ?rest23
    case hy23 => (intro w hSw; (try dsimp only at hSw); go_simp; (try with_reducible rfl))
    (try simp only [List.getElem_toArray, List.getElem_cons_succ, List.getElem_cons_zero, Act.put, List.setIfInBounds_toArray, List.set_cons_zero, List.set_cons_succ])
    refine wpAnyH_take (i := 24) (oi := _) (v := ?v24) rfl (by kernel_rfl) (by kernel_rfl) (by kernel_rfl) (fun _ _ _ h => h) (Or.inl ⟨by rfl, ?hy24⟩) hHeld ?rest24
    case hy24 => (intro w hSw; (try dsimp only at hSw); go_simp; (try with_reducible rfl))
    (try simp only [List.getElem_toArray, List.getElem_cons_succ, List.getElem_cons_zero, Act.put, List.setIfInBounds_toArray, List.set_cons_zero, List.set_cons_succ])
    refine wpAnyH_take (i := 25) (oi := _) (v := _) rfl (by kernel_rfl) (by kernel_rfl) (by kernel_rfl) (fun _ _ _ h => h) (Or.inr ⟨rfl, rfl⟩) hHeld ?_
    (try simp only [List.getElem_toArray, List.getElem_cons_succ, List.getElem_cons_zero, Act.put, List.setIfInBounds_toArray, List.set_cons_zero, List.set_cons_succ])
    refine wpAnyH_take (i := 26) (oi := _) (v := _) rfl (by kernel_rfl) (by kernel_rfl) (by kernel_rfl) (fun _ _ _ h => h) (Or.inr ⟨rfl, rfl⟩) hHeld ?_
    (try simp only [List.getElem_toArray, List.getElem_cons_succ, List.getElem_cons_zero, Act.put, List.setIfInBounds_toArray, List.set_cons_zero, List.set_cons_succ])
    refine wpAnyH_take (i := 27) (oi := _) (v := _) rfl (by kernel_rfl) (by kernel_rfl) (by kernel_rfl) (fun _ _ _ h => h) (Or.inr ⟨rfl, rfl⟩) hHeld ?_
    (try simp only [List.getElem_toArray, List.getElem_cons_succ, List.getElem_cons_zero, Act.put, List.setIfInBounds_toArray, List.set_cons_zero, List.set_cons_succ])
    refine wpAnyH_take (i := 28) (oi := _) (v := ?v28) rfl (by kernel_rfl) (by kernel_rfl) (by kernel_rfl) (fun _ _ _ h => h) (Or.inl ⟨by rfl, ?hy28⟩) hHeld ?rest28
    case hy28 => (intro w hSw; (try dsimp only at hSw); go_simp; (try with_reducible rfl))
    (try simp only [List.getElem_toArray, List.getElem_cons_succ, List.getElem_cons_zero, Act.put, List.setIfInBounds_toArray, List.set_cons_zero, List.set_cons_succ])
    refine wpAnyH_take (i := 29) (oi := _) (v := ?v29) rfl (by kernel_rfl) (by kernel_rfl) (by kernel_rfl) (fun _ _ _ h => h) (Or.inl ⟨by rfl, ?hy29⟩) hHeld ?rest29
    case hy29 => (intro w hSw; (try dsimp only at hSw); go_simp; (try with_reducible rfl))
    (try simp only [List.getElem_toArray, List.getElem_cons_succ, List.getElem_cons_zero, Act.put, List.setIfInBounds_toArray, List.set_cons_zero, List.set_cons_succ])
    refine wpAnyH_take (i := 30) (oi := _) (v := ?v30) rfl (by kernel_rfl) (by kernel_rfl) (by kernel_rfl) (fun _ _ _ h => h) (Or.inl ⟨by rfl, ?hy30⟩) hHeld ?rest30
    case hy30 => (intro w hSw; (try dsimp only at hSw); go_simp; (try with_reducible rfl))
    (try simp only [List.getElem_toArray, List.getElem_cons_succ, List.getElem_cons_zero, Act.put, List.setIfInBounds_toArray, List.set_cons_zero, List.set_cons_succ])
    refine wpAnyH_done (by kernel_rfl) ?_ _
    have HBn := below_of HB6.out HBs (by omega)
    clear hL1 hL2 hsm
    go_wp2_with fail
    go_ret
    exact ⟨rfl, HBn⟩
  · go_region_held3 (fun W => W.rangeAt W2.heap.size 0 (mcl (bareS m) oB rB) ∧ W.rangeAt w.heap.size 0 (mcl m (.slice Ao no co) (.slice Ar nr cr)))
      (first | exact ⟨range_below HMo6.out.range HBs, range_below HMa6.out.range HBs⟩)
      (first | (go_at_call 11; refine (lives_ok _).mono ?_; rintro e W' ⟨rfl, hbx⟩; replace HBs := below_of HBs hbx HBs.size; clear hbx) | (go_at_call 17; have b1 : Bytes _ oB (bareS m).onion := HX6.out.below HBs; have b2 : Bytes _ rB (bareS m).reason := HY6.out.below HBs; (with_reducible refine (rmay_ok (bareS m) oB rB _ HWB.out b1 b2).mono ?_); clear b1 b2; rintro e W' ⟨rfl, hbx⟩; replace HBs := below_of HBs hbx HBs.size; clear hbx) | (go_at_call 17; have b1 : Bytes _ (.slice Ao no co) m.onion := HOo.out.below HBs; have b2 : Bytes _ (.slice Ar nr cr) m.reason := HRo.out.below HBs; (with_reducible refine (rmay_ok m (.slice Ao no co) (.slice Ar nr cr) _ hm b1 b2).mono ?_); rw [hmay]; clear b1 b2; rintro e W' ⟨rfl, hbx⟩; replace HBs := below_of HBs hbx HBs.size; clear hbx) | (go_at_call 19; refine (rbare_ok m _ _ _ hm (HOo.out.below HBs) (HRo.out.below HBs)).mono ?_; rintro e W' ⟨oR, rR, rfl, HOR, HRR, hbx⟩; replace HBs := below_of HBs hbx HBs.size; replace HOR := HOR.below hbx; replace HRR := HRR.below hbx; clear hbx) | (go_at_call 18; refine (bare_ok (bareS m) _ _ _ HWB.out (HX6.out.below HBs) (HY6.out.below HBs)).mono ?_; rw [bare_bare]; rintro e W' ⟨oC, rC, rfl, hoC, hrC, hbx⟩; replace HBs := below_of HBs hbx HBs.size; have HOC := own_bytes hoC; have HRC := own_bytes hrC; clear hbx hoC hrC) | (go_at_call 12; have b1 : Bytes _ oB (bareS m).onion := HX6.out.below HBs; have b2 : Bytes _ rB (bareS m).reason := HY6.out.below HBs; have b3 : Bytes _ oR (bareS m).onion := HOR; have b4 : Bytes _ rR (bareS m).reason := HRR; (with_reducible refine (same_ok (bareS m) (bareS m) oB rB oR rR _ HWB.out HWB.out b1 b2 b3 b4).mono ?_); clear b1 b2 b3 b4; rw [hsm]; rintro e W' ⟨rfl, hbx⟩; replace HBs := below_of HBs hbx HBs.size; clear hbx HOR HRR) | (go_at_call 12; have b1 : Bytes _ oC (bareS m).onion := HOC; have b2 : Bytes _ rC (bareS m).reason := HRC; have b3 : Bytes _ oB (bareS m).onion := HX6.out.below HBs; have b4 : Bytes _ rB (bareS m).reason := HY6.out.below HBs; (with_reducible refine (same_ok (bareS m) (bareS m) oC rC oB rB _ HWB.out HWB.out b1 b2 b3 b4).mono ?_); clear b1 b2 b3 b4; rw [hsm]; rintro e W' ⟨rfl, hbx⟩; replace HBs := below_of HBs hbx HBs.size; clear hbx HOC HRC) | (go_at_call 12; have b1 : Bytes _ oB (bareS m).onion := HX6.out.below HBs; have b2 : Bytes _ rB (bareS m).reason := HY6.out.below HBs; have b3 : Bytes _ (.slice Ao no co) m.onion := HOo.out.below HBs; have b4 : Bytes _ (.slice Ar nr cr) m.reason := HRo.out.below HBs; (with_reducible refine (same_ok (bareS m) m oB rB (.slice Ao no co) (.slice Ar nr cr) _ HWB.out hm b1 b2 b3 b4).mono ?_); clear b1 b2 b3 b4; rw [hsbm]; rintro e W' ⟨rfl, hbx⟩; replace HBs := below_of HBs hbx HBs.size; clear hbx))
    all_goals
      have HBn := below_of HB6.out HBs (by omega)
      clear hL1 hL2 hsm
      go_wp2_with fail
      go_ret
      exact ⟨rfl, HBn⟩
theorem wireBare_row {H : Type} {enc : TypeId × Value → H} (c : Array Value) (w : World) (g : Good enc Try.prog w 25 (Value.agg c).cells.toList) :
    Calls Try.prog 8 #[.agg c] w fun e w' => e = .returned (.bool true) ∧ Below w.heap.size w w' := by
  obtain ⟨m, o, r, e, hm, ho, hr⟩ := open_msg g
  obtain rfl : c = mc m o r := by
    apply Array.toList_inj.1
    rw [show c.toList = _ from e]; rfl
  exact wireBare_walk m o r w hm ho hr
end Go.Proofs.Ytdohenfbehpplaa
