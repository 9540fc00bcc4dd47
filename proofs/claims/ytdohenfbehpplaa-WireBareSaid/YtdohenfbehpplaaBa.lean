/- Lemmas for this seat's claims, joined by a program of mine out of: Base, Read, Recs, Msg, Chain, Same, Msg2, Msg3, Copied, Fields, Quiet, Plain1, Big1, Big2, Big3, Big4, Big5, Arms, Bare. -/
import Derived.WalkKit
import Derived.WalkSpells
import Derived.WalkLawsBesides
import Derived.Deep.LoopGhost
import Derived.Deep.QuietTactic
import Derived.BigQuiet
import Derived.Lib.Hide
import Derived.Deep.RegionHeld3
import Derived.Laws.OwnMore
import Derived.Lib.AppendStr
import Derived.Maps.AppendAt
import Derived.Lib.AppendZeros
import Derived.Lib.AppendZerosOnto
import Derived.KernelRfl
import Derived.ProofKit
import Derived.SizedLaws
import Derived.OpenShut
import Derived.Deep.MidRow
import Derived.Stop.BytesEq
import Derived.Test.YtdohenfbehpplaaProg
import Derived.Deep.WholeRow
import Derived.Laws.IdiomCopy
import Derived.Lib.LazyBuf
import Derived.Laws.ResultCell
import Derived.Tactics2
/- Words shared by this seat's proofs: slices that are read, small facts on worlds, hiding. No program in sight. -/
namespace Go.Proofs.Ytdohenfbehpplaa
set_option linter.unusedVariables false
set_option linter.unusedSimpArgs false
open Go.RowKit

def bv (b : UInt8) : Value := .int .u8 (b.toNat : Int)
def bvs (l : List UInt8) : List Value := l.map bv
theorem bvs_length (l : List UInt8) : (bvs l).length = l.length := by simp [bvs]
theorem bvs_append (l m : List UInt8) : bvs (l ++ m) = bvs l ++ bvs m := by simp [bvs]

/-- v is a slice of elements of sz cells each, whose cells read as vs. -/
def Rd (w : World) (v : Value) (sz : Nat) (vs : List Value) : Prop :=
  ∃ A n c, v = .slice A n c ∧ vs.length = n * sz ∧ n ≤ c ∧ c ≤ 9223372036854775807 ∧
    (A = none → c = 0) ∧
    (0 < n → ∃ b off, A = some ⟨b, off, none⟩ ∧ ∀ j u, vs[j]? = some u → w.cell? ⟨b, off + j, none⟩ = some u)
def Bytes (w : World) (v : Value) (l : List UInt8) : Prop := Rd w v 1 (bvs l)

theorem Rd.below {w w' : World} {v : Value} {sz : Nat} {vs : List Value} (h : Rd w v sz vs) (hb : Below w.heap.size w w') : Rd w' v sz vs := by
  obtain ⟨A, n, c, e, hl, h1, h2, h4, h3⟩ := h
  refine ⟨A, n, c, e, hl, h1, h2, h4, fun hn => ?_⟩
  obtain ⟨b, off, ea, hc⟩ := h3 hn
  refine ⟨b, off, ea, fun j u hu => ?_⟩
  have := hc j u hu
  exact (hb.cell (World.block_lt_of_cell? w _ this)).trans this

/-- What an empty or other slice of bytes is, opened. -/
theorem Bytes.open {w : World} {v : Value} {l : List UInt8} (h : Bytes w v l) :
    (l = [] ∧ ∃ A c, v = .slice A 0 c ∧ c ≤ 9223372036854775807 ∧ (A = none → c = 0)) ∨
    (0 < l.length ∧ ∃ b off c, v = .slice (some ⟨b, off, none⟩) l.length c ∧ l.length ≤ c ∧ c ≤ 9223372036854775807 ∧ ∀ j (hj : j < l.length), w.cell? ⟨b, off + j, none⟩ = some (bv l[j])) := by
  obtain ⟨A, n, c, e, hl, h1, h2, h4, h3⟩ := h
  have hn : n = l.length := by simpa [bvs] using hl.symm
  subst hn
  rcases Nat.eq_zero_or_pos l.length with h0 | h0
  · exact .inl ⟨List.eq_nil_of_length_eq_zero h0, A, c, by rw [e, h0], h2, h4⟩
  · obtain ⟨b, off, ea, hc⟩ := h3 h0
    exact .inr ⟨h0, b, off, c, by rw [e, ea], h1, h2, fun j hj => hc j _ (by simp [bvs, hj])⟩

theorem Bytes.mk {w : World} {b off n c : Nat} {l : List UInt8} (hn : l.length = n) (h1 : n ≤ c) (h2 : c ≤ 9223372036854775807)
    (hc : ∀ j (hj : j < l.length), w.cell? ⟨b, off + j, none⟩ = some (bv l[j])) : Bytes w (.slice (some ⟨b, off, none⟩) n c) l := by
  refine ⟨_, n, c, rfl, by simp [bvs, hn], h1, h2, (fun h => by cases h), fun _ => ⟨b, off, rfl, fun j u hu => ?_⟩⟩
  simp only [bvs, List.getElem?_map, Option.map_eq_some_iff] at hu
  obtain ⟨x, hx, rfl⟩ := hu
  obtain ⟨hj, rfl⟩ := List.getElem?_eq_some_iff.1 hx
  exact hc j hj
theorem Bytes.nil {w : World} {A : Option Addr} {c : Nat} (h2 : c ≤ 9223372036854775807) (h4 : A = none → c = 0) : Bytes w (.slice A 0 c) [] :=
  ⟨A, 0, c, rfl, by simp [bvs], Nat.zero_le _, h2, h4, fun h => absurd h (by omega)⟩


theorem wrap_u64_nat (n : Nat) (h : n < 18446744073709551616) : IntKind.u64.wrap (n : Int) = n := by
  unfold IntKind.wrap IntKind.bits IntKind.signed; simp; omega
theorem or_step (x : Nat) (c : UInt8) (h : x < 72057594037927936) : bits BinOp.or IntKind.u64 (IntKind.u64.wrap ((x : Int) * 256)) (IntKind.u64.wrap (c.toNat : Int)) = ((x * 256 + c.toNat : Nat) : Int) := by
  have hc := c.toNat_lt
  have e1 : IntKind.u64.wrap ((x : Int) * 256) = ((x * 256 : Nat) : Int) := by
    rw [show ((x : Int) * 256) = ((x * 256 : Nat) : Int) by omega]; exact wrap_u64_nat _ (by omega)
  have e2 : IntKind.u64.wrap (c.toNat : Int) = (c.toNat : Int) := wrap_u64_nat _ (by omega)
  have e3 : x * 256 ||| c.toNat = x * 256 + c.toNat := by
    have := Nat.shiftLeft_add_eq_or_of_lt (i := 8) (b := c.toNat) (by omega) x
    rw [Nat.shiftLeft_eq] at this; simpa using this.symm
  rw [e1, e2]
  show IntKind.u64.wrap ((BitVec.ofInt 64 ((x * 256 : Nat) : Int) ||| BitVec.ofInt 64 ((c.toNat : Nat) : Int)).toNat : Int) = _
  rw [BitVec.toNat_or, BitVec.ofInt_natCast, BitVec.ofInt_natCast, BitVec.toNat_ofNat, BitVec.toNat_ofNat, Nat.mod_eq_of_lt (by omega), Nat.mod_eq_of_lt (by omega), e3]
  exact wrap_u64_nat _ (by omega)
theorem or_step2 (x : Nat) (c : UInt8) (h : x < 72057594037927936) : bits BinOp.or IntKind.u64 ((x : Int) * 256) (IntKind.u64.wrap (c.toNat : Int)) = ((x * 256 + c.toNat : Nat) : Int) := by
  rw [← or_step x c h]; congr 1; rw [show ((x : Int) * 256) = ((x * 256 : Nat) : Int) by omega]; exact (wrap_u64_nat _ (by omega)).symm


/-! ### rows of one's own -/
theorem add_plain (g j : Nat) : (⟨g, 0, none⟩ : Addr).add j = ⟨g, j, none⟩ := by unfold Addr.add; split <;> simp_all
theorem add_off (b off j : Nat) : (⟨b, off, none⟩ : Addr).add j = ⟨b, off + j, none⟩ := by unfold Addr.add; split <;> simp_all

theorem own_rd {w : World} {base n : Nat} {e : TypeId} {sz : Nat} {v : Value} {xs : List Value} (h : w.ownsRow base e sz v n xs) : Rd w v sz xs := by
  have hl := h.1
  rcases h.2 with ⟨rfl, rfl⟩ | ⟨g, cap, cur, rfl, hb, hh, h1, h2, h3, h4⟩
  · exact ⟨none, 0, 0, rfl, by simpa using hl, Nat.le_refl _, by omega, fun _ => rfl, fun h => absurd h (by omega)⟩
  · refine ⟨_, n, cap, rfl, hl, h1, by simpa [maxLen] using h2, (fun h => by cases h), fun _ => ⟨g, 0, rfl, fun j u hu => ?_⟩⟩
    have := h.cells (g := g) rfl j u hu
    rw [add_plain] at this
    rwa [Nat.zero_add]
theorem own_bytes {w : World} {base n : Nat} {e : TypeId} {v : Value} {l : List UInt8} (h : w.ownsRow base e 1 v n (bvs l)) : Bytes w v l := own_rd h
theorem own_len {w : World} {base n : Nat} {e : TypeId} {v : Value} {l : List UInt8} (h : w.ownsRow base e 1 v n (bvs l)) : n = l.length := by
  have := h.1; simpa [bvs] using this.symm
theorem grown_of_below {w w1 : World} (h : Below w.heap.size w w1) (row : Option Nat) : w.grownBy w1 row := ⟨h.os, h.tape, h.output, h.size, fun i hi _ => h.block i hi⟩
theorem own_below {w w1 : World} {base : Nat} {e : TypeId} {size n : Nat} {v : Value} {xs : List Value} (h : w.ownsRow base e size v n xs) (hb : Below w.heap.size w w1) : w1.ownsRow base e size v n xs :=
  h.kept (grown_of_below hb none) (by cases v.ownBlock <;> simp)
theorem own_lower {w : World} {base base' : Nat} {e : TypeId} {size n : Nat} {v : Value} {xs : List Value} (h : w.ownsRow base e size v n xs) (hb : base' ≤ base) : w.ownsRow base' e size v n xs :=
  ⟨h.1, h.2.imp id fun ⟨g, cap, cur, e1, e2, r⟩ => ⟨g, cap, cur, e1, Nat.le_trans hb e2, r⟩⟩
theorem own_base {w : World} {base : Nat} {e : TypeId} {size n : Nat} {v : Value} {xs : List Value} (h : w.ownsRow base e size v n xs) (k : Nat) (hk : v.ownBlock = some k) : base ≤ k := (h.lt k hk).1
theorem below_of {B : Nat} {w W W' : World} (h : Below B w W) (k : Below W.heap.size W W') (hB : B ≤ W.heap.size) : Below B w W' := h.trans (k.mono hB)

/-- append(v, x...), v a row of one's own, x whatever can be read. -/
theorem run_append_any {P : Program} {w : World} (base : Nat) (t ty e : TypeId) {z : Value} {sz bytes : Nat} (ht : P.underlying t = some (.slice e)) (hinfo : (P.info? e).map (fun i => (i.zero, i.size, i.bytes)) = some (some z, sz, bytes)) (hzs : z.cells.size = sz) (hsz : 0 < sz)
    (v : Value) (n : Nat) (xs : List Value) (hown : w.ownsRow base e sz v n xs) (x : Value) (m : Nat) (ys : List Value) (hx : Rd w x sz ys) (hm : ys.length = m * sz) (h1 : ∀ u ∈ ys, u.oneCell' = true)
    (hbytes : (n + m) * bytes ≤ 140737488355328) (hb0 : 0 < bytes) (hbase : base ≤ w.heap.size) :
    ∃ v' w', (Builtin.append_ #[t, t] ty #[v, x]).run P w = .ok v' w' ∧ w'.ownsRow base e sz v' (n + m) (xs ++ ys) ∧ w.grownBy w' v.ownBlock ∧ (v'.ownBlock = v.ownBlock ∨ v'.ownBlock = some w.heap.size) := by
  obtain ⟨i0, hi, hzz⟩ := Option.map_eq_some_iff.1 hinfo
  simp only [Prod.mk.injEq] at hzz
  obtain ⟨hz0, hz1, hz2⟩ := hzz
  obtain ⟨A, k, c, rfl, hl, hkc, hcm, hA, hcells⟩ := hx
  have hk : k = m := Nat.eq_of_mul_eq_mul_right hsz (hl.symm.trans hm)
  subst hk
  have hlen : n + k ≤ 140737488355328 := Nat.le_trans (Nat.le_mul_of_pos_right _ hb0) hbytes
  cases A with
  | none =>
    obtain rfl := hA rfl
    obtain rfl : k = 0 := by omega
    obtain rfl : ys = [] := List.eq_nil_of_length_eq_zero (by simpa using hl)
    have hr := run_append_owned_none (P := P) (w := w) base t ty e i0 sz ht hi v n xs hown
    exact ⟨v, w, hr, by simpa using hown, grown_of_below (Below.refl _ _) _, .inl rfl⟩
  | some ad =>
    have hnews : ∀ j u, ys[j]? = some u → w.cell? (ad.add j) = some u := by
      intro j u hu
      have hk0 : 0 < k := by
        rcases Nat.eq_zero_or_pos k with h0 | h0
        · subst h0
          obtain rfl : ys = [] := List.eq_nil_of_length_eq_zero (by simpa using hl)
          simp at hu
        · exact h0
      obtain ⟨b, off, e1, hc⟩ := hcells hk0
      obtain rfl := Option.some.inj e1
      rw [add_off]
      exact hc j u hu
    obtain ⟨v', w', hr, ho, hg, _, hat⟩ := run_append_own_at (P := P) (w := w) base t ty e i0 z sz bytes ht hi hz0 hz1 hz2 hzs hsz v n xs hown ad k c ys hl hnews h1 (by simp only [maxLen]; omega) hbytes hbase
    exact ⟨v', w', hr, ho, hg, hat⟩

theorem bvs_one (l : List UInt8) : ∀ u ∈ bvs l, u.oneCell' = true := by
  intro u hu
  simp only [bvs, List.mem_map] at hu
  obtain ⟨b, _, rfl⟩ := hu
  rfl
/-- The same for bytes. -/
theorem run_append_bytes {P : Program} {w : World} (base : Nat) (t ty e : TypeId) (ht : P.underlying t = some (.slice e)) (hinfo : (P.info? e).map (fun i => (i.zero, i.size, i.bytes)) = some (some (.int .u8 0), 1, 1))
    (v : Value) (xs : List UInt8) (hown : w.ownsRow base e 1 v xs.length (bvs xs)) (x : Value) (ys : List UInt8) (hx : Bytes w x ys)
    (hbytes : xs.length + ys.length ≤ 140737488355328) (hbase : base ≤ w.heap.size) :
    ∃ v' w', (Builtin.append_ #[t, t] ty #[v, x]).run P w = .ok v' w' ∧ w'.ownsRow base e 1 v' (xs ++ ys).length (bvs (xs ++ ys)) ∧ w.grownBy w' v.ownBlock ∧ (v'.ownBlock = v.ownBlock ∨ v'.ownBlock = some w.heap.size) := by
  obtain ⟨v', w', hr, ho, hg, hat⟩ := run_append_any (P := P) (w := w) base t ty e (z := .int .u8 0) (sz := 1) (bytes := 1) ht hinfo rfl (by omega) v xs.length (bvs xs) hown x ys.length (bvs ys) hx (by simp [bvs]) (bvs_one _) (by simpa using hbytes) (by omega) hbase
  exact ⟨v', w', hr, by rw [bvs_append, List.length_append]; exact ho, hg, hat⟩
/-- Behind an append that starts at the caller's world or later. -/
theorem below_append {B : Nat} {w W W' : World} {base : Nat} {e : TypeId} {sz n : Nat} {v : Value} {xs : List Value} (h : Below B w W) (hown : W.ownsRow base e sz v n xs) (hg : W.grownBy W' v.ownBlock) (hB : B ≤ W.heap.size) (hb : B ≤ base) : Below B w W' :=
  h.grown hg hB fun k hk => Nat.le_trans hb (own_base hown k hk)


section
variable {P : Program} {ops : Array Oper} {rest : List Oper} {a : Act} {Q : Exit → Act → World → Prop} {W : World} {ty : TypeId} {pos : String} {after : Array Edge}
theorem wl_run (d : Tmp) (s x : Operand) (t tn : TypeId) (vs vx : Value) (hs : a.eval s = vs) (hx : a.eval x = vx) (v' : Value) (w' : World) (hr : (Builtin.append_ #[t, tn] ty #[vs, vx]).run P W = .ok v' w')
    (h : wpList P ops Q rest (a.put (some d) v') w') :
    wpList P ops Q ({ dst := some d, op := .call { callee := .builtin .append, args := #[s, x], argTypes := #[t, tn] }, type := ty, pos := pos, after := after, guard := none } :: rest) a W :=
  Lib.wpList_append_run W rfl s x t tn rfl vs vx hs hx v' w' hr h
/-- append(v, x...) of bytes, at slot d. -/
theorem wl_app (d : Tmp) (s x : Operand) (t e : TypeId) (ht : P.underlying t = some (.slice e)) (hinfo : (P.info? e).map (fun i => (i.zero, i.size, i.bytes)) = some (some (.int .u8 0), 1, 1))
    (base : Nat) (v : Value) (xs : List UInt8) (hs : a.eval s = v) (hown : W.ownsRow base e 1 v xs.length (bvs xs)) (xv : Value) (ys : List UInt8) (hx : a.eval x = xv) (hr : Bytes W xv ys)
    (hbytes : xs.length + ys.length ≤ 140737488355328) (hbase : base ≤ W.heap.size)
    (h : ∀ v' w', w'.ownsRow base e 1 v' (xs ++ ys).length (bvs (xs ++ ys)) → W.grownBy w' v.ownBlock → (v'.ownBlock = v.ownBlock ∨ v'.ownBlock = some W.heap.size) → wpList P ops Q rest (a.put (some d) v') w') :
    wpList P ops Q ({ dst := some d, op := .call { callee := .builtin .append, args := #[s, x], argTypes := #[t, t] }, type := ty, pos := pos, after := after, guard := none } :: rest) a W := by
  obtain ⟨v', w', hr, ho, hg, hat⟩ := run_append_bytes (P := P) (w := W) base t ty e ht hinfo v xs hown xv ys hr hbytes hbase
  exact wl_run d s x t t v xv hs hx v' w' hr (h v' w' ho hg hat)
end
/-- An empty literal, a literal of bytes. -/
theorem own_lit (W : World) (base : Nat) (e : TypeId) (l : List UInt8) (n : Nat) (hn : l.length = n) (hb : base ≤ W.heap.size) (hm : n ≤ 9223372036854775807) :
    (W.alloc (.cells (bvs l).toArray e)).ownsRow base e 1 (.slice (some ⟨W.heap.size, 0, none⟩) n n) l.length (bvs l) := by
  subst hn
  have h := World.ownsRow_lit (base := base) (e := e) (size := 1) W (bvs l).toArray l.length hb (by simpa [maxLen] using hm) (by simp [bvs])
  simpa using h
end Go.Proofs.Ytdohenfbehpplaa
/- Arguments, opened: what is read of values in memory; no part of it beyond the form's own reach. -/
namespace Go.Proofs.Ytdohenfbehpplaa
set_option linter.unusedVariables false
set_option linter.unusedSimpArgs false
open Go.RowKit
section
variable {H : Type} {enc : TypeId × Value → H} {P : Program} {w : World} {t e : TypeId} {cs : List Value}
/-- cs reads as data of type t, no part of it beyond the reach. -/
def Good (enc : TypeId × Value → H) (P : Program) (w : World) (t : TypeId) (cs : List Value) : Prop :=
  ∃ (fuel : Nat) (x : DataW H × List MemPlace), DataW.trod enc P w 0 (fun _ => true) true fuel t cs = some x ∧ ∀ n ∈ DataW.weights P t x.1, n ≤ reachBytes
theorem good_arg {ts : List TypeId} {ds : List (DataW H)} {j : Nat} {v : Value} {d : DataW H} {p : List MemPlace} (hs : (DataW.weightsEach P ts ds).all (· ≤ reachBytes) = true) (ht : ts[j]? = some t) (hd : ds[j]? = some d)
    (h : DataW.Trod enc P w 0 (fun _ => true) true t v d p) : Good enc P w t v.cells.toList := by
  obtain ⟨f, hf⟩ := h
  refine ⟨f, _, hf, fun n hn => ?_⟩
  have := List.all_eq_true.1 hs _ (DataW.weights_mem_each ht hd n hn)
  simpa using this
theorem Good.int {k : IntKind} (h : Good enc P w t cs) (ht : P.underlying t = some (.int k)) : ∃ n, cs = [.int k n] ∧ (Lit.int k n).wf = true := by
  obtain ⟨f, x, hx, _⟩ := h
  obtain ⟨n, h1, _, h2⟩ := DataW.trod_int ht hx
  exact ⟨n, h1, h2⟩
theorem Good.bool (h : Good enc P w t cs) (ht : P.underlying t = some .bool) : ∃ b, cs = [.bool b] := by
  obtain ⟨f, x, hx, _⟩ := h
  obtain ⟨b, h1, _⟩ := DataW.trod_bool ht hx
  exact ⟨b, h1⟩
theorem Good.string (h : Good enc P w t cs) (ht : P.underlying t = some .string) : ∃ s : ByteArray, cs = [.string s] ∧ s.size ≤ 140737488351232 := by
  obtain ⟨f, x, hx, hw⟩ := h
  obtain ⟨s, h1, rfl, _⟩ := DataW.trod_string ht hx
  refine ⟨s, h1, ?_⟩
  have := hw _ (by simp [DataW.weights]; rfl)
  simpa [reachBytes] using this
theorem weights_all {d : DataW H} {ds : List (DataW H)} (h : d ∈ ds) : ∀ n ∈ d.weights P e, n ∈ DataW.weightsAll P e ds := by
  induction ds with
  | nil => cases h
  | cons x r ih =>
    intro n hn
    simp only [DataW.weightsAll, List.mem_append]
    rcases List.mem_cons.1 h with rfl | h
    · exact .inl hn
    · exact .inr (ih h n hn)
/-- A struct: its fields. -/
theorem Good.struct {fs : Array Field} (h : Good enc P w t cs) (ht : P.underlying t = some (.struct fs)) : cs.length = P.cellsOf t ∧ ∀ (i : Nat) (f : Field), fs[i]? = some f → Good enc P w f.type ((cs.drop f.offset).take (P.cellsOf f.type)) := by
  obtain ⟨fuel, x, hx, hw⟩ := h
  obtain ⟨xs, n, _, rfl, hl, hlen, hf⟩ := DataW.trod_struct ht hx
  refine ⟨hl, fun i f hi => ?_⟩
  have h1 := hf i f hi
  have hi' : i < xs.length := by
    have := (Array.getElem?_eq_some_iff.1 hi).1
    omega
  rw [List.getElem?_eq_getElem hi'] at h1
  refine ⟨n, _, h1, fun m hm => hw m ?_⟩
  simp only [DataW.weights, ht]
  exact DataW.weights_mem_each (j := i) (t := f.type) (d := xs[i].1) (by simp only [List.getElem?_map, Array.getElem?_toList, hi]; rfl) (by simp [hi']) m hm
/-- An array: its elements. -/
theorem Good.array {k : Nat} (h : Good enc P w t cs) (ht : P.underlying t = some (.array k e)) : cs.length = P.cellsOf t ∧ ∀ i, i < k → Good enc P w e ((cs.drop (i * P.cellsOf e)).take (P.cellsOf e)) := by
  obtain ⟨fuel, x, hx, hw⟩ := h
  obtain ⟨xs, n, _, rfl, hl, hlen, hf⟩ := DataW.trod_array ht hx
  refine ⟨hl, fun i hi => ?_⟩
  have h1 := hf i hi
  rw [List.getElem?_eq_getElem (by omega)] at h1
  refine ⟨n, _, h1, fun m hm => hw m ?_⟩
  simp only [DataW.weights, ht]
  exact weights_all (List.mem_map.2 ⟨xs[i], List.getElem_mem _, rfl⟩) m hm
/-- A slice: where it lies, and its elements. -/
theorem Good.slice (h : Good enc P w t cs) (ht : P.underlying t = some (.slice e)) (hc : 0 < P.cellsOf e) :
    ∃ A n c, cs = [.slice A n c] ∧ n ≤ c ∧ c ≤ 9223372036854775807 ∧ (A = none → n = 0 ∧ c = 0) ∧ n * P.bytesOf e ≤ 140737488351232 ∧
      (0 < n → ∃ b off, A = some ⟨b, off, none⟩ ∧ ∀ i, i < n → ∃ es : List Value, es.length = P.cellsOf e ∧ (∀ j u, es[j]? = some u → w.cell? ⟨b, off + (i * P.cellsOf e + j), none⟩ = some u) ∧ Good enc P w e es) := by
  obtain ⟨fuel, x, hx, hw⟩ := h
  rcases DataW.trod_slice ht hx with ⟨rfl, rfl⟩ | ⟨a, len, cap, elems, rest, n, _, rfl, rfl, hb, hl, hm, hlen, hel, hsp, hns⟩
  · exact ⟨none, 0, 0, rfl, Nat.le_refl _, by omega, fun _ => ⟨rfl, rfl⟩, by simp, fun h => absurd h (by omega)⟩
  have hbytes := hw ((elems.length + rest.length) * P.bytesOf e) (by simp [DataW.weights, ht])
  have hwe : ∀ i (hi : i < elems.length), ∀ m ∈ elems[i].1.weights P e, m ≤ reachBytes := fun i hi m hm => hw m (by
    simp only [DataW.weights, ht, List.mem_cons, List.mem_append]
    exact .inr (.inl (weights_all (List.mem_map.2 ⟨elems[i], List.getElem_mem _, rfl⟩) m hm)))
  have each : ∀ i, i < len → ∃ es : List Value, es.length = P.cellsOf e ∧ (∀ j u, es[j]? = some u → w.cell? ((a.add (i * P.cellsOf e)).add j) = some u) ∧ Good enc P w e es := by
    intro i hi
    have h1 := hel i hi
    rw [List.getElem?_eq_getElem (by omega), Option.bind_eq_some_iff] at h1
    obtain ⟨es, he, hd⟩ := h1
    unfold World.cells? at he
    split at he
    · have hlen' := mapM_some_length he
      refine ⟨es, by simpa using hlen', fun j u hu => ?_, n, _, hd, hwe i (by omega)⟩
      have hj : j < P.cellsOf e := by
        have := (List.getElem?_eq_some_iff.1 hu).1
        rw [hlen'] at this; simpa using this
      have := mapM_some_get he j j (by simp [hj])
      rw [this, hu]
    · cases he
  refine ⟨some a, len, cap, rfl, hl, by simpa [maxLen] using hm, (fun h => by cases h), ?_, fun h0 => ?_⟩
  · refine Nat.le_trans (Nat.mul_le_mul_right _ ?_) (by simpa [reachBytes] using hbytes)
    omega
  · obtain ⟨b, off, hn⟩ : ∃ b off, a = ⟨b, off, none⟩ := by
      obtain ⟨es, h1, h2, _⟩ := each 0 h0
      have := h2 0 es[0] (by simp)
      rw [Nat.zero_mul] at this
      obtain ⟨b, off, s⟩ := a
      have hspot : s = none := by simpa [Addr.add] using World.cell?_spot this
      exact ⟨b, off, by rw [hspot]⟩
    refine ⟨b, off, by rw [hn], fun i hi => ?_⟩
    obtain ⟨es, h1, h2, h3⟩ := each i hi
    refine ⟨es, h1, fun j u hu => ?_, h3⟩
    have := h2 j u hu
    rw [hn, add_off, add_off, Nat.add_assoc] at this
    exact this
theorem u8_of {n : Int} (h : (Lit.int .u8 n).wf = true) : Value.int .u8 n = bv (UInt8.ofNat n.toNat) := by
  obtain ⟨h1, h2⟩ := bounds_u8 h
  unfold bv
  congr 1
  rw [UInt8.toNat_ofNat']
  omega
/-- An array of bytes. -/
theorem Good.bytesN {k : Nat} (h : Good enc P w t cs) (ht : P.underlying t = some (.array k e)) (he : P.underlying e = some (.int .u8)) (hc : P.cellsOf e = 1) (hct : P.cellsOf t = k) : ∃ l : List UInt8, cs = bvs l ∧ l.length = k := by
  obtain ⟨hl, hi⟩ := h.array ht
  rw [hct] at hl
  have key : ∀ i (h : i < cs.length), ∃ b : UInt8, cs[i] = bv b := by
    intro i h
    have := hi i (by omega)
    rw [hc, Nat.mul_one] at this
    obtain ⟨n, h1, h2⟩ := this.int he
    have e1 : (cs.drop i).take 1 = [cs[i]] := by
      rw [List.drop_eq_getElem_cons h]; rfl
    rw [e1] at h1
    simp only [List.cons.injEq, and_true] at h1
    exact ⟨_, h1.trans (u8_of h2)⟩
  clear hi
  induction cs generalizing k with
  | nil => exact ⟨[], rfl, by simpa using hl⟩
  | cons c cs ih =>
    obtain ⟨b, hb⟩ := key 0 (by simp)
    obtain ⟨l, hl', hk⟩ : ∃ l : List UInt8, cs = bvs l ∧ l.length = cs.length := by
      clear ih
      have key' : ∀ i (h : i < cs.length), ∃ b : UInt8, cs[i] = bv b := fun i h => by have := key (i + 1) (by simpa using h); rwa [List.getElem_cons_succ] at this
      clear key hl hb h
      induction cs with
      | nil => exact ⟨[], rfl, rfl⟩
      | cons d ds ih2 =>
        obtain ⟨b', hb'⟩ := key' 0 (by simp)
        obtain ⟨l', h1, h2⟩ := ih2 (fun i h => by have := key' (i + 1) (by simpa using h); rwa [List.getElem_cons_succ] at this)
        refine ⟨b' :: l', ?_, by simp [h2]⟩
        simp only [List.getElem_cons_zero] at hb'
        rw [hb', h1]; rfl
    refine ⟨b :: l, ?_, by simp [hk]; simpa using hl⟩
    simp only [List.getElem_cons_zero] at hb
    rw [hb, hl']; rfl
/-- A slice of bytes. -/
theorem Good.bytes (h : Good enc P w t cs) (ht : P.underlying t = some (.slice e)) (he : P.underlying e = some (.int .u8)) (hc : P.cellsOf e = 1) (hb : P.bytesOf e = 1) : ∃ v l, cs = [v] ∧ Bytes w v l ∧ l.length ≤ 140737488351232 := by
  obtain ⟨A, n, c, rfl, h1, h2, h3, h4, h5⟩ := h.slice ht (by omega)
  rw [hb, Nat.mul_one] at h4
  rcases Nat.eq_zero_or_pos n with rfl | h0
  · exact ⟨_, [], rfl, Bytes.nil h2 (fun h => (h3 h).2), by simp⟩
  · obtain ⟨b, off, rfl, hcell⟩ := h5 h0
    have key : ∀ i, i < n → ∃ u : UInt8, w.cell? ⟨b, off + i, none⟩ = some (bv u) := by
      intro i hi
      obtain ⟨es, e1, e2, e3⟩ := hcell i hi
      obtain ⟨m, rfl, hm⟩ := e3.int he
      refine ⟨UInt8.ofNat m.toNat, ?_⟩
      have := e2 0 _ rfl
      rw [hc, Nat.mul_one, Nat.add_zero] at this
      rw [this, u8_of hm]
    obtain ⟨l, hl, hlc⟩ : ∃ l : List UInt8, l.length = n ∧ ∀ j (hj : j < l.length), w.cell? ⟨b, off + j, none⟩ = some (bv l[j]) := by
      refine ⟨(List.range n).map fun i => if h : i < n then (key i h).choose else 0, by simp, fun j hj => ?_⟩
      have hj' : j < n := by simpa using hj
      rw [(key j hj').choose_spec]
      simp [hj']
    exact ⟨_, l, rfl, Bytes.mk hl h1 h2 hlc, by omega⟩
end
/-- A list cut into pieces. -/
theorem piece (cs : List Value) (a n : Nat) : cs.drop a = (cs.drop a).take n ++ cs.drop (a + n) := by
  rw [← List.drop_drop]; exact (List.take_append_drop n _).symm
theorem i64_of {n : Int} (h : (Lit.int .i64 n).wf = true) : -9223372036854775808 ≤ n ∧ n ≤ 9223372036854775807 := bounds_i64 h
theorem u64_of {n : Int} (h : (Lit.int .u64 n).wf = true) : ∃ k : Nat, n = k ∧ k < 18446744073709551616 := by
  obtain ⟨h1, h2⟩ := bounds_u64 h
  exact ⟨n.toNat, by omega, by omega⟩
end Go.Proofs.Ytdohenfbehpplaa
/- Slices of records that are read. -/
namespace Go.Proofs.Ytdohenfbehpplaa
set_option linter.unusedVariables false
set_option linter.unusedSimpArgs false
open Go.RowKit

abbrev Rec := Nat × List UInt8
def recCells (ps : List (Nat × Value)) : List Value := ps.flatMap fun p => [.int .u64 p.1, p.2]
theorem recCells_length (ps : List (Nat × Value)) : (recCells ps).length = ps.length * 2 := by
  induction ps with
  | nil => rfl
  | cons p ps ih => simp only [recCells, List.flatMap_cons, List.length_append, List.length_cons, List.length_nil] at *; omega
theorem recCells_at (ps : List (Nat × Value)) : ∀ (k : Nat) (h : k < ps.length), (recCells ps)[2 * k]? = some (.int .u64 ps[k].1) ∧ (recCells ps)[2 * k + 1]? = some ps[k].2 := by
  induction ps with
  | nil => intro k h; simp at h
  | cons p ps ih =>
    intro k h
    have e : recCells (p :: ps) = .int .u64 p.1 :: p.2 :: recCells ps := by simp [recCells]
    cases k with
    | zero => rw [e]; simp
    | succ k =>
      have h' : k < ps.length := by simpa using h
      have := ih k h'
      rw [e, show 2 * (k + 1) = 2 * k + 1 + 1 by omega]
      simpa using this
/-- v is a slice of the records l. -/
def Recs (w : World) (v : Value) (l : List Rec) : Prop :=
  ∃ ps : List (Nat × Value), Rd w v 2 (recCells ps) ∧ ps.length = l.length ∧ ∀ i (h : i < ps.length) (h' : i < l.length), ps[i].1 = l[i].1 ∧ Bytes w ps[i].2 l[i].2
theorem Recs.below {w w' : World} {v : Value} {l : List Rec} (h : Recs w v l) (hb : Below w.heap.size w w') : Recs w' v l := by
  obtain ⟨ps, h1, h2, h3⟩ := h
  exact ⟨ps, h1.below hb, h2, fun i a b => ⟨(h3 i a b).1, (h3 i a b).2.below hb⟩⟩
theorem Recs.open {w : World} {v : Value} {l : List Rec} (h : Recs w v l) :
    ∃ A c, v = .slice A l.length c ∧ l.length ≤ c ∧ c ≤ 9223372036854775807 ∧ (A = none → c = 0) ∧
      (0 < l.length → ∃ b off, A = some ⟨b, off, none⟩ ∧ ∀ k (hk : k < l.length), ∃ sv, w.cell? ⟨b, off + k * 2, none⟩ = some (.int .u64 (l[k].1 : Nat)) ∧ w.cell? ⟨b, off + k * 2 + 1, none⟩ = some sv ∧ Bytes w sv l[k].2) := by
  obtain ⟨ps, ⟨A, n, c, e, hl, h1, h2, h4, h3⟩, h5, h6⟩ := h
  rw [recCells_length] at hl
  have hn : n = l.length := by omega
  subst hn
  refine ⟨A, c, e, h1, h2, h4, fun h0 => ?_⟩
  obtain ⟨b, off, ea, hc⟩ := h3 h0
  refine ⟨b, off, ea, fun k hk => ?_⟩
  have hk' : k < ps.length := by omega
  obtain ⟨c1, c2⟩ := recCells_at ps k hk'
  obtain ⟨t1, t2⟩ := h6 k hk' hk
  refine ⟨ps[k].2, ?_, ?_, t2⟩
  · rw [← t1, ← hc _ _ c1, Nat.mul_comm]
  · rw [← hc _ _ c2, Nat.mul_comm, Nat.add_assoc]
theorem cell_below {w w1 : World} (h : Below w.heap.size w w1) {a : Addr} {v : Value} (hc : w.cell? a = some v) : w1.cell? a = some v := (h.cell (World.block_lt_of_cell? w a hc)).trans hc
/-- The k-th record, in a later world. -/
theorem Recs.at_ {w wr : World} {A : Option Addr} {n c : Nat} {l : List Rec} (h : Recs w (.slice A n c) l) (hb : Below w.heap.size w wr) (h0 : 0 < l.length) :
    ∃ b off, A = some ⟨b, off, none⟩ ∧ n = l.length ∧ ∀ k (hk : k < l.length), ∃ A' c', wr.cell? ⟨b, off + k * 2, none⟩ = some (.int .u64 (l[k].1 : Nat)) ∧ wr.cell? ⟨b, off + k * 2 + 1, none⟩ = some (.slice A' l[k].2.length c') ∧
      Bytes wr (.slice A' l[k].2.length c') l[k].2 := by
  obtain ⟨A2, c2, e, h1, h2, h4, h3⟩ := h.open
  simp only [Value.slice.injEq] at e
  obtain ⟨rfl, rfl, rfl⟩ := e
  obtain ⟨b, off, rfl, hc⟩ := h3 h0
  refine ⟨b, off, rfl, rfl, fun k hk => ?_⟩
  obtain ⟨sv, c1, c2, c3⟩ := hc k hk
  have c4 := c3.below hb
  obtain ⟨A', n', c', e, hl, _⟩ := c3
  have : n' = l[k].2.length := by simpa [bvs] using hl.symm
  subst this
  subst e
  exact ⟨A', c', cell_below hb c1, cell_below hb c2, c4⟩
theorem cell_alloc {w : World} {a : Addr} {v : Value} (hc : w.cell? a = some v) (o : Obj) : (w.alloc o).cell? a = some v := cell_below ((Below.refl _ _).alloc (Nat.le_refl _) o) hc
end Go.Proofs.Ytdohenfbehpplaa
/- api.Msg: its cells. -/
namespace Go.Proofs.Ytdohenfbehpplaa
set_option linter.unusedVariables false
set_option linter.unusedSimpArgs false
open Go.RowKit

structure Msg where
  kind : Int
  channel : Int
  id : Int
  amount : Int
  expiry : Int
  hash : List UInt8
  onion : List UInt8
  secret : List UInt8
  point : List UInt8
  tag : List UInt8
  number : Int
  told : Int
  reason : List UInt8

def isI64 (x : Int) : Prop := -9223372036854775808 ≤ x ∧ x ≤ 9223372036854775807
structure Msg.Wf (m : Msg) : Prop where
  hash : m.hash.length = 32
  secret : m.secret.length = 32
  point : m.point.length = 32
  tag : m.tag.length = 32
  kind : isI64 m.kind
  channel : isI64 m.channel
  id : isI64 m.id
  amount : isI64 m.amount
  expiry : isI64 m.expiry
  number : isI64 m.number
  told : isI64 m.told
  onion : m.onion.length ≤ 140737488351232
  reason : m.reason.length ≤ 140737488351232

/-- A message's cells; its two slices as they are. -/
def mcl (m : Msg) (o r : Value) : List Value :=
  [.int .i64 m.kind, .int .i64 m.channel, .int .i64 m.id, .int .i64 m.amount, .int .i64 m.expiry] ++ (bvs m.hash ++ (o :: (bvs m.secret ++ (bvs m.point ++ (bvs m.tag ++ [.int .i64 m.number, .int .i64 m.told, r])))))
def mc (m : Msg) (o r : Value) : Array Value := (mcl m o r).toArray

section
variable {m : Msg} {o r : Value}
theorem mcl_length (h : m.Wf) : (mcl m o r).length = 137 := by
  simp [mcl, bvs, h.hash, h.secret, h.point, h.tag]
theorem mc_0 : (mc m o r)[0]? = some (.int .i64 m.kind) := by simp [mc, mcl]
theorem mc_1 : (mc m o r)[1]? = some (.int .i64 m.channel) := by simp [mc, mcl]
theorem mc_2 : (mc m o r)[2]? = some (.int .i64 m.id) := by simp [mc, mcl]
theorem mc_3 : (mc m o r)[3]? = some (.int .i64 m.amount) := by simp [mc, mcl]
theorem mc_4 : (mc m o r)[4]? = some (.int .i64 m.expiry) := by simp [mc, mcl]
theorem mc_37 (h : m.Wf) : (mc m o r)[37]? = some o := by
  simp [mc, mcl, bvs, h.hash, List.getElem?_append]
theorem mc_134 (h : m.Wf) : (mc m o r)[134]? = some (.int .i64 m.number) := by
  simp [mc, mcl, bvs, h.hash, h.secret, h.point, h.tag, List.getElem?_append, List.getElem?_cons]
theorem mc_135 (h : m.Wf) : (mc m o r)[135]? = some (.int .i64 m.told) := by
  simp [mc, mcl, bvs, h.hash, h.secret, h.point, h.tag, List.getElem?_append, List.getElem?_cons]
theorem mc_136 (h : m.Wf) : (mc m o r)[136]? = some r := by
  simp [mc, mcl, bvs, h.hash, h.secret, h.point, h.tag, List.getElem?_append, List.getElem?_cons]
theorem seg_at (pre mid post : List Value) (n : Nat) (hn : pre.length = n) (j : Nat) (v : Value) (h : mid[j]? = some v) : (pre ++ (mid ++ post))[n + j]? = some v := by
  subst hn
  have hj : j < mid.length := (List.getElem?_eq_some_iff.1 h).1
  rw [List.getElem?_append_right (by omega), List.getElem?_append_left (by omega), Nat.add_sub_cancel_left]
  exact h
theorem mc_hash (j : Nat) (v : Value) (hj : (bvs m.hash)[j]? = some v) : (mc m o r)[5 + j]? = some v := by
  have := seg_at [.int .i64 m.kind, .int .i64 m.channel, .int .i64 m.id, .int .i64 m.amount, .int .i64 m.expiry] (bvs m.hash) (o :: (bvs m.secret ++ (bvs m.point ++ (bvs m.tag ++ [.int .i64 m.number, .int .i64 m.told, r])))) 5 rfl j v hj
  simpa [mc, mcl] using this
theorem mc_secret (h : m.Wf) (j : Nat) (v : Value) (hj : (bvs m.secret)[j]? = some v) : (mc m o r)[38 + j]? = some v := by
  have := seg_at ([.int .i64 m.kind, .int .i64 m.channel, .int .i64 m.id, .int .i64 m.amount, .int .i64 m.expiry] ++ (bvs m.hash ++ [o])) (bvs m.secret) (bvs m.point ++ (bvs m.tag ++ [.int .i64 m.number, .int .i64 m.told, r])) 38 (by simp [bvs, h.hash]) j v hj
  simpa [mc, mcl, List.append_assoc] using this
theorem mc_point (h : m.Wf) (j : Nat) (v : Value) (hj : (bvs m.point)[j]? = some v) : (mc m o r)[70 + j]? = some v := by
  have := seg_at ([.int .i64 m.kind, .int .i64 m.channel, .int .i64 m.id, .int .i64 m.amount, .int .i64 m.expiry] ++ (bvs m.hash ++ (o :: bvs m.secret))) (bvs m.point) (bvs m.tag ++ [.int .i64 m.number, .int .i64 m.told, r]) 70 (by simp [bvs, h.hash, h.secret]) j v hj
  simpa [mc, mcl, List.append_assoc] using this
theorem mc_tag (h : m.Wf) (j : Nat) (v : Value) (hj : (bvs m.tag)[j]? = some v) : (mc m o r)[102 + j]? = some v := by
  have := seg_at ([.int .i64 m.kind, .int .i64 m.channel, .int .i64 m.id, .int .i64 m.amount, .int .i64 m.expiry] ++ (bvs m.hash ++ (o :: (bvs m.secret ++ bvs m.point)))) (bvs m.tag) [.int .i64 m.number, .int .i64 m.told, r] 102 (by simp [bvs, h.hash, h.secret, h.point]) j v hj
  simpa [mc, mcl, List.append_assoc] using this
/-- What lies in a block that holds a message. -/
theorem range_of {w : World} {b : Nat} {C : Array Value} {t : TypeId} {fr : Nat × Nat} (hb : w.heap[b]? = some (.cells C t fr)) (off : Nat) (cs : List Value) (h : ∀ j v, cs[j]? = some v → C[off + j]? = some v) : w.rangeAt b off cs := fun j v hj => by
  rw [cell_of_row w b (off + j) C t fr hb]; exact h j v hj
end

theorem run_string {P : Program} {W : World} (src e dst : TypeId) (hs : P.underlying src = some (.slice e)) (he : P.underlying e = some (.int .u8)) (hd : P.underlying dst = some .string) {v : Value} {l : List UInt8} (h : Bytes W v l) :
    (convert src dst v).run P W = .ok (.string ⟨l.toArray⟩) W := by
  rcases h.open with ⟨rfl, A, c, rfl, _, hA⟩ | ⟨h0, b, off, c, rfl, _, _, hc⟩
  · cases A with
    | none => rw [hA rfl]; exact run_convert_bytes_nil W src e hs he 0 0 dst hd
    | some ad =>
      rw [run_convert_bytes_string W src dst e _ 0 c hs he hd]
      have hl : (loadCells ad 0).run P W = .ok #[] W := run_loadCells_list (P := P) W ad [] (fun j v hj => by simp at hj)
      simp [Conv.bytesToString, hl]
      rfl
  · have hr := run_convert_bytes_arg (P := P) W src e hs he b off l.length c (l.map fun x => (x.toNat : Int)) (by simp) (fun i hi => by
      rw [hc i hi]; simp [bv, List.getD_eq_getElem?_getD, List.getElem?_map, List.getElem?_eq_getElem hi]) dst hd
    have hid : ∀ l : List UInt8, (l.map fun x => (x.toNat : Int)).map (fun n => UInt8.ofNat n.toNat) = l := by
      intro l
      induction l with
      | nil => rfl
      | cons x l ih => rw [List.map_cons, List.map_cons, ih]; simp
    rw [hr, strOfNums, hid]
theorem run_eq32 {P : Program} (t e : TypeId) (ht : P.underlying t = some (.array 32 e)) (he : P.underlying e = some (.int .u8)) (hsz : ∀ w, (sizeOf e).run P w = .ok 1 w) (a b : List UInt8) (ha : a.length = 32) (hb : b.length = 32) (W : World) :
    (Op.equalIn 10000 t (.agg (bvs a).toArray) (.agg (bvs b).toArray)).run P W = .ok (a == b) W :=
  run_equalIn_bytes W 9998 t e 32 ht he hsz a b ha hb
/-- 'x := p.f' of an array in the middle of a block; the guard, if there is one, lets it by. -/
theorem wl_load {P : Program} {ops : Array Oper} {rest : List Oper} {a : Act} {Q : Exit → Act → World → Prop} {W : World} {rt : TypeId} {pos : String} {after : Array Edge} {g : Option (Nat × Bool)} (d : Tmp) (ty : TypeId) (x : Operand) (b o : Nat) (cs : List Value) (k : TypeDesc)
    (hx : a.eval x = .pointer (some ⟨b, o, none⟩)) (hw : Region.wanted { dst := some d, op := .load ty x, type := rt, pos := pos, after := after, guard := g } (yielded ops a.tmps) = true) (hu : P.underlying ty = some k) (hd : k.isRow = true) (hi : (P.info? ty).map (·.size) = some cs.length) (hc : W.rangeAt b o cs)
    (h : wpList P ops Q rest (a.put (some d) (.agg cs.toArray)) W) : wpList P ops Q ({ dst := some d, op := .load ty x, type := rt, pos := pos, after := after, guard := g } :: rest) a W :=
  wpList_step fun K hK => by rw [if_pos hw]; exact wp_load_mid ty x rfl b o hx cs k hc hu hd hi (hK _ _ h)
end Go.Proofs.Ytdohenfbehpplaa
/- Chains of '&&' and '||' in one statement, a link at a time, over frames that are variables. -/
namespace Go.Proofs.Ytdohenfbehpplaa
set_option linter.unusedVariables false
set_option linter.unusedSimpArgs false
open Go.RowKit

section
variable {P : Program} {ops : Array Oper} {rest : List Oper} {a : Act} {Q : Exit → Act → World → Prop} {W : World}
def gt (a : Act) (i : Nat) : Value := a.tmps.getD i undef
theorem gt_same {d : Nat} {v : Value} (h : d < a.tmps.size) : gt (a.put (some d) v) d = v := by simp [gt, Act.put, h]
theorem gt_other {d i : Nat} {v : Value} (h : d ≠ i) : gt (a.put (some d) v) i = gt a i := by
  simp [gt, Act.put, Array.getElem?_setIfInBounds, h]
theorem put_size {d : Option Tmp} {v : Value} : (a.put d v).tmps.size = a.tmps.size := by cases d <;> simp [Act.put]
theorem put_defers {d : Option Tmp} {v : Value} : (a.put d v).defers = a.defers := by cases d <;> simp [Act.put]
theorem eval_tmp {i : Nat} : a.eval (.tmp i) = gt a i := rfl
/-- a' is a but for the slots ds. -/
structure Fr (ds : List Nat) (a a' : Act) : Prop where
  size : a'.tmps.size = a.tmps.size
  defers : a'.defers = a.defers
  old : ∀ i, i ∉ ds → gt a' i = gt a i
theorem Fr.refl (ds : List Nat) (a : Act) : Fr ds a a := ⟨rfl, rfl, fun _ _ => rfl⟩
theorem Fr.trans {ds : List Nat} {a b c : Act} (h : Fr ds a b) (k : Fr ds b c) : Fr ds a c := ⟨k.size.trans h.size, k.defers.trans h.defers, fun i hi => (k.old i hi).trans (h.old i hi)⟩
theorem Fr.mono {ds es : List Nat} {a b : Act} (h : Fr ds a b) (hs : ∀ i, i ∈ ds → i ∈ es) : Fr es a b := ⟨h.size, h.defers, fun i hi => h.old i fun h' => hi (hs i h')⟩
theorem Fr.put {ds : List Nat} {a b : Act} (h : Fr ds a b) {d : Nat} (hd : d ∈ ds) (v : Value) : Fr ds a (b.put (some d) v) :=
  ⟨put_size.trans h.size, put_defers.trans h.defers, fun i hi => (gt_other (a := b) (v := v) (fun e : d = i => hi (by rw [← e]; exact hd))).trans (h.old i hi)⟩
theorem wl_val {o : Oper} (hw : Region.wanted o (yielded ops a.tmps) = true) (v : Value) (hr : (execOp a.eval o).run P W = .ok (.value v) W) (h : wpList P ops Q rest (a.put o.dst v) W) : wpList P ops Q (o :: rest) a W :=
  wpList_step fun K hK => by rw [if_pos hw]; unfold Oper.wp; rw [hr]; exact hK _ _ h
theorem wl_skip {o : Oper} (hw : Region.wanted o (yielded ops a.tmps) = false) (h : wpList P ops Q rest (a.put o.dst undef) W) : wpList P ops Q (o :: rest) a W :=
  wpList_step fun K hK => by rw [if_neg (by rw [hw]; simp)]; exact hK _ _ h
theorem wanted_some {o : Oper} {j m : Nat} {b c : Bool} (hg : o.guard = some (j, c)) (hj : (ops[j]?).bind (·.dst) = some m) (hm : gt a m = .bool b) (hs : m < a.tmps.size) :
    Region.wanted o (yielded ops a.tmps) = (b == c) := by
  have h1 : a.tmps[m]? = some (.bool b) := by
    simp only [gt, Array.getD_eq_getD_getElem?] at hm
    rw [Array.getElem?_eq_getElem hs] at hm ⊢
    simpa using hm
  have : yielded ops a.tmps j = some b := by simp [yielded, hj, h1]
  simp only [Region.wanted, hg, this]
  cases b <;> cases c <;> rfl
/-- One operation, the new frame a variable. -/
theorem wl_next {o : Oper} (d : Nat) (hd : o.dst = some d) (hs : d < a.tmps.size) (hw : Region.wanted o (yielded ops a.tmps) = true) (v : Value) (hr : (execOp a.eval o).run P W = .ok (.value v) W)
    (h : ∀ a', Fr [d] a a' → gt a' d = v → wpList P ops Q rest a' W) : wpList P ops Q (o :: rest) a W :=
  wl_val hw v hr (by rw [hd]; exact h _ ((Fr.refl _ _).put (by simp) v) (gt_same hs))
/-- A guarded stretch that is passed over. -/
theorem skip_seg {j m : Nat} {b c : Bool} (hj : (ops[j]?).bind (·.dst) = some m) (hbc : (b == c) = false) (ds : List Nat) (hmd : m ∉ ds) : ∀ (seg : List Oper) (a : Act), (∀ o ∈ seg, o.guard = some (j, c) ∧ ∃ d ∈ ds, o.dst = some d) → gt a m = .bool b → m < a.tmps.size →
    (∀ a', Fr ds a a' → wpList P ops Q rest a' W) → wpList P ops Q (seg ++ rest) a W
  | [], a, _, _, _, h => h a (Fr.refl _ _)
  | o :: seg, a, hs, hm, hlt, h => by
    obtain ⟨hg, d, hd, hod⟩ := hs o (by simp)
    refine wl_skip (by rw [wanted_some hg hj hm hlt]; exact hbc) ?_
    rw [hod]
    refine skip_seg hj hbc ds hmd seg _ (fun o' ho' => hs o' (by simp [ho'])) ?_ (by rw [put_size]; exact hlt) fun a' ha' => h a' (((Fr.refl _ _).put hd undef).trans ha')
    rw [gt_other (fun e : d = m => hmd (by rw [← e]; exact hd))]; exact hm
/-- A stretch under a guard that lets it by: what it comes to. -/
def Runs (P : Program) (ops : Array Oper) (W : World) (ds : List Nat) (e : Nat) (v : Value) (j : Nat) (c : Bool) (Pre : Act → Prop) (seg : List Oper) : Prop :=
  ∀ (Q : Exit → Act → World → Prop) (rest : List Oper) (a : Act) (m : Nat), (ops[j]?).bind (·.dst) = some m → m ∉ ds → gt a m = .bool c → m < a.tmps.size → (∀ d ∈ ds, d < a.tmps.size) → Pre a → (∀ a', Fr ds a a' → gt a' e = v → wpList P ops Q rest a' W) → wpList P ops Q (seg ++ rest) a W
/-- '.. && B'. -/
theorem link_and (m c r e j : Nat) (ds : List Nat) (seg : List Oper) (cb b : Bool) (Pre : Act → Prop) {t1 t2 : TypeId} {p1 p2 : String} {af1 af2 : Array Edge}
    (hj : (ops[j]?).bind (·.dst) = some m) (hmd : m ∉ ds) (hlt : ∀ d ∈ m :: r :: ds, d < a.tmps.size) (hseg : ∀ o ∈ seg, o.guard = some (j, true) ∧ ∃ d ∈ ds, o.dst = some d)
    (hc : gt a c = .bool cb) (hpre : ∀ a', Fr [m] a a' → Pre a') (hrun : Runs P ops W ds e (.bool b) j true Pre seg)
    (h : ∀ a', Fr (m :: r :: ds) a a' → gt a' r = .bool (cb && b) → wpList P ops Q rest a' W) :
    wpList P ops Q ({ dst := some m, op := .move (.tmp c), type := t1, pos := p1, after := af1, guard := none } :: (seg ++ ({ dst := some r, op := .pick (.tmp m) (.tmp e) (.const (.bool false)), type := t2, pos := p2, after := af2, guard := none } :: rest))) a W := by
  refine wl_next m rfl (hlt m (by simp)) rfl (.bool cb) (by simp [execOp, eval_tmp, hc]) fun a1 f1 g1 => ?_
  have fin : ∀ a2, Fr ds a1 a2 → (cb = true → gt a2 e = .bool b) → wpList P ops Q ({ dst := some r, op := .pick (.tmp m) (.tmp e) (.const (.bool false)), type := t2, pos := p2, after := af2, guard := none } :: rest) a2 W := fun a2 f2 g2 => by
    have gm : gt a2 m = .bool cb := (f2.old m hmd).trans g1
    refine wl_next r rfl (by rw [f2.size, f1.size]; exact hlt r (by simp)) rfl (.bool (cb && b)) ?_ fun a3 f3 g3 => h a3 ((f1.mono (by simp)).trans ((f2.mono (by intro i hi; simp [hi])).trans (f3.mono (by simp)))) g3
    cases cb with
    | false => simp [execOp, eval_tmp, gm, asBool]; rfl
    | true => simp [execOp, eval_tmp, gm, g2 rfl, asBool]
  cases cb with
  | false => exact skip_seg hj rfl ds hmd seg a1 hseg g1 (by rw [f1.size]; exact hlt m (by simp)) fun a2 f2 => fin a2 f2 (fun h => by cases h)
  | true => exact hrun _ _ a1 m hj hmd g1 (by rw [f1.size]; exact hlt m (by simp)) (fun d hd => by rw [f1.size]; exact hlt d (by simp [hd])) (hpre a1 f1) fun a2 f2 g2 => fin a2 f2 (fun _ => g2)
/-- '.. || B'. -/
theorem link_or (m c r e j : Nat) (ds : List Nat) (seg : List Oper) (cb b : Bool) (Pre : Act → Prop) {t1 t2 : TypeId} {p1 p2 : String} {af1 af2 : Array Edge}
    (hj : (ops[j]?).bind (·.dst) = some m) (hmd : m ∉ ds) (hlt : ∀ d ∈ m :: r :: ds, d < a.tmps.size) (hseg : ∀ o ∈ seg, o.guard = some (j, false) ∧ ∃ d ∈ ds, o.dst = some d)
    (hc : gt a c = .bool cb) (hpre : ∀ a', Fr [m] a a' → Pre a') (hrun : Runs P ops W ds e (.bool b) j false Pre seg)
    (h : ∀ a', Fr (m :: r :: ds) a a' → gt a' r = .bool (cb || b) → wpList P ops Q rest a' W) :
    wpList P ops Q ({ dst := some m, op := .move (.tmp c), type := t1, pos := p1, after := af1, guard := none } :: (seg ++ ({ dst := some r, op := .pick (.tmp m) (.const (.bool true)) (.tmp e), type := t2, pos := p2, after := af2, guard := none } :: rest))) a W := by
  refine wl_next m rfl (hlt m (by simp)) rfl (.bool cb) (by simp [execOp, eval_tmp, hc]) fun a1 f1 g1 => ?_
  have fin : ∀ a2, Fr ds a1 a2 → (cb = false → gt a2 e = .bool b) → wpList P ops Q ({ dst := some r, op := .pick (.tmp m) (.const (.bool true)) (.tmp e), type := t2, pos := p2, after := af2, guard := none } :: rest) a2 W := fun a2 f2 g2 => by
    have gm : gt a2 m = .bool cb := (f2.old m hmd).trans g1
    refine wl_next r rfl (by rw [f2.size, f1.size]; exact hlt r (by simp)) rfl (.bool (cb || b)) ?_ fun a3 f3 g3 => h a3 ((f1.mono (by simp)).trans ((f2.mono (by intro i hi; simp [hi])).trans (f3.mono (by simp)))) g3
    cases cb with
    | true => simp [execOp, eval_tmp, gm, asBool]; rfl
    | false => simp [execOp, eval_tmp, gm, g2 rfl, asBool]
  cases cb with
  | true => exact skip_seg hj rfl ds hmd seg a1 hseg g1 (by rw [f1.size]; exact hlt m (by simp)) fun a2 f2 => fin a2 f2 (fun h => by cases h)
  | false => exact hrun _ _ a1 m hj hmd g1 (by rw [f1.size]; exact hlt m (by simp)) (fun d hd => by rw [f1.size]; exact hlt d (by simp [hd])) (hpre a1 f1) fun a2 f2 g2 => fin a2 f2 (fun _ => g2)
theorem wl_next1 {o : Oper} {j m : Nat} {c : Bool} (d : Nat) (hd : o.dst = some d) (hg : o.guard = some (j, c)) (hj : (ops[j]?).bind (·.dst) = some m) (hm : gt a m = .bool c) (hms : m < a.tmps.size) (hs : d < a.tmps.size) (v : Value) (hr : (execOp a.eval o).run P W = .ok (.value v) W)
    (h : ∀ a', a'.tmps.size = a.tmps.size → a'.defers = a.defers → (∀ i, i ≠ d → gt a' i = gt a i) → gt a' d = v → wpList P ops Q rest a' W) : wpList P ops Q (o :: rest) a W :=
  wl_next d hd hs (by rw [wanted_some hg hj hm hms]; cases c <;> rfl) v hr fun a' f g => h a' f.size f.defers (fun i hi => f.old i (by simpa using hi)) g
theorem runs_eq (a1 l1 a2 l2 e p q j : Nat) (T ty : TypeId) (f1 f2 : Nat) (b : Bool) (vp vq A1 A2 vx vy : Value) (c : Bool) {t0 : TypeId} {p0 : String} {af0 : Array Edge} {t1 : TypeId} {p1 : String} {af1 : Array Edge} {t2 : TypeId} {p2 : String} {af2 : Array Edge} {t3 : TypeId} {p3 : String} {af3 : Array Edge} {t4 : TypeId} {p4 : String} {af4 : Array Edge} 
    (hne : a1 ≠ l1 ∧ a1 ≠ a2 ∧ a1 ≠ l2 ∧ a1 ≠ e ∧ l1 ≠ a2 ∧ l1 ≠ l2 ∧ l1 ≠ e ∧ a2 ≠ l2 ∧ a2 ≠ e ∧ l2 ≠ e ∧ p ≠ a1 ∧ p ≠ l1 ∧ p ≠ a2 ∧ p ≠ l2 ∧ p ≠ e ∧ q ≠ a1 ∧ q ≠ l1 ∧ q ≠ a2 ∧ q ≠ l2 ∧ q ≠ e)
    (hf1 : (Instr.fieldAt T vp f1).run P W = .ok A1 W) (hf2 : (Instr.fieldAt T vq f2).run P W = .ok A2 W) (hl1 : (Instr.loadAt ty A1).run P W = .ok vx W) (hl2 : (Instr.loadAt ty A2).run P W = .ok vy W) (hg : ∀ u v, (eqGuard .eql ty u v vx vy).run P W = .ok () W) (he : (binOp .eql ty vx vy).run P W = .ok (.bool b) W) :
    Runs P ops W [a1, l1, a2, l2, e] e (.bool b) j c (fun a => gt a p = vp ∧ gt a q = vq) [{ dst := some a1, op := .fieldAddr T (.tmp p) f1, type := t0, pos := p0, after := af0, guard := some (j, c) },
      { dst := some l1, op := .load ty (.tmp a1), type := t1, pos := p1, after := af1, guard := some (j, c) },
      { dst := some a2, op := .fieldAddr T (.tmp q) f2, type := t2, pos := p2, after := af2, guard := some (j, c) },
      { dst := some l2, op := .load ty (.tmp a2), type := t3, pos := p3, after := af3, guard := some (j, c) },
      { dst := some e, op := .binOp .eql ty (.tmp l1) (.tmp l2) ty, type := t4, pos := p4, after := af4, guard := some (j, c) }] := by
  intro Q rest a m hj hm gm hlt hds hpre h
  obtain ⟨g_p, g_q⟩ := hpre
  obtain ⟨n_a1_l1, n_a1_a2, n_a1_l2, n_a1_e, n_l1_a2, n_l1_l2, n_l1_e, n_a2_l2, n_a2_e, n_l2_e, n_p_a1, n_p_l1, n_p_a2, n_p_l2, n_p_e, n_q_a1, n_q_l1, n_q_a2, n_q_l2, n_q_e⟩ := hne
  have n_m_a1 : m ≠ a1 := fun e => hm (by rw [e]; simp)
  have n_m_l1 : m ≠ l1 := fun e => hm (by rw [e]; simp)
  have n_m_a2 : m ≠ a2 := fun e => hm (by rw [e]; simp)
  have n_m_l2 : m ≠ l2 := fun e => hm (by rw [e]; simp)
  have n_m_e : m ≠ e := fun e => hm (by rw [e]; simp)
  refine wl_next1 a1 rfl rfl hj gm (hlt) (hds a1 (by simp)) (A1) ?_ fun b1 z1 y1 o1 g1 => ?_
  · have q0 := g_p
    simp [execOp, eval_tmp, q0, hf1]
  refine wl_next1 l1 rfl rfl hj ((o1 m n_m_a1).trans gm) (by rw [z1]; exact hlt) (by rw [z1]; exact hds l1 (by simp)) (vx) ?_ fun b2 z2 y2 o2 g2 => ?_
  · have q0 := g1
    simp [execOp, eval_tmp, q0, hl1]
  refine wl_next1 a2 rfl rfl hj ((o2 m n_m_l1).trans ((o1 m n_m_a1).trans gm)) (by rw [z2, z1]; exact hlt) (by rw [z2, z1]; exact hds a2 (by simp)) (A2) ?_ fun b3 z3 y3 o3 g3 => ?_
  · have q0 := ((o2 q n_q_l1).trans ((o1 q n_q_a1).trans g_q))
    simp [execOp, eval_tmp, q0, hf2]
  refine wl_next1 l2 rfl rfl hj ((o3 m n_m_a2).trans ((o2 m n_m_l1).trans ((o1 m n_m_a1).trans gm))) (by rw [z3, z2, z1]; exact hlt) (by rw [z3, z2, z1]; exact hds l2 (by simp)) (vy) ?_ fun b4 z4 y4 o4 g4 => ?_
  · have q0 := g3
    simp [execOp, eval_tmp, q0, hl2]
  refine wl_next1 e rfl rfl hj ((o4 m n_m_l2).trans ((o3 m n_m_a2).trans ((o2 m n_m_l1).trans ((o1 m n_m_a1).trans gm)))) (by rw [z4, z3, z2, z1]; exact hlt) (by rw [z4, z3, z2, z1]; exact hds e (by simp)) (.bool b) ?_ fun b5 z5 y5 o5 g5 => ?_
  · have q0 := ((o4 l1 n_l1_l2).trans ((o3 l1 n_l1_a2).trans g2))
    have q1 := g4
    simp [execOp, eval_tmp, q0, q1, hg, he]
  refine h _ ⟨by rw [z5, z4, z3, z2, z1], by rw [y5, y4, y3, y2, y1], fun i hi => ?_⟩ g5
  simp only [List.mem_cons, List.not_mem_nil, or_false, not_or] at hi
  rw [o5 i hi.2.2.2.2, o4 i hi.2.2.2.1, o3 i hi.2.2.1, o2 i hi.2.1, o1 i hi.1]
theorem runs_eqc (a1 l1 c1 a2 l2 c2 e p q j : Nat) (T ty tz : TypeId) (f1 f2 : Nat) (b : Bool) (vp vq A1 A2 vx vy zx zy : Value) (c : Bool) {t0 : TypeId} {p0 : String} {af0 : Array Edge} {t1 : TypeId} {p1 : String} {af1 : Array Edge} {t2 : TypeId} {p2 : String} {af2 : Array Edge} {t3 : TypeId} {p3 : String} {af3 : Array Edge} {t4 : TypeId} {p4 : String} {af4 : Array Edge} {t5 : TypeId} {p5 : String} {af5 : Array Edge} {t6 : TypeId} {p6 : String} {af6 : Array Edge} 
    (hne : a1 ≠ l1 ∧ a1 ≠ c1 ∧ a1 ≠ a2 ∧ a1 ≠ l2 ∧ a1 ≠ c2 ∧ a1 ≠ e ∧ l1 ≠ c1 ∧ l1 ≠ a2 ∧ l1 ≠ l2 ∧ l1 ≠ c2 ∧ l1 ≠ e ∧ c1 ≠ a2 ∧ c1 ≠ l2 ∧ c1 ≠ c2 ∧ c1 ≠ e ∧ a2 ≠ l2 ∧ a2 ≠ c2 ∧ a2 ≠ e ∧ l2 ≠ c2 ∧ l2 ≠ e ∧ c2 ≠ e ∧ p ≠ a1 ∧ p ≠ l1 ∧ p ≠ c1 ∧ p ≠ a2 ∧ p ≠ l2 ∧ p ≠ c2 ∧ p ≠ e ∧ q ≠ a1 ∧ q ≠ l1 ∧ q ≠ c1 ∧ q ≠ a2 ∧ q ≠ l2 ∧ q ≠ c2 ∧ q ≠ e)
    (hf1 : (Instr.fieldAt T vp f1).run P W = .ok A1 W) (hf2 : (Instr.fieldAt T vq f2).run P W = .ok A2 W) (hl1 : (Instr.loadAt ty A1).run P W = .ok vx W) (hl2 : (Instr.loadAt ty A2).run P W = .ok vy W) (hc1 : (convert ty tz vx).run P W = .ok zx W) (hc2 : (convert ty tz vy).run P W = .ok zy W) (hg : ∀ u v, (eqGuard .eql tz u v zx zy).run P W = .ok () W) (he : (binOp .eql tz zx zy).run P W = .ok (.bool b) W) :
    Runs P ops W [a1, l1, c1, a2, l2, c2, e] e (.bool b) j c (fun a => gt a p = vp ∧ gt a q = vq) [{ dst := some a1, op := .fieldAddr T (.tmp p) f1, type := t0, pos := p0, after := af0, guard := some (j, c) },
      { dst := some l1, op := .load ty (.tmp a1), type := t1, pos := p1, after := af1, guard := some (j, c) },
      { dst := some c1, op := .convert ty tz (.tmp l1), type := t2, pos := p2, after := af2, guard := some (j, c) },
      { dst := some a2, op := .fieldAddr T (.tmp q) f2, type := t3, pos := p3, after := af3, guard := some (j, c) },
      { dst := some l2, op := .load ty (.tmp a2), type := t4, pos := p4, after := af4, guard := some (j, c) },
      { dst := some c2, op := .convert ty tz (.tmp l2), type := t5, pos := p5, after := af5, guard := some (j, c) },
      { dst := some e, op := .binOp .eql tz (.tmp c1) (.tmp c2) tz, type := t6, pos := p6, after := af6, guard := some (j, c) }] := by
  intro Q rest a m hj hm gm hlt hds hpre h
  obtain ⟨g_p, g_q⟩ := hpre
  obtain ⟨n_a1_l1, n_a1_c1, n_a1_a2, n_a1_l2, n_a1_c2, n_a1_e, n_l1_c1, n_l1_a2, n_l1_l2, n_l1_c2, n_l1_e, n_c1_a2, n_c1_l2, n_c1_c2, n_c1_e, n_a2_l2, n_a2_c2, n_a2_e, n_l2_c2, n_l2_e, n_c2_e, n_p_a1, n_p_l1, n_p_c1, n_p_a2, n_p_l2, n_p_c2, n_p_e, n_q_a1, n_q_l1, n_q_c1, n_q_a2, n_q_l2, n_q_c2, n_q_e⟩ := hne
  have n_m_a1 : m ≠ a1 := fun e => hm (by rw [e]; simp)
  have n_m_l1 : m ≠ l1 := fun e => hm (by rw [e]; simp)
  have n_m_c1 : m ≠ c1 := fun e => hm (by rw [e]; simp)
  have n_m_a2 : m ≠ a2 := fun e => hm (by rw [e]; simp)
  have n_m_l2 : m ≠ l2 := fun e => hm (by rw [e]; simp)
  have n_m_c2 : m ≠ c2 := fun e => hm (by rw [e]; simp)
  have n_m_e : m ≠ e := fun e => hm (by rw [e]; simp)
  refine wl_next1 a1 rfl rfl hj gm (hlt) (hds a1 (by simp)) (A1) ?_ fun b1 z1 y1 o1 g1 => ?_
  · have q0 := g_p
    simp [execOp, eval_tmp, q0, hf1]
  refine wl_next1 l1 rfl rfl hj ((o1 m n_m_a1).trans gm) (by rw [z1]; exact hlt) (by rw [z1]; exact hds l1 (by simp)) (vx) ?_ fun b2 z2 y2 o2 g2 => ?_
  · have q0 := g1
    simp [execOp, eval_tmp, q0, hl1]
  refine wl_next1 c1 rfl rfl hj ((o2 m n_m_l1).trans ((o1 m n_m_a1).trans gm)) (by rw [z2, z1]; exact hlt) (by rw [z2, z1]; exact hds c1 (by simp)) (zx) ?_ fun b3 z3 y3 o3 g3 => ?_
  · have q0 := g2
    simp [execOp, eval_tmp, q0, hc1]
  refine wl_next1 a2 rfl rfl hj ((o3 m n_m_c1).trans ((o2 m n_m_l1).trans ((o1 m n_m_a1).trans gm))) (by rw [z3, z2, z1]; exact hlt) (by rw [z3, z2, z1]; exact hds a2 (by simp)) (A2) ?_ fun b4 z4 y4 o4 g4 => ?_
  · have q0 := ((o3 q n_q_c1).trans ((o2 q n_q_l1).trans ((o1 q n_q_a1).trans g_q)))
    simp [execOp, eval_tmp, q0, hf2]
  refine wl_next1 l2 rfl rfl hj ((o4 m n_m_a2).trans ((o3 m n_m_c1).trans ((o2 m n_m_l1).trans ((o1 m n_m_a1).trans gm)))) (by rw [z4, z3, z2, z1]; exact hlt) (by rw [z4, z3, z2, z1]; exact hds l2 (by simp)) (vy) ?_ fun b5 z5 y5 o5 g5 => ?_
  · have q0 := g4
    simp [execOp, eval_tmp, q0, hl2]
  refine wl_next1 c2 rfl rfl hj ((o5 m n_m_l2).trans ((o4 m n_m_a2).trans ((o3 m n_m_c1).trans ((o2 m n_m_l1).trans ((o1 m n_m_a1).trans gm))))) (by rw [z5, z4, z3, z2, z1]; exact hlt) (by rw [z5, z4, z3, z2, z1]; exact hds c2 (by simp)) (zy) ?_ fun b6 z6 y6 o6 g6 => ?_
  · have q0 := g5
    simp [execOp, eval_tmp, q0, hc2]
  refine wl_next1 e rfl rfl hj ((o6 m n_m_c2).trans ((o5 m n_m_l2).trans ((o4 m n_m_a2).trans ((o3 m n_m_c1).trans ((o2 m n_m_l1).trans ((o1 m n_m_a1).trans gm)))))) (by rw [z6, z5, z4, z3, z2, z1]; exact hlt) (by rw [z6, z5, z4, z3, z2, z1]; exact hds e (by simp)) (.bool b) ?_ fun b7 z7 y7 o7 g7 => ?_
  · have q0 := ((o6 c1 n_c1_c2).trans ((o5 c1 n_c1_l2).trans ((o4 c1 n_c1_a2).trans g3)))
    have q1 := g6
    simp [execOp, eval_tmp, q0, q1, hg, he]
  refine h _ ⟨by rw [z7, z6, z5, z4, z3, z2, z1], by rw [y7, y6, y5, y4, y3, y2, y1], fun i hi => ?_⟩ g7
  simp only [List.mem_cons, List.not_mem_nil, or_false, not_or] at hi
  rw [o7 i hi.2.2.2.2.2.2, o6 i hi.2.2.2.2.2.1, o5 i hi.2.2.2.2.1, o4 i hi.2.2.2.1, o3 i hi.2.2.1, o2 i hi.2.1, o1 i hi.1]
/-- A function of two parameters, one result, whose body is two regions. -/
theorem enter_two {f : FuncId} {fn : Func} {id id2 N r : Nat} {l l2 : Array Oper} {v0 v1 : Value} {w : World} {R : Ending → World → Prop} (hf : P.funcs[f]? = some fn) (hb : fn.body = some (Code.seq (Code.region id l false) (Code.seq (Code.region id2 l2 false) Code.ret))) (hN : fn.ntmps = N) (h2 : 2 ≤ N) (hres : fn.results = #[.tmp r])
    (h : ∀ (a : Act) (Q Q2 : Exit → Act → World → Prop), a.tmps.size = N → a.defers = [] → gt a 0 = v0 → gt a 1 = v1 → (∀ a w, wpList P l2 Q2 l2.toList a w → Q .normal a w) → (∀ a w, a.defers = [] → R (.returned (gt a r)) w → Q2 .normal a w) → wpList P l Q l.toList a w) : Calls P f #[v0, v1] w R := by
  refine calls_of_wp hf hb (wp_seq (wp_region_list (h _ _ (Exit.then (Code.ret.wp P (bodyPost P fn R)) (bodyPost P fn R)) (by simp [hN]; omega) rfl (by simp [gt, Array.getElem?_append]) (by simp [gt, Array.getElem?_append]) ?_ ?_)))
  · intro a w h
    exact wp_seq (wp_region_list h)
  · intro a w hd hr
    exact wp_ret (bodyPost_ret (results_tmp hres _ _ _) hd hr)
/-- One operation, that may make memory. -/
theorem wl_make {o : Oper} {W' : World} (d : Nat) (hd : o.dst = some d) (hg : o.guard = none) (hs : d < a.tmps.size) (v : Value) (hr : (execOp a.eval o).run P W = .ok (.value v) W')
    (h : ∀ a', a'.tmps.size = a.tmps.size → a'.defers = a.defers → (∀ i, i ≠ d → gt a' i = gt a i) → gt a' d = v → wpList P ops Q rest a' W') : wpList P ops Q (o :: rest) a W := by
  refine wpList_step fun K hK => ?_
  have hw : Region.wanted o (yielded ops a.tmps) = true := by simp [Region.wanted, hg]
  rw [if_pos hw]; unfold Oper.wp; rw [hr]
  refine hK _ _ ?_
  rw [hd]
  exact (h _ put_size put_defers (fun i hi => gt_other (fun e => hi e.symm)) (gt_same hs))
end
end Go.Proofs.Ytdohenfbehpplaa
/- tollhouseref06.Same: a contract. -/
namespace Go.Proofs.Ytdohenfbehpplaa
set_option linter.unusedVariables false
set_option linter.unusedSimpArgs false
open Go.RowKit
theorem size_arr : (Try.prog.info? 23).map (·.size) = some 32 := by kernel_rfl
theorem run_size_u8 (w : World) : (sizeOf 5).run Try.prog w = .ok 1 w := by kernel_rfl
theorem run_str {W : World} {v : Value} {l : List UInt8} (h : Bytes W v l) : (convert 22 9 v).run Try.prog W = .ok (.string ⟨l.toArray⟩) W := run_string 22 5 9 Try.underlying22 Try.underlying5 Try.underlying9 h
theorem run_arr (a b : List UInt8) (ha : a.length = 32) (hb : b.length = 32) (W : World) : (binOp .eql 23 (.agg (bvs a).toArray) (.agg (bvs b).toArray)).run Try.prog W = .ok (.bool (a == b)) W := by
  rw [run_eql_struct, run_eq32 23 5 Try.underlying23 Try.underlying5 run_size_u8 a b ha hb W]; rfl
theorem bvs_size (a : List UInt8) (ha : a.length = 32) : (Try.prog.info? 23).map (·.size) = some (bvs a).length := by rw [size_arr]; simp [bvs, ha]
theorem guard_arr (u v : Operand) (xs ys : Array Value) (W : World) : (eqGuard .eql 23 u v (.agg xs) (.agg ys)).run Try.prog W = .ok () W := run_eqGuard_agg W .eql 23 u v xs ys Try.eqGuardType23
theorem guard_int (u v : Operand) (k : IntKind) (x y : Int) (t : TypeId) (W : World) : (eqGuard .eql t u v (.int k x) (.int k y)).run Try.prog W = .ok () W := by simp [eqGuard]
theorem guard_str (u v : Operand) (x y : ByteArray) (t : TypeId) (W : World) : (eqGuard .eql t u v (.string x) (.string y)).run Try.prog W = .ok () W := by simp [eqGuard]
theorem eql_int (x y : Int) (W : World) : (binOp .eql 3 (.int .i64 x) (.int .i64 y)).run Try.prog W = .ok (.bool (x == y)) W := by
  simp [go_sem]
theorem eql_str (x y : List UInt8) (W : World) : (binOp .eql 9 (.string ⟨x.toArray⟩) (.string ⟨y.toArray⟩)).run Try.prog W = .ok (.bool (x == y)) W := by
  rw [binOp_string_eql]; simp
theorem load_int (g o : Nat) (x : Int) (W : World) (h : W.cell? ⟨g, o, none⟩ = some (.int .i64 x)) : (Instr.loadAt 3 (.pointer (some ⟨g, o, none⟩))).run Try.prog W = .ok (.int .i64 x) W := by
  simp [go_sem, h]
theorem load_bytes (g o : Nat) (A : Option Addr) (n c : Nat) (W : World) (h : W.cell? ⟨g, o, none⟩ = some (.slice A n c)) : (Instr.loadAt 22 (.pointer (some ⟨g, o, none⟩))).run Try.prog W = .ok (.slice A n c) W := by
  simp [go_sem, h]
theorem load_arr (g o : Nat) (l : List UInt8) (hl : l.length = 32) (W : World) (h : W.rangeAt g o (bvs l)) : (Instr.loadAt 23 (.pointer (some ⟨g, o, none⟩))).run Try.prog W = .ok (.agg (bvs l).toArray) W :=
  run_loadAt_mid W g o 23 (bvs l) _ h Try.underlying23 rfl (bvs_size l hl)
theorem fld_0 (g : Nat) (W : World) : (Instr.fieldAt 25 (.pointer (some ⟨g, 0, none⟩)) 0).run Try.prog W = .ok (.pointer (some ⟨g, 0, none⟩)) W := by kernel_rfl
theorem fld_1 (g : Nat) (W : World) : (Instr.fieldAt 25 (.pointer (some ⟨g, 0, none⟩)) 1).run Try.prog W = .ok (.pointer (some ⟨g, 1, none⟩)) W := by kernel_rfl
theorem fld_2 (g : Nat) (W : World) : (Instr.fieldAt 25 (.pointer (some ⟨g, 0, none⟩)) 2).run Try.prog W = .ok (.pointer (some ⟨g, 2, none⟩)) W := by kernel_rfl
theorem fld_3 (g : Nat) (W : World) : (Instr.fieldAt 25 (.pointer (some ⟨g, 0, none⟩)) 3).run Try.prog W = .ok (.pointer (some ⟨g, 3, none⟩)) W := by kernel_rfl
theorem fld_4 (g : Nat) (W : World) : (Instr.fieldAt 25 (.pointer (some ⟨g, 0, none⟩)) 4).run Try.prog W = .ok (.pointer (some ⟨g, 4, none⟩)) W := by kernel_rfl
theorem fld_5 (g : Nat) (W : World) : (Instr.fieldAt 25 (.pointer (some ⟨g, 0, none⟩)) 5).run Try.prog W = .ok (.pointer (some ⟨g, 5, none⟩)) W := by kernel_rfl
theorem fld_6 (g : Nat) (W : World) : (Instr.fieldAt 25 (.pointer (some ⟨g, 0, none⟩)) 6).run Try.prog W = .ok (.pointer (some ⟨g, 37, none⟩)) W := by kernel_rfl
theorem fld_7 (g : Nat) (W : World) : (Instr.fieldAt 25 (.pointer (some ⟨g, 0, none⟩)) 7).run Try.prog W = .ok (.pointer (some ⟨g, 38, none⟩)) W := by kernel_rfl
theorem fld_8 (g : Nat) (W : World) : (Instr.fieldAt 25 (.pointer (some ⟨g, 0, none⟩)) 8).run Try.prog W = .ok (.pointer (some ⟨g, 70, none⟩)) W := by kernel_rfl
theorem fld_9 (g : Nat) (W : World) : (Instr.fieldAt 25 (.pointer (some ⟨g, 0, none⟩)) 9).run Try.prog W = .ok (.pointer (some ⟨g, 102, none⟩)) W := by kernel_rfl
theorem fld_10 (g : Nat) (W : World) : (Instr.fieldAt 25 (.pointer (some ⟨g, 0, none⟩)) 10).run Try.prog W = .ok (.pointer (some ⟨g, 134, none⟩)) W := by kernel_rfl
theorem fld_11 (g : Nat) (W : World) : (Instr.fieldAt 25 (.pointer (some ⟨g, 0, none⟩)) 11).run Try.prog W = .ok (.pointer (some ⟨g, 135, none⟩)) W := by kernel_rfl
theorem fld_12 (g : Nat) (W : World) : (Instr.fieldAt 25 (.pointer (some ⟨g, 0, none⟩)) 12).run Try.prog W = .ok (.pointer (some ⟨g, 136, none⟩)) W := by kernel_rfl

theorem run_box (t : TypeId) (cs : Array Value) (W : World) : (Instr.box t (.agg cs)).run Try.prog W = .ok (.pointer (some ⟨W.heap.size, 0, none⟩)) (W.alloc (.cells cs t)) := by simp [go_sem]
def sameB (m n : Msg) : Bool := m.kind == n.kind && m.channel == n.channel && m.id == n.id && m.amount == n.amount && m.expiry == n.expiry && m.hash == n.hash && m.onion == n.onion && m.secret == n.secret && m.point == n.point && m.tag == n.tag && m.number == n.number && m.told == n.told && m.reason == n.reason
theorem sameB_iff (m n : Msg) : sameB m n = true ↔ m = n := by
  unfold sameB
  simp only [Bool.and_eq_true, beq_iff_eq]
  constructor
  · rintro ⟨⟨⟨⟨⟨⟨⟨⟨⟨⟨⟨⟨h0, h1⟩, h2⟩, h3⟩, h4⟩, h5⟩, h6⟩, h7⟩, h8⟩, h9⟩, h10⟩, h11⟩, h12⟩
    cases m; cases n; simp_all
  · rintro rfl; simp

set_option maxRecDepth 20000 in
set_option maxHeartbeats 1600000 in
/-- tollhouseref06.Same. -/
theorem same_ok (m n : Msg) (o r o' r' : Value) (w : World) (hm : m.Wf) (hn : n.Wf) (ho : Bytes w o m.onion) (hr : Bytes w r m.reason) (ho' : Bytes w o' n.onion) (hr' : Bytes w r' n.reason) :
    Calls Try.prog 12 #[.agg (mc m o r), .agg (mc n o' r')] w fun e w' => e = .returned (.bool (sameB m n)) ∧ Below w.heap.size w w' := by
  have hB := ((Below.refl w.heap.size w).alloc (Nat.le_refl _) (.cells (mc m o r) 25)).alloc (by simp) (.cells (mc n o' r') 25)
  have bo := ho.below hB
  have br := hr.below hB
  have bo' := ho'.below hB
  have br' := hr'.below hB
  obtain ⟨Ao, no, co, rfl, _⟩ := ho
  obtain ⟨Ar, nr, cr, rfl, _⟩ := hr
  obtain ⟨Ao', no', co', rfl, _⟩ := ho'
  obtain ⟨Ar', nr', cr', rfl, _⟩ := hr'
  have H1 : ((w.alloc (.cells (mc m (.slice Ao no co) (.slice Ar nr cr)) 25)).alloc (.cells (mc n (.slice Ao' no' co') (.slice Ar' nr' cr')) 25)).heap[w.heap.size]? = some (.cells (mc m (.slice Ao no co) (.slice Ar nr cr)) 25) := heap_alloc2_old w _ _
  have H2 : ((w.alloc (.cells (mc m (.slice Ao no co) (.slice Ar nr cr)) 25)).alloc (.cells (mc n (.slice Ao' no' co') (.slice Ar' nr' cr')) 25)).heap[w.heap.size + 1]? = some (.cells (mc n (.slice Ao' no' co') (.slice Ar' nr' cr')) 25) := heap_alloc2_new w _ _
  have C1 : ∀ j v, (mc m (.slice Ao no co) (.slice Ar nr cr))[j]? = some v → ((w.alloc (.cells (mc m (.slice Ao no co) (.slice Ar nr cr)) 25)).alloc (.cells (mc n (.slice Ao' no' co') (.slice Ar' nr' cr')) 25)).cell? ⟨w.heap.size, j, none⟩ = some v := fun j v h => by rw [cell_of_row _ _ _ _ _ _ H1]; exact h
  have C2 : ∀ j v, (mc n (.slice Ao' no' co') (.slice Ar' nr' cr'))[j]? = some v → ((w.alloc (.cells (mc m (.slice Ao no co) (.slice Ar nr cr)) 25)).alloc (.cells (mc n (.slice Ao' no' co') (.slice Ar' nr' cr')) 25)).cell? ⟨w.heap.size + 1, j, none⟩ = some v := fun j v h => by rw [cell_of_row _ _ _ _ _ _ H2]; exact h
  refine enter_two Try.func12 rfl Try.ntmps12 (by decide) rfl ?_
  intro a Q Q2 hN hd g0 g1 nxt fin
  refine wl_make 2 rfl rfl (by rw [hN]; decide) (.pointer (some ⟨w.heap.size, 0, none⟩)) (W' := w.alloc (.cells (mc m (.slice Ao no co) (.slice Ar nr cr)) 25)) (by simp only [execOp, eval_tmp, g0, Sem.run_bind, run_box, Result.andThen_ok, Sem.run_pure]) fun a1 z1 y1 o1 g2 => ?_
  refine wl_make 3 rfl rfl (by rw [z1, hN]; decide) (.pointer (some ⟨w.heap.size + 1, 0, none⟩)) (W' := (w.alloc (.cells (mc m (.slice Ao no co) (.slice Ar nr cr)) 25)).alloc (.cells (mc n (.slice Ao' no' co') (.slice Ar' nr' cr')) 25)) (by have := (o1 1 (by decide)).trans g1; simp only [execOp, eval_tmp, this, Sem.run_bind, run_box, Result.andThen_ok, Sem.run_pure]; simp) fun a2 z2 y2 o2 g3 => ?_
  have p2 := (o2 2 (by decide)).trans g2
  generalize (w.alloc (.cells (mc m (.slice Ao no co) (.slice Ar nr cr)) 25)).alloc (.cells (mc n (.slice Ao' no' co') (.slice Ar' nr' cr')) 25) = W at *
  refine wl_make 4 rfl rfl (by rw [z2, z1, hN]; decide) (.bool false) (W' := W) (by simp only [execOp, Sem.run_pure]; rfl) fun a3 z3 y3 o3 _ => ?_
  have N3 : a3.tmps.size = 98 := by rw [z3, z2, z1, hN]
  have D3 : a3.defers = [] := by rw [y3, y2, y1, hd]
  have P3 := (o3 2 (by decide)).trans p2
  have Q3 := (o3 3 (by decide)).trans g3
  clear o1 o2 o3 g0 g1 g2 g3 p2 z1 z2 z3 y1 y2 y3 hN hd
  refine wpList_nil (nxt _ _ ?_)
  refine wl_make 5 rfl rfl (by rw [N3]; decide) (.pointer (some ⟨w.heap.size, 0, none⟩)) (W' := W) (by simp only [execOp, eval_tmp, P3, Sem.run_bind, fld_0, Result.andThen_ok, Sem.run_pure]) fun b1 z1 y1 o1 g1 => ?_
  refine wl_make 6 rfl rfl (by rw [z1, N3]; decide) (.int .i64 m.kind) (W' := W) (by simp only [execOp, eval_tmp, g1, Sem.run_bind, load_int _ _ _ _ (C1 0 _ mc_0), Result.andThen_ok, Sem.run_pure]) fun b2 z2 y2 o2 g2 => ?_
  refine wl_make 7 rfl rfl (by rw [z2, z1, N3]; decide) (.pointer (some ⟨w.heap.size + 1, 0, none⟩)) (W' := W) (by have := (o2 3 (by decide)).trans ((o1 3 (by decide)).trans Q3); simp only [execOp, eval_tmp, this, Sem.run_bind, fld_0, Result.andThen_ok, Sem.run_pure]) fun b3 z3 y3 o3 g3 => ?_
  refine wl_make 8 rfl rfl (by rw [z3, z2, z1, N3]; decide) (.int .i64 n.kind) (W' := W) (by simp only [execOp, eval_tmp, g3, Sem.run_bind, load_int _ _ _ _ (C2 0 _ mc_0), Result.andThen_ok, Sem.run_pure]) fun b4 z4 y4 o4 g4 => ?_
  refine wl_make 9 rfl rfl (by rw [z4, z3, z2, z1, N3]; decide) (.bool (m.kind == n.kind)) (W' := W) (by have e6 := (o4 6 (by decide)).trans ((o3 6 (by decide)).trans g2); simp only [execOp, eval_tmp, e6, g4, Sem.run_bind, guard_int, eql_int, Result.andThen_ok, Sem.run_pure]) fun c0 z5 y5 o5 k0 => ?_
  have N0 : c0.tmps.size = 98 := by rw [z5, z4, z3, z2, z1, N3]
  have D0 : c0.defers = [] := by rw [y5, y4, y3, y2, y1, D3]
  have P0 := (o5 2 (by decide)).trans ((o4 2 (by decide)).trans ((o3 2 (by decide)).trans ((o2 2 (by decide)).trans ((o1 2 (by decide)).trans P3))))
  have Q0 := (o5 3 (by decide)).trans ((o4 3 (by decide)).trans ((o3 3 (by decide)).trans ((o2 3 (by decide)).trans ((o1 3 (by decide)).trans Q3))))
  clear o1 o2 o3 o4 o5 g1 g2 g3 g4 z1 z2 z3 z4 z5 y1 y2 y3 y4 y5 P3 Q3 N3 D3
  refine link_and 10 9 16 15 5 [11, 12, 13, 14, 15] _ _ (m.channel == n.channel) _ rfl (by decide) (fun d hd => by rw [N0]; revert d; decide) (by decide) k0 (fun a' f => ⟨(f.old 2 (by decide)).trans P0, (f.old 3 (by decide)).trans Q0⟩) (runs_eq 11 12 13 14 15 2 3 5 25 3 1 1 (m.channel == n.channel) _ _ _ _ _ _ true (by decide) (fld_1 _ _) (fld_1 _ _) (load_int _ _ _ _ (C1 1 _ mc_1)) (load_int _ _ _ _ (C2 1 _ mc_1)) (fun u v => guard_int u v _ _ _ _ _) (eql_int _ _ _)) fun c1 f1 k1 => ?_
  have N1 : c1.tmps.size = 98 := f1.size.trans N0
  have D1 : c1.defers = [] := f1.defers.trans D0
  have P1 := (f1.old 2 (by decide)).trans P0
  have Q1 := (f1.old 3 (by decide)).trans Q0
  refine link_and 17 16 23 22 12 [18, 19, 20, 21, 22] _ _ (m.id == n.id) _ rfl (by decide) (fun d hd => by rw [N1]; revert d; decide) (by decide) k1 (fun a' f => ⟨(f.old 2 (by decide)).trans P1, (f.old 3 (by decide)).trans Q1⟩) (runs_eq 18 19 20 21 22 2 3 12 25 3 2 2 (m.id == n.id) _ _ _ _ _ _ true (by decide) (fld_2 _ _) (fld_2 _ _) (load_int _ _ _ _ (C1 2 _ mc_2)) (load_int _ _ _ _ (C2 2 _ mc_2)) (fun u v => guard_int u v _ _ _ _ _) (eql_int _ _ _)) fun c2 f2 k2 => ?_
  have N2 : c2.tmps.size = 98 := f2.size.trans N1
  have D2 : c2.defers = [] := f2.defers.trans D1
  have P2 := (f2.old 2 (by decide)).trans P1
  have Q2 := (f2.old 3 (by decide)).trans Q1
  refine link_and 24 23 30 29 19 [25, 26, 27, 28, 29] _ _ (m.amount == n.amount) _ rfl (by decide) (fun d hd => by rw [N2]; revert d; decide) (by decide) k2 (fun a' f => ⟨(f.old 2 (by decide)).trans P2, (f.old 3 (by decide)).trans Q2⟩) (runs_eq 25 26 27 28 29 2 3 19 25 3 3 3 (m.amount == n.amount) _ _ _ _ _ _ true (by decide) (fld_3 _ _) (fld_3 _ _) (load_int _ _ _ _ (C1 3 _ mc_3)) (load_int _ _ _ _ (C2 3 _ mc_3)) (fun u v => guard_int u v _ _ _ _ _) (eql_int _ _ _)) fun c3 f3 k3 => ?_
  have N3 : c3.tmps.size = 98 := f3.size.trans N2
  have D3 : c3.defers = [] := f3.defers.trans D2
  have P3 := (f3.old 2 (by decide)).trans P2
  have Q3 := (f3.old 3 (by decide)).trans Q2
  refine link_and 31 30 37 36 26 [32, 33, 34, 35, 36] _ _ (m.expiry == n.expiry) _ rfl (by decide) (fun d hd => by rw [N3]; revert d; decide) (by decide) k3 (fun a' f => ⟨(f.old 2 (by decide)).trans P3, (f.old 3 (by decide)).trans Q3⟩) (runs_eq 32 33 34 35 36 2 3 26 25 3 4 4 (m.expiry == n.expiry) _ _ _ _ _ _ true (by decide) (fld_4 _ _) (fld_4 _ _) (load_int _ _ _ _ (C1 4 _ mc_4)) (load_int _ _ _ _ (C2 4 _ mc_4)) (fun u v => guard_int u v _ _ _ _ _) (eql_int _ _ _)) fun c4 f4 k4 => ?_
  have N4 : c4.tmps.size = 98 := f4.size.trans N3
  have D4 : c4.defers = [] := f4.defers.trans D3
  have P4 := (f4.old 2 (by decide)).trans P3
  have Q4 := (f4.old 3 (by decide)).trans Q3
  refine link_and 38 37 44 43 33 [39, 40, 41, 42, 43] _ _ (m.hash == n.hash) _ rfl (by decide) (fun d hd => by rw [N4]; revert d; decide) (by decide) k4 (fun a' f => ⟨(f.old 2 (by decide)).trans P4, (f.old 3 (by decide)).trans Q4⟩) (runs_eq 39 40 41 42 43 2 3 33 25 23 5 5 (m.hash == n.hash) _ _ _ _ _ _ true (by decide) (fld_5 _ _) (fld_5 _ _) (load_arr _ _ m.hash hm.hash _ (fun j v hj => C1 _ _ (mc_hash j v hj))) (load_arr _ _ n.hash hn.hash _ (fun j v hj => C2 _ _ (mc_hash j v hj))) (fun u v => guard_arr u v _ _ _) (run_arr _ _ hm.hash hn.hash _)) fun c5 f5 k5 => ?_
  have N5 : c5.tmps.size = 98 := f5.size.trans N4
  have D5 : c5.defers = [] := f5.defers.trans D4
  have P5 := (f5.old 2 (by decide)).trans P4
  have Q5 := (f5.old 3 (by decide)).trans Q4
  refine link_and 45 44 53 52 40 [46, 47, 48, 49, 50, 51, 52] _ _ (m.onion == n.onion) _ rfl (by decide) (fun d hd => by rw [N5]; revert d; decide) (by decide) k5 (fun a' f => ⟨(f.old 2 (by decide)).trans P5, (f.old 3 (by decide)).trans Q5⟩) (runs_eqc 46 47 48 49 50 51 52 2 3 40 25 22 9 6 6 (m.onion == n.onion) _ _ _ _ _ _ _ _ true (by decide) (fld_6 _ _) (fld_6 _ _) (load_bytes _ _ _ _ _ _ (C1 37 _ (mc_37 hm))) (load_bytes _ _ _ _ _ _ (C2 37 _ (mc_37 hn))) (run_str bo) (run_str bo') (fun u v => guard_str u v _ _ _ _) (eql_str _ _ _)) fun c6 f6 k6 => ?_
  have N6 : c6.tmps.size = 98 := f6.size.trans N5
  have D6 : c6.defers = [] := f6.defers.trans D5
  have P6 := (f6.old 2 (by decide)).trans P5
  have Q6 := (f6.old 3 (by decide)).trans Q5
  refine link_and 54 53 60 59 49 [55, 56, 57, 58, 59] _ _ (m.secret == n.secret) _ rfl (by decide) (fun d hd => by rw [N6]; revert d; decide) (by decide) k6 (fun a' f => ⟨(f.old 2 (by decide)).trans P6, (f.old 3 (by decide)).trans Q6⟩) (runs_eq 55 56 57 58 59 2 3 49 25 23 7 7 (m.secret == n.secret) _ _ _ _ _ _ true (by decide) (fld_7 _ _) (fld_7 _ _) (load_arr _ _ m.secret hm.secret _ (fun j v hj => C1 _ _ (mc_secret hm j v hj))) (load_arr _ _ n.secret hn.secret _ (fun j v hj => C2 _ _ (mc_secret hn j v hj))) (fun u v => guard_arr u v _ _ _) (run_arr _ _ hm.secret hn.secret _)) fun c7 f7 k7 => ?_
  have N7 : c7.tmps.size = 98 := f7.size.trans N6
  have D7 : c7.defers = [] := f7.defers.trans D6
  have P7 := (f7.old 2 (by decide)).trans P6
  have Q7 := (f7.old 3 (by decide)).trans Q6
  refine link_and 61 60 67 66 56 [62, 63, 64, 65, 66] _ _ (m.point == n.point) _ rfl (by decide) (fun d hd => by rw [N7]; revert d; decide) (by decide) k7 (fun a' f => ⟨(f.old 2 (by decide)).trans P7, (f.old 3 (by decide)).trans Q7⟩) (runs_eq 62 63 64 65 66 2 3 56 25 23 8 8 (m.point == n.point) _ _ _ _ _ _ true (by decide) (fld_8 _ _) (fld_8 _ _) (load_arr _ _ m.point hm.point _ (fun j v hj => C1 _ _ (mc_point hm j v hj))) (load_arr _ _ n.point hn.point _ (fun j v hj => C2 _ _ (mc_point hn j v hj))) (fun u v => guard_arr u v _ _ _) (run_arr _ _ hm.point hn.point _)) fun c8 f8 k8 => ?_
  have N8 : c8.tmps.size = 98 := f8.size.trans N7
  have D8 : c8.defers = [] := f8.defers.trans D7
  have P8 := (f8.old 2 (by decide)).trans P7
  have Q8 := (f8.old 3 (by decide)).trans Q7
  refine link_and 68 67 74 73 63 [69, 70, 71, 72, 73] _ _ (m.tag == n.tag) _ rfl (by decide) (fun d hd => by rw [N8]; revert d; decide) (by decide) k8 (fun a' f => ⟨(f.old 2 (by decide)).trans P8, (f.old 3 (by decide)).trans Q8⟩) (runs_eq 69 70 71 72 73 2 3 63 25 23 9 9 (m.tag == n.tag) _ _ _ _ _ _ true (by decide) (fld_9 _ _) (fld_9 _ _) (load_arr _ _ m.tag hm.tag _ (fun j v hj => C1 _ _ (mc_tag hm j v hj))) (load_arr _ _ n.tag hn.tag _ (fun j v hj => C2 _ _ (mc_tag hn j v hj))) (fun u v => guard_arr u v _ _ _) (run_arr _ _ hm.tag hn.tag _)) fun c9 f9 k9 => ?_
  have N9 : c9.tmps.size = 98 := f9.size.trans N8
  have D9 : c9.defers = [] := f9.defers.trans D8
  have P9 := (f9.old 2 (by decide)).trans P8
  have Q9 := (f9.old 3 (by decide)).trans Q8
  refine link_and 75 74 81 80 70 [76, 77, 78, 79, 80] _ _ (m.number == n.number) _ rfl (by decide) (fun d hd => by rw [N9]; revert d; decide) (by decide) k9 (fun a' f => ⟨(f.old 2 (by decide)).trans P9, (f.old 3 (by decide)).trans Q9⟩) (runs_eq 76 77 78 79 80 2 3 70 25 3 10 10 (m.number == n.number) _ _ _ _ _ _ true (by decide) (fld_10 _ _) (fld_10 _ _) (load_int _ _ _ _ (C1 134 _ (mc_134 hm))) (load_int _ _ _ _ (C2 134 _ (mc_134 hn))) (fun u v => guard_int u v _ _ _ _ _) (eql_int _ _ _)) fun c10 f10 k10 => ?_
  have N10 : c10.tmps.size = 98 := f10.size.trans N9
  have D10 : c10.defers = [] := f10.defers.trans D9
  have P10 := (f10.old 2 (by decide)).trans P9
  have Q10 := (f10.old 3 (by decide)).trans Q9
  refine link_and 82 81 88 87 77 [83, 84, 85, 86, 87] _ _ (m.told == n.told) _ rfl (by decide) (fun d hd => by rw [N10]; revert d; decide) (by decide) k10 (fun a' f => ⟨(f.old 2 (by decide)).trans P10, (f.old 3 (by decide)).trans Q10⟩) (runs_eq 83 84 85 86 87 2 3 77 25 3 11 11 (m.told == n.told) _ _ _ _ _ _ true (by decide) (fld_11 _ _) (fld_11 _ _) (load_int _ _ _ _ (C1 135 _ (mc_135 hm))) (load_int _ _ _ _ (C2 135 _ (mc_135 hn))) (fun u v => guard_int u v _ _ _ _ _) (eql_int _ _ _)) fun c11 f11 k11 => ?_
  have N11 : c11.tmps.size = 98 := f11.size.trans N10
  have D11 : c11.defers = [] := f11.defers.trans D10
  have P11 := (f11.old 2 (by decide)).trans P10
  have Q11 := (f11.old 3 (by decide)).trans Q10
  refine link_and 89 88 97 96 84 [90, 91, 92, 93, 94, 95, 96] _ _ (m.reason == n.reason) _ rfl (by decide) (fun d hd => by rw [N11]; revert d; decide) (by decide) k11 (fun a' f => ⟨(f.old 2 (by decide)).trans P11, (f.old 3 (by decide)).trans Q11⟩) (runs_eqc 90 91 92 93 94 95 96 2 3 84 25 22 9 12 12 (m.reason == n.reason) _ _ _ _ _ _ _ _ true (by decide) (fld_12 _ _) (fld_12 _ _) (load_bytes _ _ _ _ _ _ (C1 136 _ (mc_136 hm))) (load_bytes _ _ _ _ _ _ (C2 136 _ (mc_136 hn))) (run_str br) (run_str br') (fun u v => guard_str u v _ _ _ _) (eql_str _ _ _)) fun c12 f12 k12 => ?_
  have N12 : c12.tmps.size = 98 := f12.size.trans N11
  have D12 : c12.defers = [] := f12.defers.trans D11
  have P12 := (f12.old 2 (by decide)).trans P11
  have Q12 := (f12.old 3 (by decide)).trans Q11
  refine wl_make 4 rfl rfl (by rw [N12]; decide) (.bool ((((((((((((m.kind == n.kind && m.channel == n.channel) && m.id == n.id) && m.amount == n.amount) && m.expiry == n.expiry) && m.hash == n.hash) && m.onion == n.onion) && m.secret == n.secret) && m.point == n.point) && m.tag == n.tag) && m.number == n.number) && m.told == n.told) && m.reason == n.reason)) (W' := W) (by simp only [execOp, eval_tmp, k12, Sem.run_pure]) fun e1 z1 y1 o1 g1 => ?_
  exact fin _ _ (y1.trans D12) ⟨by rw [g1]; rfl, hB⟩
end Go.Proofs.Ytdohenfbehpplaa
/- api.Msg: its cells, written. -/
namespace Go.Proofs.Ytdohenfbehpplaa
set_option linter.unusedVariables false
set_option linter.unusedSimpArgs false
open Go.RowKit

def zmsg : Msg := { kind := 0, channel := 0, id := 0, amount := 0, expiry := 0, hash := List.replicate 32 0, onion := [], secret := List.replicate 32 0, point := List.replicate 32 0, tag := List.replicate 32 0, number := 0, told := 0, reason := [] }
abbrev nil0 : Value := .slice none 0 0
theorem zmsg_wf : zmsg.Wf := by
  constructor <;> first | rfl | (constructor <;> decide) | decide
theorem zero_msg (W : World) : (zeroValue 25).run Try.prog W = .ok (.agg (mc zmsg nil0 nil0)) W := by kernel_rfl
theorem size_msg : (Try.prog.info? 25).map (·.size) = some 137 := by kernel_rfl
theorem size_mc (m : Msg) (o r : Value) (h : m.Wf) : (Try.prog.info? 25).map (·.size) = some (mcl m o r).length := by rw [size_msg, mcl_length h]

section
variable {m : Msg} {o r : Value}
theorem mc_set0 (x : Int) : (mc m o r).setIfInBounds 0 (.int .i64 x) = mc { m with kind := x } o r := by simp [mc, mcl]
theorem mc_set1 (x : Int) : (mc m o r).setIfInBounds 1 (.int .i64 x) = mc { m with channel := x } o r := by simp [mc, mcl]
theorem mc_set2 (x : Int) : (mc m o r).setIfInBounds 2 (.int .i64 x) = mc { m with id := x } o r := by simp [mc, mcl]
theorem mc_set3 (x : Int) : (mc m o r).setIfInBounds 3 (.int .i64 x) = mc { m with amount := x } o r := by simp [mc, mcl]
theorem mc_set4 (x : Int) : (mc m o r).setIfInBounds 4 (.int .i64 x) = mc { m with expiry := x } o r := by simp [mc, mcl]
theorem set_at (pre post : List Value) (u v : Value) (n : Nat) (hn : pre.length = n) : (pre ++ u :: post).toArray.setIfInBounds n v = (pre ++ v :: post).toArray := by
  subst hn
  simp [List.set_append]
theorem mc_set37 (h : m.Wf) (v : Value) : (mc m o r).setIfInBounds 37 v = mc m v r := by
  have := set_at ([.int .i64 m.kind, .int .i64 m.channel, .int .i64 m.id, .int .i64 m.amount, .int .i64 m.expiry] ++ bvs m.hash) (bvs m.secret ++ (bvs m.point ++ (bvs m.tag ++ [.int .i64 m.number, .int .i64 m.told, r]))) o v 37 (by simp [bvs, h.hash])
  simpa [mc, mcl, List.append_assoc] using this
theorem mc_set134 (h : m.Wf) (x : Int) : (mc m o r).setIfInBounds 134 (.int .i64 x) = mc { m with number := x } o r := by
  have := set_at ([.int .i64 m.kind, .int .i64 m.channel, .int .i64 m.id, .int .i64 m.amount, .int .i64 m.expiry] ++ (bvs m.hash ++ (o :: (bvs m.secret ++ (bvs m.point ++ bvs m.tag))))) [.int .i64 m.told, r] (.int .i64 m.number) (.int .i64 x) 134 (by simp [bvs, h.hash, h.secret, h.point, h.tag])
  simpa [mc, mcl, List.append_assoc] using this
theorem mc_set135 (h : m.Wf) (x : Int) : (mc m o r).setIfInBounds 135 (.int .i64 x) = mc { m with told := x } o r := by
  have := set_at ([.int .i64 m.kind, .int .i64 m.channel, .int .i64 m.id, .int .i64 m.amount, .int .i64 m.expiry] ++ (bvs m.hash ++ (o :: (bvs m.secret ++ (bvs m.point ++ (bvs m.tag ++ [.int .i64 m.number])))))) [r] (.int .i64 m.told) (.int .i64 x) 135 (by simp [bvs, h.hash, h.secret, h.point, h.tag])
  simpa [mc, mcl, List.append_assoc] using this
theorem mc_set136 (h : m.Wf) (v : Value) : (mc m o r).setIfInBounds 136 v = mc m o v := by
  have := set_at ([.int .i64 m.kind, .int .i64 m.channel, .int .i64 m.id, .int .i64 m.amount, .int .i64 m.expiry] ++ (bvs m.hash ++ (o :: (bvs m.secret ++ (bvs m.point ++ (bvs m.tag ++ [.int .i64 m.number, .int .i64 m.told])))))) [] r v 136 (by simp [bvs, h.hash, h.secret, h.point, h.tag])
  simpa [mc, mcl, List.append_assoc] using this
end

/-- One field of another message. -/
def cp (to m : Msg) (t : Nat) : Msg :=
  if t = 1 then { to with channel := m.channel } else if t = 3 then { to with id := m.id } else if t = 5 then { to with amount := m.amount } else if t = 7 then { to with expiry := m.expiry } else if t = 9 then { to with hash := m.hash } else if t = 11 then { to with onion := m.onion }
  else if t = 13 then { to with secret := m.secret } else if t = 15 then { to with point := m.point } else if t = 17 then { to with tag := m.tag } else if t = 19 then { to with number := m.number } else if t = 21 then { to with told := m.told } else if t = 23 then { to with reason := m.reason } else to

/-- store 25 into the block that was made last. -/
theorem wl_store_new {ops : Array Oper} {rest : List Oper} {a : Act} {Q : Exit → Act → World → Prop} {W : World} {rt : TypeId} {pos : String} {after : Array Edge} (x y : Operand) (C : Array Value) (m : Msg) (o r : Value) (hm : m.Wf) (ho : o.oneCell' = true) (hr : r.oneCell' = true)
    (hx : a.eval x = .pointer (some ⟨W.heap.size, 0, none⟩)) (hy : a.eval y = .agg (mc m o r)) (hC : C.size = 137)
    (h : wpList Try.prog ops Q rest (a.put none undef) (W.alloc (.cells (mc m o r) 25))) : wpList Try.prog ops Q ({ dst := none, op := .store 25 x y, type := rt, pos := pos, after := after, guard := none } :: rest) a (W.alloc (.cells C 25)) := by
  refine wpList_plain rfl fun K hK => ?_
  have hs : (mc m o r).size = 137 := by simp [mc, mcl_length hm]
  have h1 : (mc m o r).all (·.oneCell') = true := by
    refine Array.all_eq_true_iff_forall_mem.2 fun v hv => ?_
    simp only [mc, List.mem_toArray, mcl, List.mem_append, List.mem_cons, List.not_mem_nil, or_false] at hv
    rcases hv with (h | h | h | h | h) | h | h | h | h | h | h | h | h
    all_goals first
      | (subst h; first | rfl | assumption)
      | exact bvs_one _ _ h
  have hrun := run_storeAt_new (P := Try.prog) W 25 C (mc m o r) (by rw [size_msg, hs]) (by rw [hC, hs]) h1
  unfold Oper.wp execOp
  simp only [hx, hy, Sem.run_bind, hrun, Result.andThen_ok, Sem.run_pure]
  exact hK _ _ h
end Go.Proofs.Ytdohenfbehpplaa
/- A message that lies in a block: read, written, behind what others do. -/
namespace Go.Proofs.Ytdohenfbehpplaa
set_option linter.unusedVariables false
set_option linter.unusedSimpArgs false
open Go.RowKit

theorem range_app {w : World} {b o : Nat} {xs ys : List Value} : w.rangeAt b o (xs ++ ys) ↔ w.rangeAt b o xs ∧ w.rangeAt b (o + xs.length) ys := by
  constructor
  · intro h
    refine ⟨fun j v hv => h j v ?_, fun j v hv => ?_⟩
    · rw [List.getElem?_append_left (List.getElem?_eq_some_iff.1 hv).1]; exact hv
    · rw [Nat.add_assoc]
      refine h (xs.length + j) v ?_
      rw [List.getElem?_append_right (by omega), Nat.add_sub_cancel_left]; exact hv
  · rintro ⟨h1, h2⟩ j v hv
    by_cases hj : j < xs.length
    · rw [List.getElem?_append_left hj] at hv; exact h1 j v hv
    · rw [List.getElem?_append_right (by omega)] at hv
      have := h2 _ v hv
      rwa [show o + xs.length + (j - xs.length) = o + j by omega] at this
/-- Only block b was written. -/
structure Tch (b : Nat) (w w' : World) : Prop where
  os : w'.os = w.os
  tape : w'.tape = w.tape
  output : w'.output = w.output
  size : w'.heap.size = w.heap.size
  block : ∀ k, k ≠ b → w'.heap[k]? = w.heap[k]?
theorem Tch.below {b B : Nat} {a w w' : World} (h : Tch b w w') (hB : Below B a w) (hb : B ≤ b) : Below B a w' :=
  hB.trans ⟨h.os, h.tape, h.output, Nat.le_of_eq h.size.symm, fun k hk => h.block k (by omega)⟩
theorem tch_setCell (w : World) (b o : Nat) (v : Value) : Tch b w (w.setCell ⟨b, o, none⟩ v) := by
  have hsz : (w.setCell ⟨b, o, none⟩ v).heap.size = w.heap.size := by unfold World.setCell; split <;> (try split) <;> simp
  refine ⟨?_, ?_, ?_, hsz, fun k hk => Below.heap_setCell w _ v k hk⟩ <;> (unfold World.setCell; split <;> (try split) <;> rfl)
theorem Tch.trans {b : Nat} {u v w : World} (h : Tch b u v) (k : Tch b v w) : Tch b u w :=
  ⟨k.os.trans h.os, k.tape.trans h.tape, k.output.trans h.output, k.size.trans h.size, fun i hi => (k.block i hi).trans (h.block i hi)⟩
theorem tch_setCells (b : Nat) : ∀ (vs : List Value) (o : Nat) (w : World), Tch b w (w.setCells b o vs)
  | [], _, w => ⟨rfl, rfl, rfl, rfl, fun _ _ => rfl⟩
  | v :: vs, o, w => (tch_setCell w b o v).trans (tch_setCells b vs (o + 1) _)

structure MsgIn (w : World) (b : Nat) (m : Msg) (o r : Value) : Prop where
  range : w.rangeAt b 0 (mcl m o r)
  there : w.there b 0 137
  lt : b < w.heap.size
section
variable {w w' : World} {b : Nat} {m : Msg} {o r : Value}
theorem MsgIn.of_block (h : MsgIn w b m o r) (hb : w'.heap[b]? = w.heap[b]?) : MsgIn w' b m o r := by
  refine ⟨fun j v hv => ?_, fun j hj => ?_, ?_⟩
  · rw [World.cell?_of_block (w := w) (w' := w') (a := ⟨b, 0 + j, none⟩) hb]; exact h.range j v hv
  · rw [World.cell?_of_block (w := w) (w' := w') (a := ⟨b, 0 + j, none⟩) hb, World.frozen?_of_block (w := w) (w' := w') (a := ⟨b, 0 + j, none⟩) hb]; exact h.there j hj
  · have h1 := h.lt
    rw [Array.getElem?_eq_getElem h1] at hb
    exact (Array.getElem?_eq_some_iff.1 hb).1
theorem MsgIn.below (h : MsgIn w b m o r) (hB : Below w.heap.size w w') : MsgIn w' b m o r := h.of_block (hB.block b h.lt)
theorem MsgIn.tch {b' : Nat} (h : MsgIn w b m o r) (hB : Tch b' w w') (hne : b ≠ b') : MsgIn w' b m o r := h.of_block (hB.block b hne)
theorem mcl_one (ho : o.oneCell' = true) (hr : r.oneCell' = true) : ∀ v ∈ mcl m o r, v.oneCell' = true := by
  intro v hv
  simp only [mcl, List.mem_append, List.mem_cons, List.not_mem_nil, or_false] at hv
  rcases hv with (h | h | h | h | h) | h | h | h | h | h | h | h | h
  all_goals first
    | (subst h; first | rfl | assumption)
    | exact bvs_one _ _ h
theorem msgIn_heap (hb : w.heap[b]? = some (.cells (mc m o r) 25)) (hm : m.Wf) : MsgIn w b m o r := by
  have hl : (mc m o r).size = 137 := by simp [mc, mcl_length hm]
  refine ⟨fun j v hv => ?_, fun j hj => ⟨?_, ?_⟩, (Array.getElem?_eq_some_iff.1 hb).1⟩
  · rw [cell_of_row w b _ _ _ _ hb, Nat.zero_add]; simpa [mc] using hv
  · rw [cell_of_row w b _ _ _ _ hb, Nat.zero_add, Array.getElem?_eq_getElem (by omega)]; rfl
  · simp [World.frozen?, hb]
theorem msgIn_new (w : World) (hm : m.Wf) : MsgIn (w.alloc (.cells (mc m o r) 25)) w.heap.size m o r := msgIn_heap (heap_alloc_last w _) hm
theorem MsgIn.alloc (h : MsgIn w b m o r) (ob : Obj) : MsgIn (w.alloc ob) b m o r := h.of_block (Below.heap_alloc w ob b h.lt)
theorem MsgIn.cell (h : MsgIn w b m o r) (k : Nat) (v : Value) (hv : (mc m o r)[k]? = some v) : w.cell? ⟨b, k, none⟩ = some v := by
  have := h.range k v (by simpa [mc] using hv)
  rwa [Nat.zero_add] at this
theorem MsgIn.ok (h : MsgIn w b m o r) (k : Nat) (hk : k < 137) : (w.cell? ⟨b, k, none⟩).isSome = true ∧ w.frozen? ⟨b, k, none⟩ = false := by
  have := h.there k hk
  rwa [Nat.zero_add] at this
theorem MsgIn.put (h : MsgIn w b m o r) (off : Nat) (vs pre old post : List Value) {m' : Msg} {o' r' : Value} (h1 : mcl m o r = pre ++ (old ++ post)) (h2 : mcl m' o' r' = pre ++ (vs ++ post)) (h3 : pre.length = off) (h4 : old.length = vs.length) (hlen : off + vs.length ≤ 137) :
    MsgIn (w.setCells b off vs) b m' o' r' := by
  have hr := h.range
  rw [h1, range_app, range_app] at hr
  obtain ⟨hr1, hr2, hr3⟩ := hr
  have hth : w.there b off vs.length := fun j hj => h.ok (off + j) (by omega)
  refine ⟨?_, World.there_setCells h.there _ _ _, by have := (tch_setCells b vs off w).size; have := h.lt; omega⟩
  rw [h2, range_app, range_app]
  refine ⟨World.rangeAt_setCells_apart hr1 _ _ _ (by omega), ?_, ?_⟩
  · rw [Nat.zero_add, h3]; exact World.rangeAt_setCells_same _ _ _ _ hth
  · rw [Nat.zero_add, h3, ← h4]
    have := World.rangeAt_setCells_apart hr3 b off vs (by right; right; omega)
    rwa [Nat.zero_add, h3] at this
end
section
variable {w : World} {b : Nat} {m : Msg} {o r : Value}
theorem setCells_one (w : World) (b k : Nat) (v : Value) : w.setCells b k [v] = w.setCell ⟨b, k, none⟩ v := rfl
theorem MsgIn.s1 (h : MsgIn w b m o r) (x : Int) : MsgIn (w.setCell ⟨b, 1, none⟩ (.int .i64 x)) b { m with channel := x } o r :=
  h.put 1 [_] [.int .i64 m.kind] [.int .i64 m.channel] ([.int .i64 m.id, .int .i64 m.amount, .int .i64 m.expiry] ++ (bvs m.hash ++ (o :: (bvs m.secret ++ (bvs m.point ++ (bvs m.tag ++ [.int .i64 m.number, .int .i64 m.told, r])))))) rfl rfl rfl rfl (by simp)
theorem MsgIn.s2 (h : MsgIn w b m o r) (x : Int) : MsgIn (w.setCell ⟨b, 2, none⟩ (.int .i64 x)) b { m with id := x } o r :=
  h.put 2 [_] [.int .i64 m.kind, .int .i64 m.channel] [.int .i64 m.id] ([.int .i64 m.amount, .int .i64 m.expiry] ++ (bvs m.hash ++ (o :: (bvs m.secret ++ (bvs m.point ++ (bvs m.tag ++ [.int .i64 m.number, .int .i64 m.told, r])))))) rfl rfl rfl rfl (by simp)
theorem MsgIn.s3 (h : MsgIn w b m o r) (x : Int) : MsgIn (w.setCell ⟨b, 3, none⟩ (.int .i64 x)) b { m with amount := x } o r :=
  h.put 3 [_] [.int .i64 m.kind, .int .i64 m.channel, .int .i64 m.id] [.int .i64 m.amount] ([.int .i64 m.expiry] ++ (bvs m.hash ++ (o :: (bvs m.secret ++ (bvs m.point ++ (bvs m.tag ++ [.int .i64 m.number, .int .i64 m.told, r])))))) rfl rfl rfl rfl (by simp)
theorem MsgIn.s4 (h : MsgIn w b m o r) (x : Int) : MsgIn (w.setCell ⟨b, 4, none⟩ (.int .i64 x)) b { m with expiry := x } o r :=
  h.put 4 [_] [.int .i64 m.kind, .int .i64 m.channel, .int .i64 m.id, .int .i64 m.amount] [.int .i64 m.expiry] (bvs m.hash ++ (o :: (bvs m.secret ++ (bvs m.point ++ (bvs m.tag ++ [.int .i64 m.number, .int .i64 m.told, r]))))) rfl rfl rfl rfl (by simp)
theorem MsgIn.s5 (h : MsgIn w b m o r) (hm : m.Wf) (l : List UInt8) (hl : l.length = 32) : MsgIn (w.setCells b 5 (bvs l)) b { m with hash := l } o r :=
  h.put 5 (bvs l) [.int .i64 m.kind, .int .i64 m.channel, .int .i64 m.id, .int .i64 m.amount, .int .i64 m.expiry] (bvs m.hash) (o :: (bvs m.secret ++ (bvs m.point ++ (bvs m.tag ++ [.int .i64 m.number, .int .i64 m.told, r])))) rfl rfl rfl (by simp [bvs, hm.hash, hl]) (by simp [bvs, hl])
theorem MsgIn.s6 (h : MsgIn w b m o r) (hm : m.Wf) (v : Value) (l : List UInt8) : MsgIn (w.setCell ⟨b, 37, none⟩ v) b { m with onion := l } v r :=
  h.put 37 [v] ([.int .i64 m.kind, .int .i64 m.channel, .int .i64 m.id, .int .i64 m.amount, .int .i64 m.expiry] ++ bvs m.hash) [o] (bvs m.secret ++ (bvs m.point ++ (bvs m.tag ++ [.int .i64 m.number, .int .i64 m.told, r]))) (by simp [mcl, List.append_assoc]) (by simp [mcl, List.append_assoc]) (by simp [bvs, hm.hash]) rfl (by simp)
theorem MsgIn.s7 (h : MsgIn w b m o r) (hm : m.Wf) (l : List UInt8) (hl : l.length = 32) : MsgIn (w.setCells b 38 (bvs l)) b { m with secret := l } o r :=
  h.put 38 (bvs l) ([.int .i64 m.kind, .int .i64 m.channel, .int .i64 m.id, .int .i64 m.amount, .int .i64 m.expiry] ++ (bvs m.hash ++ [o])) (bvs m.secret) (bvs m.point ++ (bvs m.tag ++ [.int .i64 m.number, .int .i64 m.told, r])) (by simp [mcl, List.append_assoc]) (by simp [mcl, List.append_assoc]) (by simp [bvs, hm.hash]) (by simp [bvs, hm.secret, hl]) (by simp [bvs, hl])
theorem MsgIn.s8 (h : MsgIn w b m o r) (hm : m.Wf) (l : List UInt8) (hl : l.length = 32) : MsgIn (w.setCells b 70 (bvs l)) b { m with point := l } o r :=
  h.put 70 (bvs l) ([.int .i64 m.kind, .int .i64 m.channel, .int .i64 m.id, .int .i64 m.amount, .int .i64 m.expiry] ++ (bvs m.hash ++ (o :: bvs m.secret))) (bvs m.point) (bvs m.tag ++ [.int .i64 m.number, .int .i64 m.told, r]) (by simp [mcl, List.append_assoc]) (by simp [mcl, List.append_assoc]) (by simp [bvs, hm.hash, hm.secret]) (by simp [bvs, hm.point, hl]) (by simp [bvs, hl])
theorem MsgIn.s9 (h : MsgIn w b m o r) (hm : m.Wf) (l : List UInt8) (hl : l.length = 32) : MsgIn (w.setCells b 102 (bvs l)) b { m with tag := l } o r :=
  h.put 102 (bvs l) ([.int .i64 m.kind, .int .i64 m.channel, .int .i64 m.id, .int .i64 m.amount, .int .i64 m.expiry] ++ (bvs m.hash ++ (o :: (bvs m.secret ++ bvs m.point)))) (bvs m.tag) [.int .i64 m.number, .int .i64 m.told, r] (by simp [mcl, List.append_assoc]) (by simp [mcl, List.append_assoc]) (by simp [bvs, hm.hash, hm.secret, hm.point]) (by simp [bvs, hm.tag, hl]) (by simp [bvs, hl])
theorem MsgIn.s10 (h : MsgIn w b m o r) (hm : m.Wf) (x : Int) : MsgIn (w.setCell ⟨b, 134, none⟩ (.int .i64 x)) b { m with number := x } o r :=
  h.put 134 [_] ([.int .i64 m.kind, .int .i64 m.channel, .int .i64 m.id, .int .i64 m.amount, .int .i64 m.expiry] ++ (bvs m.hash ++ (o :: (bvs m.secret ++ (bvs m.point ++ bvs m.tag))))) [.int .i64 m.number] [.int .i64 m.told, r] (by simp [mcl, List.append_assoc]) (by simp [mcl, List.append_assoc]) (by simp [bvs, hm.hash, hm.secret, hm.point, hm.tag]) rfl (by simp)
theorem MsgIn.s11 (h : MsgIn w b m o r) (hm : m.Wf) (x : Int) : MsgIn (w.setCell ⟨b, 135, none⟩ (.int .i64 x)) b { m with told := x } o r :=
  h.put 135 [_] ([.int .i64 m.kind, .int .i64 m.channel, .int .i64 m.id, .int .i64 m.amount, .int .i64 m.expiry] ++ (bvs m.hash ++ (o :: (bvs m.secret ++ (bvs m.point ++ (bvs m.tag ++ [.int .i64 m.number])))))) [.int .i64 m.told] [r] (by simp [mcl, List.append_assoc]) (by simp [mcl, List.append_assoc]) (by simp [bvs, hm.hash, hm.secret, hm.point, hm.tag]) rfl (by simp)
theorem MsgIn.s12 (h : MsgIn w b m o r) (hm : m.Wf) (v : Value) (l : List UInt8) : MsgIn (w.setCell ⟨b, 136, none⟩ v) b { m with reason := l } o v :=
  h.put 136 [v] ([.int .i64 m.kind, .int .i64 m.channel, .int .i64 m.id, .int .i64 m.amount, .int .i64 m.expiry] ++ (bvs m.hash ++ (o :: (bvs m.secret ++ (bvs m.point ++ (bvs m.tag ++ [.int .i64 m.number, .int .i64 m.told])))))) [r] [] (by simp [mcl, List.append_assoc]) (by simp [mcl, List.append_assoc]) (by simp [bvs, hm.hash, hm.secret, hm.point, hm.tag]) rfl (by simp)
/-- The whole message anew. -/
theorem MsgIn.all (h : MsgIn w b m o r) (hm : m.Wf) {m' : Msg} {o' r' : Value} (hm' : m'.Wf) : MsgIn (w.setCells b 0 (mcl m' o' r')) b m' o' r' :=
  h.put 0 (mcl m' o' r') [] (mcl m o r) [] (by simp) (by simp) rfl (by rw [mcl_length hm, mcl_length hm']) (by rw [mcl_length hm']; omega)
theorem MsgIn.at_hash (h : MsgIn w b m o r) : w.rangeAt b 5 (bvs m.hash) := fun j v hj => h.cell (5 + j) v (mc_hash j v hj)
theorem MsgIn.at_secret (h : MsgIn w b m o r) (hm : m.Wf) : w.rangeAt b 38 (bvs m.secret) := fun j v hj => h.cell (38 + j) v (mc_secret hm j v hj)
theorem MsgIn.at_point (h : MsgIn w b m o r) (hm : m.Wf) : w.rangeAt b 70 (bvs m.point) := fun j v hj => h.cell (70 + j) v (mc_point hm j v hj)
theorem MsgIn.at_tag (h : MsgIn w b m o r) (hm : m.Wf) : w.rangeAt b 102 (bvs m.tag) := fun j v hj => h.cell (102 + j) v (mc_tag hm j v hj)
end

/-! ### operations -/
section
variable {ops : Array Oper} {rest : List Oper} {a : Act} {Q : Exit → Act → World → Prop} {W : World} {rt : TypeId} {pos : String} {after : Array Edge}
theorem wl_box {P : Program} (d : Tmp) (ty : TypeId) (x : Operand) (C : Array Value) (hx : a.eval x = .agg C) (h : ∀ W', W' = W.alloc (.cells C ty) → wpList P ops Q rest (a.put (some d) (.pointer (some ⟨W.heap.size, 0, none⟩))) W') :
    wpList P ops Q ({ dst := some d, op := .box ty x, type := rt, pos := pos, after := after, guard := none } :: rest) a W := by
  refine wpList_plain rfl fun K hK => ?_
  unfold Oper.wp execOp
  simp only [hx]
  have := h _ rfl
  simp only [go_sem] at this ⊢
  exact hK _ _ this
theorem wl_alloc {P : Program} (d : Tmp) (ty : TypeId) (C : Array Value) (hz : ∀ W : World, (zeroValue ty).run P W = .ok (.agg C) W) (h : ∀ W', W' = W.alloc (.cells C ty) → wpList P ops Q rest (a.put (some d) (.pointer (some ⟨W.heap.size, 0, none⟩))) W') :
    wpList P ops Q ({ dst := some d, op := .alloc ty, type := rt, pos := pos, after := after, guard := none } :: rest) a W := by
  refine wpList_plain rfl fun K hK => ?_
  unfold Oper.wp execOp
  have := h _ rfl
  simp only [Sem.run_bind, hz, Result.andThen_ok, go_sem] at this ⊢
  exact hK _ _ this
/-- 'm.f = x', one cell. -/
theorem wl_put {P : Program} (ty : TypeId) (x y : Operand) (b k : Nat) (v : Value) (hx : a.eval x = .pointer (some ⟨b, k, none⟩)) (hy : a.eval y = v) (hi : (P.info? ty).map (·.size) = some 1) (hc : v.cells = #[v]) (ho : v.oneCell' = true) (h1 : (W.cell? ⟨b, k, none⟩).isSome = true) (h2 : W.frozen? ⟨b, k, none⟩ = false)
    (h : ∀ W', W' = W.setCell ⟨b, k, none⟩ v → wpList P ops Q rest (a.put none undef) W') :
    wpList P ops Q ({ dst := none, op := .store ty x y, type := rt, pos := pos, after := after, guard := none } :: rest) a W := by
  refine wpList_plain rfl fun K hK => ?_
  have hr : (Instr.storeAt ty (.pointer (some ⟨b, k, none⟩)) v).run P W = .ok () (W.setCell ⟨b, k, none⟩ v) := by
    have := run_storeCells_cells (P := P) b k [v] 0 W (fun j hj => by simp at hj; subst hj; simpa using h1) (fun j hj => by simp at hj; subst hj; simpa using h2) (by simpa using ho)
    cases hq : P.info? ty with
    | none => simp [hq] at hi
    | some i =>
      have hs : i.size = 1 := by simpa [hq] using hi
      simp only [Nat.add_zero] at this
      simp [Instr.storeAt, Instr.sureAddr, storeVar, sizeOf, typeInfo, hq, hc, hs, this, setCells_one]
  unfold Oper.wp execOp
  simp only [hx, hy, Sem.run_bind, hr, Result.andThen_ok, Sem.run_pure]
  exact hK _ _ (h _ rfl)
/-- '*p = v', many cells. -/
theorem wl_puts {P : Program} (ty : TypeId) (x y : Operand) (b k : Nat) (vs : List Value) (hx : a.eval x = .pointer (some ⟨b, k, none⟩)) (hy : a.eval y = .agg vs.toArray) (hi : (P.info? ty).map (·.size) = some vs.length) (ho : ∀ v ∈ vs, v.oneCell' = true) (ht : W.there b k vs.length)
    (h : ∀ W', W' = W.setCells b k vs → wpList P ops Q rest (a.put none undef) W') :
    wpList P ops Q ({ dst := none, op := .store ty x y, type := rt, pos := pos, after := after, guard := none } :: rest) a W :=
  wpList_store_mid rfl ty x y rfl b k vs.toArray hx hy (by simpa using ht) (by simpa using hi) (all_oneCell_toArray ho) (by simpa using h _ rfl)
end
/-- What is returned out of a result's cell. -/
theorem results_msg {fn : Func} {p : Tmp} (h : fn.results = #[.cell p 25]) (tmps : Array Value) {w : World} {b : Nat} {m : Msg} {o r : Value} (hp : tmps.getD p undef = .pointer (some ⟨b, 0, none⟩)) (hM : MsgIn w b m o r) (hm : m.Wf) :
    (results fn tmps).run Try.prog w = .ok (.agg (mc m o r)) w := by
  have hp' : tmps[p]?.getD undef = .pointer (some ⟨b, 0, none⟩) := by simpa using hp
  have hl := run_loadVar_mid (P := Try.prog) w b 0 25 (mcl m o r) _ hM.range Try.underlying25 rfl (size_mc m o r hm)
  simp [results, h, hp', asAddr, hl, mc]
theorem results_msg_tmp {fn : Func} {p u : Tmp} (h : fn.results = #[.cell p 25, .tmp u]) (tmps : Array Value) {w : World} {b : Nat} {m : Msg} {o r : Value} (hp : tmps.getD p undef = .pointer (some ⟨b, 0, none⟩)) (hM : MsgIn w b m o r) (hm : m.Wf) :
    (results fn tmps).run Try.prog w = .ok (.tuple #[.agg (mc m o r), tmps.getD u undef]) w := by
  have hl := run_loadVar_mid (P := Try.prog) w b 0 25 (mcl m o r) _ hM.range Try.underlying25 rfl (size_mc m o r hm)
  rw [results_cell_tmp h, hp]
  simp [asAddr, hl, mc, Result.andThen]
theorem three_blocks {w W1 W2 W3 : World} {to m z : Msg} {o r o' r' p q : Value} (E1 : W1 = w.alloc (.cells (mc to o r) 25)) (E2 : W2 = W1.alloc (.cells (mc m o' r') 25)) (E3 : W3 = W2.alloc (.cells (mc z p q) 25)) (hto : to.Wf) (hm : m.Wf) (hz : z.Wf) :
    MsgIn W3 w.heap.size to o r ∧ MsgIn W3 (w.heap.size + 1) m o' r' ∧ MsgIn W3 (w.heap.size + 2) z p q ∧ Below w.heap.size w W3 ∧ W3.heap.size = w.heap.size + 3 := by
  have z1 : W1.heap.size = w.heap.size + 1 := by rw [E1]; simp
  have z2 : W2.heap.size = w.heap.size + 2 := by rw [E2]; simp [z1]
  have hA : MsgIn W1 w.heap.size to o r := by rw [E1]; exact msgIn_new w hto
  have hB : MsgIn W2 (w.heap.size + 1) m o' r' := by rw [E2, ← z1]; exact msgIn_new W1 hm
  have hC : MsgIn W3 (w.heap.size + 2) z p q := by rw [E3, ← z2]; exact msgIn_new W2 hz
  refine ⟨by rw [E3]; exact MsgIn.alloc (by rw [E2]; exact hA.alloc _) _, by rw [E3]; exact hB.alloc _, hC, ?_, by rw [E3]; simp [z2]⟩
  rw [E3, E2, E1]
  exact (((Below.refl _ w).alloc (Nat.le_refl _) _).alloc (by simp) _).alloc (by simp; omega) _
end Go.Proofs.Ytdohenfbehpplaa
/- tollhouseref06.copied. (Printed by a program of mine.) -/
namespace Go.Proofs.Ytdohenfbehpplaa
set_option linter.unusedVariables false
set_option linter.unusedSimpArgs false
open Go.RowKit
attribute [local irreducible] Go.wpList

set_option maxRecDepth 20000 in
set_option maxHeartbeats 1600000 in
theorem copied1 (to m : Msg) (o r o' r' : Value) (w : World) (hto : to.Wf) (hm : m.Wf) (ho : o.oneCell' = true) (hr : r.oneCell' = true) :
    Calls Try.prog 38 #[.agg (mc to o r), .agg (mc m o' r'), .int .u64 1] w fun e w' => e = .returned (.agg (mc { to with channel := m.channel } o r)) ∧ Below w.heap.size w w' := by
  have hm' : ({ to with channel := m.channel } : Msg).Wf := ⟨hto.hash, hto.secret, hto.point, hto.tag, hto.kind, hm.channel, hto.id, hto.amount, hto.expiry, hto.number, hto.told, hto.onion, hto.reason⟩
  have HW := Lib.hid hm'
  go_enter Try.func38, Try.ntmps38
  go_wp2_with (first | (refine wl_box 3 _ _ _ rfl ?_; intro W1 e1; have E1 := Lib.hid e1; have z1 : W1.heap.size = w.heap.size + 1 := (by rw [e1]; simp); clear e1) | (refine wl_box 4 _ _ _ rfl ?_; intro W2 e2; have E2 := Lib.hid e2; have z2 : W2.heap.size = w.heap.size + 2 := (by rw [e2]; simp [z1]); clear e2) | (refine wl_alloc 6 _ _ zero_msg ?_; intro W3 e3; have T := three_blocks E1.out E2.out e3 hto hm zmsg_wf; obtain ⟨HA, HB, HC, HBl, z3⟩ := T; clear E1 E2 e3; have c1 := HB.cell 1 _ mc_1; rw [z1, z2]) | (refine wl_put 3 _ _ w.heap.size 1 (.int .i64 m.channel) rfl rfl (by kernel_rfl) rfl rfl (HA.ok 1 (by decide)).1 (HA.ok 1 (by decide)).2 ?_; intro W4 e4; have HA4 := HA.s1 m.channel; rw [← e4] at HA4; have HT : Tch w.heap.size W3 W4 := (by rw [e4]; exact tch_setCell _ _ _ _); have HC4 := HC.tch HT (by omega); have HBl4 := HT.below HBl (Nat.le_refl _); clear e4 HT HA HB HC HBl c1) | (refine wl_load 68 25 _ w.heap.size 0 (mcl { to with channel := m.channel } o r) _ rfl rfl Try.underlying25 rfl (size_mc _ _ _ HW.out) HA4.range ?_) | (refine wl_puts 25 _ _ (w.heap.size + 2) 0 (mcl { to with channel := m.channel } o r) rfl rfl (size_mc _ _ _ HW.out) (mcl_one ho hr) (by rw [mcl_length HW.out]; exact HC4.there) ?_; intro W5 e5; have HC5 := HC4.all zmsg_wf HW.out (o' := o) (r' := r); rw [← e5] at HC5; have HT : Tch (w.heap.size + 2) W4 W5 := (by rw [e5]; exact tch_setCells _ _ _ _); have HBl5 := HT.below HBl4 (by omega); clear e5 HT HA4 HC4 HBl4))
  (try simp only [Exit.inBlock, Exit.then])
  exact bodyPost_ret (results_msg rfl _ rfl HC5 HW.out) rfl ⟨rfl, HBl5⟩
set_option maxRecDepth 20000 in
set_option maxHeartbeats 1600000 in
theorem copied3 (to m : Msg) (o r o' r' : Value) (w : World) (hto : to.Wf) (hm : m.Wf) (ho : o.oneCell' = true) (hr : r.oneCell' = true) :
    Calls Try.prog 38 #[.agg (mc to o r), .agg (mc m o' r'), .int .u64 3] w fun e w' => e = .returned (.agg (mc { to with id := m.id } o r)) ∧ Below w.heap.size w w' := by
  have hm' : ({ to with id := m.id } : Msg).Wf := ⟨hto.hash, hto.secret, hto.point, hto.tag, hto.kind, hto.channel, hm.id, hto.amount, hto.expiry, hto.number, hto.told, hto.onion, hto.reason⟩
  have HW := Lib.hid hm'
  go_enter Try.func38, Try.ntmps38
  go_wp2_with (first | (refine wl_box 3 _ _ _ rfl ?_; intro W1 e1; have E1 := Lib.hid e1; have z1 : W1.heap.size = w.heap.size + 1 := (by rw [e1]; simp); clear e1) | (refine wl_box 4 _ _ _ rfl ?_; intro W2 e2; have E2 := Lib.hid e2; have z2 : W2.heap.size = w.heap.size + 2 := (by rw [e2]; simp [z1]); clear e2) | (refine wl_alloc 6 _ _ zero_msg ?_; intro W3 e3; have T := three_blocks E1.out E2.out e3 hto hm zmsg_wf; obtain ⟨HA, HB, HC, HBl, z3⟩ := T; clear E1 E2 e3; have c1 := HB.cell 2 _ mc_2; rw [z1, z2]) | (refine wl_put 3 _ _ w.heap.size 2 (.int .i64 m.id) rfl rfl (by kernel_rfl) rfl rfl (HA.ok 2 (by decide)).1 (HA.ok 2 (by decide)).2 ?_; intro W4 e4; have HA4 := HA.s2 m.id; rw [← e4] at HA4; have HT : Tch w.heap.size W3 W4 := (by rw [e4]; exact tch_setCell _ _ _ _); have HC4 := HC.tch HT (by omega); have HBl4 := HT.below HBl (Nat.le_refl _); clear e4 HT HA HB HC HBl c1) | (refine wl_load 68 25 _ w.heap.size 0 (mcl { to with id := m.id } o r) _ rfl rfl Try.underlying25 rfl (size_mc _ _ _ HW.out) HA4.range ?_) | (refine wl_puts 25 _ _ (w.heap.size + 2) 0 (mcl { to with id := m.id } o r) rfl rfl (size_mc _ _ _ HW.out) (mcl_one ho hr) (by rw [mcl_length HW.out]; exact HC4.there) ?_; intro W5 e5; have HC5 := HC4.all zmsg_wf HW.out (o' := o) (r' := r); rw [← e5] at HC5; have HT : Tch (w.heap.size + 2) W4 W5 := (by rw [e5]; exact tch_setCells _ _ _ _); have HBl5 := HT.below HBl4 (by omega); clear e5 HT HA4 HC4 HBl4))
  (try simp only [Exit.inBlock, Exit.then])
  exact bodyPost_ret (results_msg rfl _ rfl HC5 HW.out) rfl ⟨rfl, HBl5⟩
set_option maxRecDepth 20000 in
set_option maxHeartbeats 1600000 in
theorem copied5 (to m : Msg) (o r o' r' : Value) (w : World) (hto : to.Wf) (hm : m.Wf) (ho : o.oneCell' = true) (hr : r.oneCell' = true) :
    Calls Try.prog 38 #[.agg (mc to o r), .agg (mc m o' r'), .int .u64 5] w fun e w' => e = .returned (.agg (mc { to with amount := m.amount } o r)) ∧ Below w.heap.size w w' := by
  have hm' : ({ to with amount := m.amount } : Msg).Wf := ⟨hto.hash, hto.secret, hto.point, hto.tag, hto.kind, hto.channel, hto.id, hm.amount, hto.expiry, hto.number, hto.told, hto.onion, hto.reason⟩
  have HW := Lib.hid hm'
  go_enter Try.func38, Try.ntmps38
  go_wp2_with (first | (refine wl_box 3 _ _ _ rfl ?_; intro W1 e1; have E1 := Lib.hid e1; have z1 : W1.heap.size = w.heap.size + 1 := (by rw [e1]; simp); clear e1) | (refine wl_box 4 _ _ _ rfl ?_; intro W2 e2; have E2 := Lib.hid e2; have z2 : W2.heap.size = w.heap.size + 2 := (by rw [e2]; simp [z1]); clear e2) | (refine wl_alloc 6 _ _ zero_msg ?_; intro W3 e3; have T := three_blocks E1.out E2.out e3 hto hm zmsg_wf; obtain ⟨HA, HB, HC, HBl, z3⟩ := T; clear E1 E2 e3; have c1 := HB.cell 3 _ mc_3; rw [z1, z2]) | (refine wl_put 3 _ _ w.heap.size 3 (.int .i64 m.amount) rfl rfl (by kernel_rfl) rfl rfl (HA.ok 3 (by decide)).1 (HA.ok 3 (by decide)).2 ?_; intro W4 e4; have HA4 := HA.s3 m.amount; rw [← e4] at HA4; have HT : Tch w.heap.size W3 W4 := (by rw [e4]; exact tch_setCell _ _ _ _); have HC4 := HC.tch HT (by omega); have HBl4 := HT.below HBl (Nat.le_refl _); clear e4 HT HA HB HC HBl c1) | (refine wl_load 68 25 _ w.heap.size 0 (mcl { to with amount := m.amount } o r) _ rfl rfl Try.underlying25 rfl (size_mc _ _ _ HW.out) HA4.range ?_) | (refine wl_puts 25 _ _ (w.heap.size + 2) 0 (mcl { to with amount := m.amount } o r) rfl rfl (size_mc _ _ _ HW.out) (mcl_one ho hr) (by rw [mcl_length HW.out]; exact HC4.there) ?_; intro W5 e5; have HC5 := HC4.all zmsg_wf HW.out (o' := o) (r' := r); rw [← e5] at HC5; have HT : Tch (w.heap.size + 2) W4 W5 := (by rw [e5]; exact tch_setCells _ _ _ _); have HBl5 := HT.below HBl4 (by omega); clear e5 HT HA4 HC4 HBl4))
  (try simp only [Exit.inBlock, Exit.then])
  exact bodyPost_ret (results_msg rfl _ rfl HC5 HW.out) rfl ⟨rfl, HBl5⟩
set_option maxRecDepth 20000 in
set_option maxHeartbeats 1600000 in
theorem copied7 (to m : Msg) (o r o' r' : Value) (w : World) (hto : to.Wf) (hm : m.Wf) (ho : o.oneCell' = true) (hr : r.oneCell' = true) :
    Calls Try.prog 38 #[.agg (mc to o r), .agg (mc m o' r'), .int .u64 7] w fun e w' => e = .returned (.agg (mc { to with expiry := m.expiry } o r)) ∧ Below w.heap.size w w' := by
  have hm' : ({ to with expiry := m.expiry } : Msg).Wf := ⟨hto.hash, hto.secret, hto.point, hto.tag, hto.kind, hto.channel, hto.id, hto.amount, hm.expiry, hto.number, hto.told, hto.onion, hto.reason⟩
  have HW := Lib.hid hm'
  go_enter Try.func38, Try.ntmps38
  go_wp2_with (first | (refine wl_box 3 _ _ _ rfl ?_; intro W1 e1; have E1 := Lib.hid e1; have z1 : W1.heap.size = w.heap.size + 1 := (by rw [e1]; simp); clear e1) | (refine wl_box 4 _ _ _ rfl ?_; intro W2 e2; have E2 := Lib.hid e2; have z2 : W2.heap.size = w.heap.size + 2 := (by rw [e2]; simp [z1]); clear e2) | (refine wl_alloc 6 _ _ zero_msg ?_; intro W3 e3; have T := three_blocks E1.out E2.out e3 hto hm zmsg_wf; obtain ⟨HA, HB, HC, HBl, z3⟩ := T; clear E1 E2 e3; have c1 := HB.cell 4 _ mc_4; rw [z1, z2]) | (refine wl_put 3 _ _ w.heap.size 4 (.int .i64 m.expiry) rfl rfl (by kernel_rfl) rfl rfl (HA.ok 4 (by decide)).1 (HA.ok 4 (by decide)).2 ?_; intro W4 e4; have HA4 := HA.s4 m.expiry; rw [← e4] at HA4; have HT : Tch w.heap.size W3 W4 := (by rw [e4]; exact tch_setCell _ _ _ _); have HC4 := HC.tch HT (by omega); have HBl4 := HT.below HBl (Nat.le_refl _); clear e4 HT HA HB HC HBl c1) | (refine wl_load 68 25 _ w.heap.size 0 (mcl { to with expiry := m.expiry } o r) _ rfl rfl Try.underlying25 rfl (size_mc _ _ _ HW.out) HA4.range ?_) | (refine wl_puts 25 _ _ (w.heap.size + 2) 0 (mcl { to with expiry := m.expiry } o r) rfl rfl (size_mc _ _ _ HW.out) (mcl_one ho hr) (by rw [mcl_length HW.out]; exact HC4.there) ?_; intro W5 e5; have HC5 := HC4.all zmsg_wf HW.out (o' := o) (r' := r); rw [← e5] at HC5; have HT : Tch (w.heap.size + 2) W4 W5 := (by rw [e5]; exact tch_setCells _ _ _ _); have HBl5 := HT.below HBl4 (by omega); clear e5 HT HA4 HC4 HBl4))
  (try simp only [Exit.inBlock, Exit.then])
  exact bodyPost_ret (results_msg rfl _ rfl HC5 HW.out) rfl ⟨rfl, HBl5⟩
set_option maxRecDepth 20000 in
set_option maxHeartbeats 1600000 in
theorem copied9 (to m : Msg) (o r o' r' : Value) (w : World) (hto : to.Wf) (hm : m.Wf) (ho : o.oneCell' = true) (hr : r.oneCell' = true) :
    Calls Try.prog 38 #[.agg (mc to o r), .agg (mc m o' r'), .int .u64 9] w fun e w' => e = .returned (.agg (mc { to with hash := m.hash } o r)) ∧ Below w.heap.size w w' := by
  have hm' : ({ to with hash := m.hash } : Msg).Wf := ⟨hm.hash, hto.secret, hto.point, hto.tag, hto.kind, hto.channel, hto.id, hto.amount, hto.expiry, hto.number, hto.told, hto.onion, hto.reason⟩
  have HW := Lib.hid hm'
  go_enter Try.func38, Try.ntmps38
  go_wp2_with (first | (refine wl_box 3 _ _ _ rfl ?_; intro W1 e1; have E1 := Lib.hid e1; have z1 : W1.heap.size = w.heap.size + 1 := (by rw [e1]; simp); clear e1) | (refine wl_box 4 _ _ _ rfl ?_; intro W2 e2; have E2 := Lib.hid e2; have z2 : W2.heap.size = w.heap.size + 2 := (by rw [e2]; simp [z1]); clear e2) | (refine wl_alloc 6 _ _ zero_msg ?_; intro W3 e3; have T := three_blocks E1.out E2.out e3 hto hm zmsg_wf; obtain ⟨HA, HB, HC, HBl, z3⟩ := T; clear E1 E2 e3; rw [z1, z2]) | (refine wl_load 31 23 _ (w.heap.size + 1) 5 (bvs m.hash) _ rfl rfl Try.underlying23 rfl (by rw [bvs_length, hm.hash]; kernel_rfl) (HB.at_hash) ?_) | (refine wl_puts 23 _ _ w.heap.size 5 (bvs m.hash) rfl rfl (by rw [bvs_length, hm.hash]; kernel_rfl) (bvs_one _) (fun j hj => HA.ok (5 + j) (by rw [bvs_length, hm.hash] at hj; omega)) ?_; intro W4 e4; have HA4 := HA.s5 hto m.hash hm.hash; rw [← e4] at HA4; have HT : Tch w.heap.size W3 W4 := (by rw [e4]; exact tch_setCells _ _ _ _); have HC4 := HC.tch HT (by omega); have HBl4 := HT.below HBl (Nat.le_refl _); clear e4 HT HA HB HC HBl) | (refine wl_load 68 25 _ w.heap.size 0 (mcl { to with hash := m.hash } o r) _ rfl rfl Try.underlying25 rfl (size_mc _ _ _ HW.out) HA4.range ?_) | (refine wl_puts 25 _ _ (w.heap.size + 2) 0 (mcl { to with hash := m.hash } o r) rfl rfl (size_mc _ _ _ HW.out) (mcl_one ho hr) (by rw [mcl_length HW.out]; exact HC4.there) ?_; intro W5 e5; have HC5 := HC4.all zmsg_wf HW.out (o' := o) (r' := r); rw [← e5] at HC5; have HT : Tch (w.heap.size + 2) W4 W5 := (by rw [e5]; exact tch_setCells _ _ _ _); have HBl5 := HT.below HBl4 (by omega); clear e5 HT HA4 HC4 HBl4))
  (try simp only [Exit.inBlock, Exit.then])
  exact bodyPost_ret (results_msg rfl _ rfl HC5 HW.out) rfl ⟨rfl, HBl5⟩
set_option maxRecDepth 20000 in
set_option maxHeartbeats 1600000 in
theorem copied11 (to m : Msg) (o r o' r' : Value) (w : World) (hto : to.Wf) (hm : m.Wf) (ho : o.oneCell' = true) (hr : r.oneCell' = true) (ho' : ∃ A n c, o' = .slice A n c) (hr' : ∃ A n c, r' = .slice A n c) :
    Calls Try.prog 38 #[.agg (mc to o r), .agg (mc m o' r'), .int .u64 11] w fun e w' => e = .returned (.agg (mc { to with onion := m.onion } o' r)) ∧ Below w.heap.size w w' := by
  obtain ⟨A, n, c, rfl⟩ := ho'
  have ho : (Value.slice A n c).oneCell' = true := rfl
  have hm' : ({ to with onion := m.onion } : Msg).Wf := ⟨hto.hash, hto.secret, hto.point, hto.tag, hto.kind, hto.channel, hto.id, hto.amount, hto.expiry, hto.number, hto.told, hm.onion, hto.reason⟩
  have HW := Lib.hid hm'
  go_enter Try.func38, Try.ntmps38
  go_wp2_with (first | (refine wl_box 3 _ _ _ rfl ?_; intro W1 e1; have E1 := Lib.hid e1; have z1 : W1.heap.size = w.heap.size + 1 := (by rw [e1]; simp); clear e1) | (refine wl_box 4 _ _ _ rfl ?_; intro W2 e2; have E2 := Lib.hid e2; have z2 : W2.heap.size = w.heap.size + 2 := (by rw [e2]; simp [z1]); clear e2) | (refine wl_alloc 6 _ _ zero_msg ?_; intro W3 e3; have T := three_blocks E1.out E2.out e3 hto hm zmsg_wf; obtain ⟨HA, HB, HC, HBl, z3⟩ := T; clear E1 E2 e3; have c1 := HB.cell 37 _ (mc_37 hm); rw [z1, z2]) | (refine wl_put 22 _ _ w.heap.size 37 (.slice A n c) rfl rfl (by kernel_rfl) rfl rfl (HA.ok 37 (by decide)).1 (HA.ok 37 (by decide)).2 ?_; intro W4 e4; have HA4 := HA.s6 hto (.slice A n c) m.onion; rw [← e4] at HA4; have HT : Tch w.heap.size W3 W4 := (by rw [e4]; exact tch_setCell _ _ _ _); have HC4 := HC.tch HT (by omega); have HBl4 := HT.below HBl (Nat.le_refl _); clear e4 HT HA HB HC HBl c1) | (refine wl_load 68 25 _ w.heap.size 0 (mcl { to with onion := m.onion } (.slice A n c) r) _ rfl rfl Try.underlying25 rfl (size_mc _ _ _ HW.out) HA4.range ?_) | (refine wl_puts 25 _ _ (w.heap.size + 2) 0 (mcl { to with onion := m.onion } (.slice A n c) r) rfl rfl (size_mc _ _ _ HW.out) (mcl_one ho hr) (by rw [mcl_length HW.out]; exact HC4.there) ?_; intro W5 e5; have HC5 := HC4.all zmsg_wf HW.out (o' := (.slice A n c)) (r' := r); rw [← e5] at HC5; have HT : Tch (w.heap.size + 2) W4 W5 := (by rw [e5]; exact tch_setCells _ _ _ _); have HBl5 := HT.below HBl4 (by omega); clear e5 HT HA4 HC4 HBl4))
  (try simp only [Exit.inBlock, Exit.then])
  exact bodyPost_ret (results_msg rfl _ rfl HC5 HW.out) rfl ⟨rfl, HBl5⟩
set_option maxRecDepth 20000 in
set_option maxHeartbeats 1600000 in
theorem copied13 (to m : Msg) (o r o' r' : Value) (w : World) (hto : to.Wf) (hm : m.Wf) (ho : o.oneCell' = true) (hr : r.oneCell' = true) :
    Calls Try.prog 38 #[.agg (mc to o r), .agg (mc m o' r'), .int .u64 13] w fun e w' => e = .returned (.agg (mc { to with secret := m.secret } o r)) ∧ Below w.heap.size w w' := by
  have hm' : ({ to with secret := m.secret } : Msg).Wf := ⟨hto.hash, hm.secret, hto.point, hto.tag, hto.kind, hto.channel, hto.id, hto.amount, hto.expiry, hto.number, hto.told, hto.onion, hto.reason⟩
  have HW := Lib.hid hm'
  go_enter Try.func38, Try.ntmps38
  go_wp2_with (first | (refine wl_box 3 _ _ _ rfl ?_; intro W1 e1; have E1 := Lib.hid e1; have z1 : W1.heap.size = w.heap.size + 1 := (by rw [e1]; simp); clear e1) | (refine wl_box 4 _ _ _ rfl ?_; intro W2 e2; have E2 := Lib.hid e2; have z2 : W2.heap.size = w.heap.size + 2 := (by rw [e2]; simp [z1]); clear e2) | (refine wl_alloc 6 _ _ zero_msg ?_; intro W3 e3; have T := three_blocks E1.out E2.out e3 hto hm zmsg_wf; obtain ⟨HA, HB, HC, HBl, z3⟩ := T; clear E1 E2 e3; rw [z1, z2]) | (refine wl_load 41 23 _ (w.heap.size + 1) 38 (bvs m.secret) _ rfl rfl Try.underlying23 rfl (by rw [bvs_length, hm.secret]; kernel_rfl) (HB.at_secret hm) ?_) | (refine wl_puts 23 _ _ w.heap.size 38 (bvs m.secret) rfl rfl (by rw [bvs_length, hm.secret]; kernel_rfl) (bvs_one _) (fun j hj => HA.ok (38 + j) (by rw [bvs_length, hm.secret] at hj; omega)) ?_; intro W4 e4; have HA4 := HA.s7 hto m.secret hm.secret; rw [← e4] at HA4; have HT : Tch w.heap.size W3 W4 := (by rw [e4]; exact tch_setCells _ _ _ _); have HC4 := HC.tch HT (by omega); have HBl4 := HT.below HBl (Nat.le_refl _); clear e4 HT HA HB HC HBl) | (refine wl_load 68 25 _ w.heap.size 0 (mcl { to with secret := m.secret } o r) _ rfl rfl Try.underlying25 rfl (size_mc _ _ _ HW.out) HA4.range ?_) | (refine wl_puts 25 _ _ (w.heap.size + 2) 0 (mcl { to with secret := m.secret } o r) rfl rfl (size_mc _ _ _ HW.out) (mcl_one ho hr) (by rw [mcl_length HW.out]; exact HC4.there) ?_; intro W5 e5; have HC5 := HC4.all zmsg_wf HW.out (o' := o) (r' := r); rw [← e5] at HC5; have HT : Tch (w.heap.size + 2) W4 W5 := (by rw [e5]; exact tch_setCells _ _ _ _); have HBl5 := HT.below HBl4 (by omega); clear e5 HT HA4 HC4 HBl4))
  (try simp only [Exit.inBlock, Exit.then])
  exact bodyPost_ret (results_msg rfl _ rfl HC5 HW.out) rfl ⟨rfl, HBl5⟩
set_option maxRecDepth 20000 in
set_option maxHeartbeats 1600000 in
theorem copied15 (to m : Msg) (o r o' r' : Value) (w : World) (hto : to.Wf) (hm : m.Wf) (ho : o.oneCell' = true) (hr : r.oneCell' = true) :
    Calls Try.prog 38 #[.agg (mc to o r), .agg (mc m o' r'), .int .u64 15] w fun e w' => e = .returned (.agg (mc { to with point := m.point } o r)) ∧ Below w.heap.size w w' := by
  have hm' : ({ to with point := m.point } : Msg).Wf := ⟨hto.hash, hto.secret, hm.point, hto.tag, hto.kind, hto.channel, hto.id, hto.amount, hto.expiry, hto.number, hto.told, hto.onion, hto.reason⟩
  have HW := Lib.hid hm'
  go_enter Try.func38, Try.ntmps38
  go_wp2_with (first | (refine wl_box 3 _ _ _ rfl ?_; intro W1 e1; have E1 := Lib.hid e1; have z1 : W1.heap.size = w.heap.size + 1 := (by rw [e1]; simp); clear e1) | (refine wl_box 4 _ _ _ rfl ?_; intro W2 e2; have E2 := Lib.hid e2; have z2 : W2.heap.size = w.heap.size + 2 := (by rw [e2]; simp [z1]); clear e2) | (refine wl_alloc 6 _ _ zero_msg ?_; intro W3 e3; have T := three_blocks E1.out E2.out e3 hto hm zmsg_wf; obtain ⟨HA, HB, HC, HBl, z3⟩ := T; clear E1 E2 e3; rw [z1, z2]) | (refine wl_load 46 23 _ (w.heap.size + 1) 70 (bvs m.point) _ rfl rfl Try.underlying23 rfl (by rw [bvs_length, hm.point]; kernel_rfl) (HB.at_point hm) ?_) | (refine wl_puts 23 _ _ w.heap.size 70 (bvs m.point) rfl rfl (by rw [bvs_length, hm.point]; kernel_rfl) (bvs_one _) (fun j hj => HA.ok (70 + j) (by rw [bvs_length, hm.point] at hj; omega)) ?_; intro W4 e4; have HA4 := HA.s8 hto m.point hm.point; rw [← e4] at HA4; have HT : Tch w.heap.size W3 W4 := (by rw [e4]; exact tch_setCells _ _ _ _); have HC4 := HC.tch HT (by omega); have HBl4 := HT.below HBl (Nat.le_refl _); clear e4 HT HA HB HC HBl) | (refine wl_load 68 25 _ w.heap.size 0 (mcl { to with point := m.point } o r) _ rfl rfl Try.underlying25 rfl (size_mc _ _ _ HW.out) HA4.range ?_) | (refine wl_puts 25 _ _ (w.heap.size + 2) 0 (mcl { to with point := m.point } o r) rfl rfl (size_mc _ _ _ HW.out) (mcl_one ho hr) (by rw [mcl_length HW.out]; exact HC4.there) ?_; intro W5 e5; have HC5 := HC4.all zmsg_wf HW.out (o' := o) (r' := r); rw [← e5] at HC5; have HT : Tch (w.heap.size + 2) W4 W5 := (by rw [e5]; exact tch_setCells _ _ _ _); have HBl5 := HT.below HBl4 (by omega); clear e5 HT HA4 HC4 HBl4))
  (try simp only [Exit.inBlock, Exit.then])
  exact bodyPost_ret (results_msg rfl _ rfl HC5 HW.out) rfl ⟨rfl, HBl5⟩
set_option maxRecDepth 20000 in
set_option maxHeartbeats 1600000 in
theorem copied17 (to m : Msg) (o r o' r' : Value) (w : World) (hto : to.Wf) (hm : m.Wf) (ho : o.oneCell' = true) (hr : r.oneCell' = true) :
    Calls Try.prog 38 #[.agg (mc to o r), .agg (mc m o' r'), .int .u64 17] w fun e w' => e = .returned (.agg (mc { to with tag := m.tag } o r)) ∧ Below w.heap.size w w' := by
  have hm' : ({ to with tag := m.tag } : Msg).Wf := ⟨hto.hash, hto.secret, hto.point, hm.tag, hto.kind, hto.channel, hto.id, hto.amount, hto.expiry, hto.number, hto.told, hto.onion, hto.reason⟩
  have HW := Lib.hid hm'
  go_enter Try.func38, Try.ntmps38
  go_wp2_with (first | (refine wl_box 3 _ _ _ rfl ?_; intro W1 e1; have E1 := Lib.hid e1; have z1 : W1.heap.size = w.heap.size + 1 := (by rw [e1]; simp); clear e1) | (refine wl_box 4 _ _ _ rfl ?_; intro W2 e2; have E2 := Lib.hid e2; have z2 : W2.heap.size = w.heap.size + 2 := (by rw [e2]; simp [z1]); clear e2) | (refine wl_alloc 6 _ _ zero_msg ?_; intro W3 e3; have T := three_blocks E1.out E2.out e3 hto hm zmsg_wf; obtain ⟨HA, HB, HC, HBl, z3⟩ := T; clear E1 E2 e3; rw [z1, z2]) | (refine wl_load 51 23 _ (w.heap.size + 1) 102 (bvs m.tag) _ rfl rfl Try.underlying23 rfl (by rw [bvs_length, hm.tag]; kernel_rfl) (HB.at_tag hm) ?_) | (refine wl_puts 23 _ _ w.heap.size 102 (bvs m.tag) rfl rfl (by rw [bvs_length, hm.tag]; kernel_rfl) (bvs_one _) (fun j hj => HA.ok (102 + j) (by rw [bvs_length, hm.tag] at hj; omega)) ?_; intro W4 e4; have HA4 := HA.s9 hto m.tag hm.tag; rw [← e4] at HA4; have HT : Tch w.heap.size W3 W4 := (by rw [e4]; exact tch_setCells _ _ _ _); have HC4 := HC.tch HT (by omega); have HBl4 := HT.below HBl (Nat.le_refl _); clear e4 HT HA HB HC HBl) | (refine wl_load 68 25 _ w.heap.size 0 (mcl { to with tag := m.tag } o r) _ rfl rfl Try.underlying25 rfl (size_mc _ _ _ HW.out) HA4.range ?_) | (refine wl_puts 25 _ _ (w.heap.size + 2) 0 (mcl { to with tag := m.tag } o r) rfl rfl (size_mc _ _ _ HW.out) (mcl_one ho hr) (by rw [mcl_length HW.out]; exact HC4.there) ?_; intro W5 e5; have HC5 := HC4.all zmsg_wf HW.out (o' := o) (r' := r); rw [← e5] at HC5; have HT : Tch (w.heap.size + 2) W4 W5 := (by rw [e5]; exact tch_setCells _ _ _ _); have HBl5 := HT.below HBl4 (by omega); clear e5 HT HA4 HC4 HBl4))
  (try simp only [Exit.inBlock, Exit.then])
  exact bodyPost_ret (results_msg rfl _ rfl HC5 HW.out) rfl ⟨rfl, HBl5⟩
set_option maxRecDepth 20000 in
set_option maxHeartbeats 1600000 in
theorem copied19 (to m : Msg) (o r o' r' : Value) (w : World) (hto : to.Wf) (hm : m.Wf) (ho : o.oneCell' = true) (hr : r.oneCell' = true) :
    Calls Try.prog 38 #[.agg (mc to o r), .agg (mc m o' r'), .int .u64 19] w fun e w' => e = .returned (.agg (mc { to with number := m.number } o r)) ∧ Below w.heap.size w w' := by
  have hm' : ({ to with number := m.number } : Msg).Wf := ⟨hto.hash, hto.secret, hto.point, hto.tag, hto.kind, hto.channel, hto.id, hto.amount, hto.expiry, hm.number, hto.told, hto.onion, hto.reason⟩
  have HW := Lib.hid hm'
  go_enter Try.func38, Try.ntmps38
  go_wp2_with (first | (refine wl_box 3 _ _ _ rfl ?_; intro W1 e1; have E1 := Lib.hid e1; have z1 : W1.heap.size = w.heap.size + 1 := (by rw [e1]; simp); clear e1) | (refine wl_box 4 _ _ _ rfl ?_; intro W2 e2; have E2 := Lib.hid e2; have z2 : W2.heap.size = w.heap.size + 2 := (by rw [e2]; simp [z1]); clear e2) | (refine wl_alloc 6 _ _ zero_msg ?_; intro W3 e3; have T := three_blocks E1.out E2.out e3 hto hm zmsg_wf; obtain ⟨HA, HB, HC, HBl, z3⟩ := T; clear E1 E2 e3; have c1 := HB.cell 134 _ (mc_134 hm); rw [z1, z2]) | (refine wl_put 3 _ _ w.heap.size 134 (.int .i64 m.number) rfl rfl (by kernel_rfl) rfl rfl (HA.ok 134 (by decide)).1 (HA.ok 134 (by decide)).2 ?_; intro W4 e4; have HA4 := HA.s10 hto m.number; rw [← e4] at HA4; have HT : Tch w.heap.size W3 W4 := (by rw [e4]; exact tch_setCell _ _ _ _); have HC4 := HC.tch HT (by omega); have HBl4 := HT.below HBl (Nat.le_refl _); clear e4 HT HA HB HC HBl c1) | (refine wl_load 68 25 _ w.heap.size 0 (mcl { to with number := m.number } o r) _ rfl rfl Try.underlying25 rfl (size_mc _ _ _ HW.out) HA4.range ?_) | (refine wl_puts 25 _ _ (w.heap.size + 2) 0 (mcl { to with number := m.number } o r) rfl rfl (size_mc _ _ _ HW.out) (mcl_one ho hr) (by rw [mcl_length HW.out]; exact HC4.there) ?_; intro W5 e5; have HC5 := HC4.all zmsg_wf HW.out (o' := o) (r' := r); rw [← e5] at HC5; have HT : Tch (w.heap.size + 2) W4 W5 := (by rw [e5]; exact tch_setCells _ _ _ _); have HBl5 := HT.below HBl4 (by omega); clear e5 HT HA4 HC4 HBl4))
  (try simp only [Exit.inBlock, Exit.then])
  exact bodyPost_ret (results_msg rfl _ rfl HC5 HW.out) rfl ⟨rfl, HBl5⟩
set_option maxRecDepth 20000 in
set_option maxHeartbeats 1600000 in
theorem copied21 (to m : Msg) (o r o' r' : Value) (w : World) (hto : to.Wf) (hm : m.Wf) (ho : o.oneCell' = true) (hr : r.oneCell' = true) :
    Calls Try.prog 38 #[.agg (mc to o r), .agg (mc m o' r'), .int .u64 21] w fun e w' => e = .returned (.agg (mc { to with told := m.told } o r)) ∧ Below w.heap.size w w' := by
  have hm' : ({ to with told := m.told } : Msg).Wf := ⟨hto.hash, hto.secret, hto.point, hto.tag, hto.kind, hto.channel, hto.id, hto.amount, hto.expiry, hto.number, hm.told, hto.onion, hto.reason⟩
  have HW := Lib.hid hm'
  go_enter Try.func38, Try.ntmps38
  go_wp2_with (first | (refine wl_box 3 _ _ _ rfl ?_; intro W1 e1; have E1 := Lib.hid e1; have z1 : W1.heap.size = w.heap.size + 1 := (by rw [e1]; simp); clear e1) | (refine wl_box 4 _ _ _ rfl ?_; intro W2 e2; have E2 := Lib.hid e2; have z2 : W2.heap.size = w.heap.size + 2 := (by rw [e2]; simp [z1]); clear e2) | (refine wl_alloc 6 _ _ zero_msg ?_; intro W3 e3; have T := three_blocks E1.out E2.out e3 hto hm zmsg_wf; obtain ⟨HA, HB, HC, HBl, z3⟩ := T; clear E1 E2 e3; have c1 := HB.cell 135 _ (mc_135 hm); rw [z1, z2]) | (refine wl_put 3 _ _ w.heap.size 135 (.int .i64 m.told) rfl rfl (by kernel_rfl) rfl rfl (HA.ok 135 (by decide)).1 (HA.ok 135 (by decide)).2 ?_; intro W4 e4; have HA4 := HA.s11 hto m.told; rw [← e4] at HA4; have HT : Tch w.heap.size W3 W4 := (by rw [e4]; exact tch_setCell _ _ _ _); have HC4 := HC.tch HT (by omega); have HBl4 := HT.below HBl (Nat.le_refl _); clear e4 HT HA HB HC HBl c1) | (refine wl_load 68 25 _ w.heap.size 0 (mcl { to with told := m.told } o r) _ rfl rfl Try.underlying25 rfl (size_mc _ _ _ HW.out) HA4.range ?_) | (refine wl_puts 25 _ _ (w.heap.size + 2) 0 (mcl { to with told := m.told } o r) rfl rfl (size_mc _ _ _ HW.out) (mcl_one ho hr) (by rw [mcl_length HW.out]; exact HC4.there) ?_; intro W5 e5; have HC5 := HC4.all zmsg_wf HW.out (o' := o) (r' := r); rw [← e5] at HC5; have HT : Tch (w.heap.size + 2) W4 W5 := (by rw [e5]; exact tch_setCells _ _ _ _); have HBl5 := HT.below HBl4 (by omega); clear e5 HT HA4 HC4 HBl4))
  (try simp only [Exit.inBlock, Exit.then])
  exact bodyPost_ret (results_msg rfl _ rfl HC5 HW.out) rfl ⟨rfl, HBl5⟩
set_option maxRecDepth 20000 in
set_option maxHeartbeats 1600000 in
theorem copied23 (to m : Msg) (o r o' r' : Value) (w : World) (hto : to.Wf) (hm : m.Wf) (ho : o.oneCell' = true) (hr : r.oneCell' = true) (ho' : ∃ A n c, o' = .slice A n c) (hr' : ∃ A n c, r' = .slice A n c) :
    Calls Try.prog 38 #[.agg (mc to o r), .agg (mc m o' r'), .int .u64 23] w fun e w' => e = .returned (.agg (mc { to with reason := m.reason } o r')) ∧ Below w.heap.size w w' := by
  obtain ⟨A, n, c, rfl⟩ := hr'
  have hr : (Value.slice A n c).oneCell' = true := rfl
  have hm' : ({ to with reason := m.reason } : Msg).Wf := ⟨hto.hash, hto.secret, hto.point, hto.tag, hto.kind, hto.channel, hto.id, hto.amount, hto.expiry, hto.number, hto.told, hto.onion, hm.reason⟩
  have HW := Lib.hid hm'
  go_enter Try.func38, Try.ntmps38
  go_wp2_with (first | (refine wl_box 3 _ _ _ rfl ?_; intro W1 e1; have E1 := Lib.hid e1; have z1 : W1.heap.size = w.heap.size + 1 := (by rw [e1]; simp); clear e1) | (refine wl_box 4 _ _ _ rfl ?_; intro W2 e2; have E2 := Lib.hid e2; have z2 : W2.heap.size = w.heap.size + 2 := (by rw [e2]; simp [z1]); clear e2) | (refine wl_alloc 6 _ _ zero_msg ?_; intro W3 e3; have T := three_blocks E1.out E2.out e3 hto hm zmsg_wf; obtain ⟨HA, HB, HC, HBl, z3⟩ := T; clear E1 E2 e3; have c1 := HB.cell 136 _ (mc_136 hm); rw [z1, z2]) | (refine wl_put 22 _ _ w.heap.size 136 (.slice A n c) rfl rfl (by kernel_rfl) rfl rfl (HA.ok 136 (by decide)).1 (HA.ok 136 (by decide)).2 ?_; intro W4 e4; have HA4 := HA.s12 hto (.slice A n c) m.reason; rw [← e4] at HA4; have HT : Tch w.heap.size W3 W4 := (by rw [e4]; exact tch_setCell _ _ _ _); have HC4 := HC.tch HT (by omega); have HBl4 := HT.below HBl (Nat.le_refl _); clear e4 HT HA HB HC HBl c1) | (refine wl_load 68 25 _ w.heap.size 0 (mcl { to with reason := m.reason } o (.slice A n c)) _ rfl rfl Try.underlying25 rfl (size_mc _ _ _ HW.out) HA4.range ?_) | (refine wl_puts 25 _ _ (w.heap.size + 2) 0 (mcl { to with reason := m.reason } o (.slice A n c)) rfl rfl (size_mc _ _ _ HW.out) (mcl_one ho hr) (by rw [mcl_length HW.out]; exact HC4.there) ?_; intro W5 e5; have HC5 := HC4.all zmsg_wf HW.out (o' := o) (r' := (.slice A n c)); rw [← e5] at HC5; have HT : Tch (w.heap.size + 2) W4 W5 := (by rw [e5]; exact tch_setCells _ _ _ _); have HBl5 := HT.below HBl4 (by omega); clear e5 HT HA4 HC4 HBl4))
  (try simp only [Exit.inBlock, Exit.then])
  exact bodyPost_ret (results_msg rfl _ rfl HC5 HW.out) rfl ⟨rfl, HBl5⟩
set_option maxRecDepth 20000 in
set_option maxHeartbeats 1600000 in
theorem copied0 (to m : Msg) (t : Nat) (o r o' r' : Value) (w : World) (hto : to.Wf) (hm : m.Wf) (ho : o.oneCell' = true) (hr : r.oneCell' = true) (ht : t < 18446744073709551616)
    (h : t ≠ 1 ∧ t ≠ 3 ∧ t ≠ 5 ∧ t ≠ 7 ∧ t ≠ 9 ∧ t ≠ 11 ∧ t ≠ 13 ∧ t ≠ 15 ∧ t ≠ 17 ∧ t ≠ 19 ∧ t ≠ 21 ∧ t ≠ 23) :
    Calls Try.prog 38 #[.agg (mc to o r), .agg (mc m o' r'), .int .u64 t] w fun e w' => e = .returned (.agg (mc to o r)) ∧ Below w.heap.size w w' := by
  obtain ⟨h1, h3, h5, h7, h9, h11, h13, h15, h17, h19, h21, h23⟩ := h
  have g1 : ((t : Int) == 1) = false := by rw [beq_eq_false_iff_ne]; omega
  have g3 : ((t : Int) == 3) = false := by rw [beq_eq_false_iff_ne]; omega
  have g5 : ((t : Int) == 5) = false := by rw [beq_eq_false_iff_ne]; omega
  have g7 : ((t : Int) == 7) = false := by rw [beq_eq_false_iff_ne]; omega
  have g9 : ((t : Int) == 9) = false := by rw [beq_eq_false_iff_ne]; omega
  have g11 : ((t : Int) == 11) = false := by rw [beq_eq_false_iff_ne]; omega
  have g13 : ((t : Int) == 13) = false := by rw [beq_eq_false_iff_ne]; omega
  have g15 : ((t : Int) == 15) = false := by rw [beq_eq_false_iff_ne]; omega
  have g17 : ((t : Int) == 17) = false := by rw [beq_eq_false_iff_ne]; omega
  have g19 : ((t : Int) == 19) = false := by rw [beq_eq_false_iff_ne]; omega
  have g21 : ((t : Int) == 21) = false := by rw [beq_eq_false_iff_ne]; omega
  have g23 : ((t : Int) == 23) = false := by rw [beq_eq_false_iff_ne]; omega
  clear h1 h3 h5 h7 h9 h11 h13 h15 h17 h19 h21 h23 ht
  go_enter Try.func38, Try.ntmps38
  go_wp2_with (first | (refine wl_box 3 _ _ _ rfl ?_; intro W1 e1; have E1 := Lib.hid e1; have z1 : W1.heap.size = w.heap.size + 1 := (by rw [e1]; simp); clear e1) | (refine wl_box 4 _ _ _ rfl ?_; intro W2 e2; have E2 := Lib.hid e2; have z2 : W2.heap.size = w.heap.size + 2 := (by rw [e2]; simp [z1]); clear e2) | (refine wl_alloc 6 _ _ zero_msg ?_; intro W3 e3; have T := three_blocks E1.out E2.out e3 hto hm zmsg_wf; obtain ⟨HA, HB, HC, HBl, z3⟩ := T; clear E1 E2 e3; rw [z1, z2]) | (refine wl_load 68 25 _ w.heap.size 0 (mcl to o r) _ rfl rfl Try.underlying25 rfl (size_mc _ _ _ hto) HA.range ?_) | (refine wl_puts 25 _ _ (w.heap.size + 2) 0 (mcl to o r) rfl rfl (size_mc _ _ _ hto) (mcl_one ho hr) (by rw [mcl_length hto]; exact HC.there) ?_; intro W5 e5; have HC5 := HC.all zmsg_wf hto (o' := o) (r' := r); rw [← e5] at HC5; have HT : Tch (w.heap.size + 2) W3 W5 := (by rw [e5]; exact tch_setCells _ _ _ _); have HBl5 := HT.below HBl (by omega); clear e5 HT HA HB HC HBl))
  (try simp only [Exit.inBlock, Exit.then])
  exact bodyPost_ret (results_msg rfl _ rfl HC5 hto) rfl ⟨rfl, HBl5⟩
/-- The slices behind a copy. -/
def cpO (o o' : Value) (t : Nat) : Value := if t = 11 then o' else o
def cpR (r r' : Value) (t : Nat) : Value := if t = 23 then r' else r
theorem copied_ok (to m : Msg) (t : Nat) (o r o' r' : Value) (w : World) (hto : to.Wf) (hm : m.Wf) (ho : o.oneCell' = true) (hr : r.oneCell' = true) (ho' : ∃ A n c, o' = .slice A n c) (hr' : ∃ A n c, r' = .slice A n c) (ht : t < 18446744073709551616) :
    Calls Try.prog 38 #[.agg (mc to o r), .agg (mc m o' r'), .int .u64 t] w fun e w' => e = .returned (.agg (mc (cp to m t) (cpO o o' t) (cpR r r' t))) ∧ Below w.heap.size w w' := by
  by_cases h1 : t = 1
  · subst h1; exact copied1 to m o r o' r' w hto hm ho hr
  by_cases h3 : t = 3
  · subst h3; exact copied3 to m o r o' r' w hto hm ho hr
  by_cases h5 : t = 5
  · subst h5; exact copied5 to m o r o' r' w hto hm ho hr
  by_cases h7 : t = 7
  · subst h7; exact copied7 to m o r o' r' w hto hm ho hr
  by_cases h9 : t = 9
  · subst h9; exact copied9 to m o r o' r' w hto hm ho hr
  by_cases h11 : t = 11
  · subst h11; exact copied11 to m o r o' r' w hto hm ho hr ho' hr'
  by_cases h13 : t = 13
  · subst h13; exact copied13 to m o r o' r' w hto hm ho hr
  by_cases h15 : t = 15
  · subst h15; exact copied15 to m o r o' r' w hto hm ho hr
  by_cases h17 : t = 17
  · subst h17; exact copied17 to m o r o' r' w hto hm ho hr
  by_cases h19 : t = 19
  · subst h19; exact copied19 to m o r o' r' w hto hm ho hr
  by_cases h21 : t = 21
  · subst h21; exact copied21 to m o r o' r' w hto hm ho hr
  by_cases h23 : t = 23
  · subst h23; exact copied23 to m o r o' r' w hto hm ho hr ho' hr'
  have e1 : cp to m t = to := by simp [cp, h1, h3, h5, h7, h9, h11, h13, h15, h17, h19, h21, h23]
  rw [e1, show cpO o o' t = o from if_neg h11, show cpR r r' t = r from if_neg h23]
  exact copied0 to m t o r o' r' w hto hm ho hr ht ⟨h1, h3, h5, h7, h9, h11, h13, h15, h17, h19, h21, h23⟩
end Go.Proofs.Ytdohenfbehpplaa
/- The kinds' record types: ref06.Fields and wire.fields. -/
namespace Go.Proofs.Ytdohenfbehpplaa
set_option linter.unusedVariables false
set_option linter.unusedSimpArgs false
open Go.RowKit
attribute [local irreducible] Go.wpList

def nvs (l : List Nat) : List Value := l.map fun (n : Nat) => .int .u64 (n : Int)
theorem nvs_length (l : List Nat) : (nvs l).length = l.length := by simp [nvs]
def fieldsOf (k : Int) : List Nat :=
  if k = 1 then [1, 3, 5, 7, 9, 11] else if k = 2 then [1, 3, 13] else if k = 3 then [1, 3, 23] else if k = 4 then [1, 17, 19] else if k = 5 then [1, 13, 15, 19] else if k = 6 then [1, 15, 19, 21] else []
/-- v is a slice of numbers that reads as l. -/
def Nums (w : World) (v : Value) (l : List Nat) : Prop := Rd w v 1 (nvs l)
theorem nums_nil (w : World) : Nums w (.slice none 0 0) [] := ⟨none, 0, 0, rfl, rfl, Nat.le_refl _, by omega, fun _ => rfl, fun h => absurd h (by omega)⟩
theorem nums_new {w : World} {b : Nat} {l : List Nat} {t : TypeId} (h : w.heap[b]? = some (.cells (nvs l).toArray t)) (n : Nat) (hn : l.length = n) (hb : n ≤ 1000) : Nums w (.slice (some ⟨b, 0, none⟩) n n) l := by
  subst hn
  refine ⟨_, _, _, rfl, by simp [nvs], Nat.le_refl _, by omega, (fun h => by cases h), fun _ => ⟨b, 0, rfl, fun j u hu => ?_⟩⟩
  rw [cell_of_row w b _ _ _ _ h]; simpa using hu
/-- The k-th number. -/
theorem Nums.at_ {w : World} {A : Option Addr} {n c : Nat} {l : List Nat} (h : Nums w (.slice A n c) l) (h0 : 0 < l.length) : ∃ b off, A = some ⟨b, off, none⟩ ∧ ∀ k (hk : k < l.length), w.cell? ⟨b, off + k, none⟩ = some (.int .u64 (l[k] : Int)) := by
  obtain ⟨A', n', c', e, hl, _, _, _, h3⟩ := h
  simp only [Value.slice.injEq] at e
  obtain ⟨rfl, rfl, rfl⟩ := e
  obtain ⟨b, off, rfl, hc⟩ := h3 (by simp [nvs] at hl; omega)
  exact ⟨b, off, rfl, fun k hk => hc k _ (by simp [nvs, hk])⟩
theorem Nums.len {w : World} {A : Option Addr} {n c : Nat} {l : List Nat} (h : Nums w (.slice A n c) l) : n = l.length := by
  obtain ⟨A', n', c', e, hl, _⟩ := h
  simp only [Value.slice.injEq] at e
  obtain ⟨rfl, rfl, rfl⟩ := e
  simpa [nvs] using hl.symm
theorem Nums.below {w w' : World} {v : Value} {l : List Nat} (h : Nums w v l) (hb : Below w.heap.size w w') : Nums w' v l := Rd.below h hb
theorem own_nums (W : World) (base : Nat) (e : TypeId) (l : List Nat) (n : Nat) (hn : l.length = n) (hb : base ≤ W.heap.size) (hm : n ≤ 1000) :
    (W.alloc (.cells (nvs l).toArray e)).ownsRow base e 1 (.slice (some ⟨W.heap.size, 0, none⟩) n n) l.length (nvs l) := by
  subst hn
  have h := World.ownsRow_lit (base := base) (e := e) (size := 1) W (nvs l).toArray l.length hb (by simp [maxLen]; omega) (by simp [nvs])
  simpa using h
theorem own_tch {w w' : World} {base b n : Nat} {e : TypeId} {sz : Nat} {v : Value} {xs : List Value} (h : w.ownsRow base e sz v n xs) (hT : Tch b w w') (hb : b < base) : w'.ownsRow base e sz v n xs :=
  ⟨h.1, h.2.imp id fun ⟨g, cap, cur, e1, e2, e3, r⟩ => ⟨g, cap, cur, e1, e2, by rw [hT.block g (by omega)]; exact e3, r⟩⟩
theorem own_nums_at {w : World} {base : Nat} {e : TypeId} {v : Value} {l : List Nat} {n : Nat} (h : w.ownsRow base e 1 v n (nvs l)) : Nums w v l := own_rd h
theorem fields_dec (k : Int) : (∃ i : Nat, k = i ∧ 1 ≤ i ∧ i ≤ 6) ∨ ((k ≠ 1 ∧ k ≠ 2 ∧ k ≠ 3 ∧ k ≠ 4 ∧ k ≠ 5 ∧ k ≠ 6) ∧ fieldsOf k = []) := by
  by_cases h : k = 1 ∨ k = 2 ∨ k = 3 ∨ k = 4 ∨ k = 5 ∨ k = 6
  · left; refine ⟨k.toNat, by omega, by omega, by omega⟩
  · right
    have h' : k ≠ 1 ∧ k ≠ 2 ∧ k ≠ 3 ∧ k ≠ 4 ∧ k ≠ 5 ∧ k ≠ 6 := by omega
    refine ⟨h', ?_⟩
    obtain ⟨h1, h2, h3, h4, h5, h6⟩ := h'
    simp [fieldsOf, h1, h2, h3, h4, h5, h6]
set_option maxRecDepth 20000 in
set_option maxHeartbeats 1600000 in
/-- tollhouseref06.Fields. -/
theorem rfields_ok (k : Int) (w : World) : Calls Try.prog 25 #[.int .i64 k] w fun e w' => ∃ A n c, e = .returned (.slice A n c) ∧ Nums w' (.slice A n c) (fieldsOf k) ∧ (A = none ↔ fieldsOf k = []) ∧ w'.ownsRow w.heap.size 32 1 (.slice A n c) (fieldsOf k).length (nvs (fieldsOf k)) ∧ Below w.heap.size w w' := by
  rcases fields_dec k with ⟨i, rfl, h1, h2⟩ | ⟨⟨h1, h2, h3, h4, h5, h6⟩, h0⟩
  · obtain rfl | rfl | rfl | rfl | rfl | rfl : i = 1 ∨ i = 2 ∨ i = 3 ∨ i = 4 ∨ i = 5 ∨ i = 6 := by omega
    all_goals
      clear h1 h2
      go_enter Try.func25, Try.ntmps25
      go_wp2_with fail
      go_ret
      exact ⟨_, _, _, rfl, nums_new (heap_alloc_last w _) _ rfl (by omega), by simp [fieldsOf], own_nums _ _ _ _ _ rfl (Nat.le_refl _) (by omega), (Below.refl _ _).alloc (Nat.le_refl _) _⟩
  · have g1 : (k == 1) = false := by rw [beq_eq_false_iff_ne]; exact h1
    have g2 : (k == 2) = false := by rw [beq_eq_false_iff_ne]; exact h2
    have g3 : (k == 3) = false := by rw [beq_eq_false_iff_ne]; exact h3
    have g4 : (k == 4) = false := by rw [beq_eq_false_iff_ne]; exact h4
    have g5 : (k == 5) = false := by rw [beq_eq_false_iff_ne]; exact h5
    have g6 : (k == 6) = false := by rw [beq_eq_false_iff_ne]; exact h6
    rw [h0]
    clear h0
    go_enter Try.func25, Try.ntmps25
    go_wp2_with fail
    go_ret
    exact ⟨_, _, _, rfl, nums_nil _, by simp, World.ownsRow_nil _ _ _ _, Below.refl _ _⟩
set_option maxRecDepth 20000 in
set_option maxHeartbeats 1600000 in
/-- wire.fields. -/
theorem fields_ok (k : Int) (w : World) : Calls Try.prog 20 #[.int .i64 k] w fun e w' => ∃ A n c, e = .returned (.slice A n c) ∧ Nums w' (.slice A n c) (fieldsOf k) ∧ (A = none ↔ fieldsOf k = []) ∧ w'.ownsRow w.heap.size 32 1 (.slice A n c) (fieldsOf k).length (nvs (fieldsOf k)) ∧ Below w.heap.size w w' := by
  rcases fields_dec k with ⟨i, rfl, h1, h2⟩ | ⟨⟨h1, h2, h3, h4, h5, h6⟩, h0⟩
  · obtain rfl | rfl | rfl | rfl | rfl | rfl : i = 1 ∨ i = 2 ∨ i = 3 ∨ i = 4 ∨ i = 5 ∨ i = 6 := by omega
    all_goals
      clear h1 h2
      go_enter Try.func20, Try.ntmps20
      go_wp2_with fail
      go_ret
      exact ⟨_, _, _, rfl, nums_new (heap_alloc_last w _) _ rfl (by omega), by simp [fieldsOf], own_nums _ _ _ _ _ rfl (Nat.le_refl _) (by omega), (Below.refl _ _).alloc (Nat.le_refl _) _⟩
  · have g1 : (k == 1) = false := by rw [beq_eq_false_iff_ne]; exact h1
    have g2 : (k == 2) = false := by rw [beq_eq_false_iff_ne]; exact h2
    have g3 : (k == 3) = false := by rw [beq_eq_false_iff_ne]; exact h3
    have g4 : (k == 4) = false := by rw [beq_eq_false_iff_ne]; exact h4
    have g5 : (k == 5) = false := by rw [beq_eq_false_iff_ne]; exact h5
    have g6 : (k == 6) = false := by rw [beq_eq_false_iff_ne]; exact h6
    rw [h0]
    clear h0
    go_enter Try.func20, Try.ntmps20
    go_wp2_with fail
    go_ret
    exact ⟨_, _, _, rfl, nums_nil _, by simp, World.ownsRow_nil _ _ _ _, Below.refl _ _⟩
end Go.Proofs.Ytdohenfbehpplaa
/- Quiet regions, one behind another; worlds behind draws. -/
namespace Go.Proofs.Ytdohenfbehpplaa
set_option linter.unusedVariables false
set_option linter.unusedSimpArgs false
open Go.RowKit
theorem quiet_same {P : Program} {f : FuncId} {args : Array Value} {w : World} {n : Nat} {v : Value}
    (h : Calls P f args (w.drewN n) fun e w' => e = .returned v ∧ w.drewN n = w') : Calls P f args (w.drewN n) fun e w'' => e = .returned v ∧ ∃ m, w'' = w.drewN m :=
  h.mono fun _ _ ⟨he, hm⟩ => ⟨he, n, hm.symm⟩
theorem quiet_add {P : Program} {f : FuncId} {args : Array Value} {w : World} {a n : Nat} {v : Value}
    (h : Calls P f args (w.drewN (a + n)) fun e w' => e = .returned v ∧ w.drewN (a + n) = w') : Calls P f args (w.drewN (a + n)) fun e w'' => e = .returned v ∧ ∃ m, w'' = w.drewN (a + m) :=
  h.mono fun _ _ ⟨he, hm⟩ => ⟨he, n, hm.symm⟩
theorem below_drewN {B : Nat} {a w : World} (h : Below B a w) (n : Nat) : Below B a (w.drewN n) := ⟨h.os, h.tape, h.output, h.size, h.block⟩

/-- append(v, x...) of bytes, as one step of a region that draws. -/
theorem step_app {P : Program} {W : World} {ops : Array Oper} {o : Oper} {a : Act} {K : Act → World → Prop} {Q : Exit → Act → World → Prop} {E : Prop} (hgd : o.guard = none) (s x : Operand) (t e : TypeId)
    (ho : o.op = .call { callee := .builtin .append, args := #[s, x], argTypes := #[t, t] }) (ht : P.underlying t = some (.slice e)) (hinfo : (P.info? e).map (fun i => (i.zero, i.size, i.bytes)) = some (some (.int .u8 0), 1, 1))
    (base : Nat) (v : Value) (xs : List UInt8) (hs : a.eval s = v) (hown : W.ownsRow base e 1 v xs.length (bvs xs)) (xv : Value) (ys : List UInt8) (hx : a.eval x = xv) (hr : Bytes W xv ys)
    (hbytes : xs.length + ys.length ≤ 140737488355328) (hbase : base ≤ W.heap.size)
    (h : ∀ v' w', w'.ownsRow base e 1 v' (xs ++ ys).length (bvs (xs ++ ys)) → W.grownBy w' v.ownBlock → (v'.ownBlock = v.ownBlock ∨ v'.ownBlock = some W.heap.size) → K (a.put o.dst v') w') :
    if Region.wanted o (yielded ops a.tmps) = true then Oper.wp P o a W K Q else E := by
  have hw : Region.wanted o (yielded ops a.tmps) = true := by simp [Region.wanted, hgd]
  rw [if_pos hw]
  obtain ⟨v', w', hr, ho', hg, hat⟩ := run_append_bytes (P := P) (w := W) base t o.type e ht hinfo v xs hown xv ys hr hbytes hbase
  exact Lib.wp_append_run W s x t t ho v xv hs hx v' w' hr (h v' w' ho' hg hat)
theorem le_alloc (w : World) (o : Obj) : w.heap.size ≤ (w.alloc o).heap.size := by simp
theorem lt_alloc (w : World) (o : Obj) : w.heap.size + 1 ≤ (w.alloc o).heap.size := by simp
theorem own_empty (W : World) (base : Nat) (e : TypeId) (hb : base ≤ W.heap.size) : (W.alloc (.cells #[] e)).ownsRow base e 1 (.slice (some ⟨W.heap.size, 0, none⟩) 0 0) 0 (bvs []) := own_lit W base e [] 0 rfl hb (by omega)
end Go.Proofs.Ytdohenfbehpplaa
/- bigsize, in plain Lean: numbers as bytes, and back. -/
namespace Go.Proofs.Ytdohenfbehpplaa
set_option linter.unusedVariables false
set_option linter.unusedSimpArgs false

def beF (x : Nat) (l : List UInt8) : Nat := l.foldl (fun x b => x * 256 + b.toNat) x
def be (l : List UInt8) : Nat := beF 0 l
theorem be_snoc (l : List UInt8) (b : UInt8) : be (l ++ [b]) = be l * 256 + b.toNat := by simp [be, beF, List.foldl_append]
theorem beF_lt (l : List UInt8) : ∀ x, beF x l < (x + 1) * 256 ^ l.length := by
  induction l with
  | nil => intro x; simp [beF]
  | cons b l ih =>
    intro x
    have h := ih (x * 256 + b.toNat)
    have hb := b.toNat_lt
    have e : beF x (b :: l) = beF (x * 256 + b.toNat) l := rfl
    rw [e, List.length_cons, Nat.pow_succ]
    calc beF (x * 256 + b.toNat) l < (x * 256 + b.toNat + 1) * 256 ^ l.length := h
      _ ≤ ((x + 1) * 256) * 256 ^ l.length := Nat.mul_le_mul_right _ (by omega)
      _ = (x + 1) * (256 ^ l.length * 256) := by rw [Nat.mul_assoc, Nat.mul_comm 256]
theorem be_lt (l : List UInt8) : be l < 256 ^ l.length := by simpa [be] using beF_lt l 0

theorem be_take_snoc (r : List UInt8) (k : Nat) (h : k < r.length) : be (r.take (k + 1)) = be (r.take k) * 256 + (r[k]).toNat := by
  rw [List.take_succ_eq_append_getElem h, be_snoc]
theorem be_take_lt (r : List UInt8) (k : Nat) (h : k ≤ 7) : be (r.take k) < 72057594037927936 := by
  refine Nat.lt_of_lt_of_le (be_lt _) ?_
  have : (r.take k).length ≤ 7 := by rw [List.length_take]; omega
  exact Nat.le_trans (Nat.pow_le_pow_right (by omega) this) (by decide)
theorem be_take_lt8 (r : List UInt8) (k : Nat) (h : k ≤ 8) : be (r.take k) < 18446744073709551616 := by
  refine Nat.lt_of_lt_of_le (be_lt _) ?_
  have : (r.take k).length ≤ 8 := by rw [List.length_take]; omega
  exact Nat.le_trans (Nat.pow_le_pow_right (by omega) this) (by decide)

/-- How many bytes a number takes. -/
def size (x : Nat) : Nat := if x < 253 then 1 else if x ≤ 65535 then 3 else if x ≤ 4294967295 then 5 else 9
/-- How many bytes stand behind a first byte (253 or more). -/
def more (b : UInt8) : Nat := if b.toNat = 253 then 2 else if b.toNat = 254 then 4 else 8
/-- The number with which bytes begin, and how many bytes it has. -/
def rdN : List UInt8 → Option (Nat × Nat)
  | [] => none
  | b :: r => if b.toNat < 253 then some (b.toNat, 1) else
      if r.length < more b then none else if size (be (r.take (more b))) ≠ more b + 1 then none else some (be (r.take (more b)), more b + 1)
end Go.Proofs.Ytdohenfbehpplaa
namespace Go.Proofs.Ytdohenfbehpplaa
/-- The bytes of x, n of them, the highest first. -/
def numB (n x : Nat) : List UInt8 := (List.range n).map fun i => UInt8.ofNat (x / 2 ^ (8 * (n - 1 - i)))
theorem numB_length (n x : Nat) : (numB n x).length = n := by simp [numB]
theorem numB_take (n x k : Nat) (h : k < n) : (numB n x).take (k + 1) = (numB n x).take k ++ [UInt8.ofNat (x / 2 ^ (8 * (n - 1 - k)))] := by
  rw [List.take_succ_eq_append_getElem (by rw [numB_length]; exact h)]
  simp [numB]
/-- A number's form in a stream. -/
def num (x : Nat) : List UInt8 :=
  if x < 253 then [UInt8.ofNat x] else if x ≤ 65535 then 253 :: numB 2 x else if x ≤ 4294967295 then 254 :: numB 4 x else 255 :: numB 8 x
theorem num_length (x : Nat) : (num x).length = size x := by
  unfold num size
  split <;> (try split) <;> (try split) <;> simp [numB_length]
theorem size_le (x : Nat) : size x ≤ 9 := by
  unfold size
  split <;> (try split) <;> (try split) <;> omega
theorem size_pos (x : Nat) : 1 ≤ size x := by
  unfold size
  split <;> (try split) <;> (try split) <;> omega
end Go.Proofs.Ytdohenfbehpplaa
/- bigsize.width, Size, Read: contracts. -/
namespace Go.Proofs.Ytdohenfbehpplaa
set_option linter.unusedVariables false
set_option linter.unusedSimpArgs false
open Go.RowKit

theorem width_ok (x : Int) (w : World) (h0 : 0 ≤ x) :
    Calls Try.prog 49 #[.int .u64 x] w fun e w' => e = .returned (.tuple (if x < 253 then #[.int .u8 0, .int .i64 0] else if x ≤ 65535 then #[.int .u8 253, .int .i64 2] else if x ≤ 4294967295 then #[.int .u8 254, .int .i64 4] else #[.int .u8 255, .int .i64 8])) ∧ w = w' := by
  by_cases h1 : x < 253
  · rw [if_pos h1]
    go_enter Try.func49, Try.ntmps49
    go_wp2
    go_ret2
    exact ⟨rfl, rfl⟩
  · rw [if_neg h1]
    by_cases h2 : x ≤ 65535
    · rw [if_pos h2]
      go_enter Try.func49, Try.ntmps49
      go_wp2
      go_ret2
      exact ⟨rfl, rfl⟩
    · rw [if_neg h2]
      by_cases h3 : x ≤ 4294967295
      · rw [if_pos h3]
        go_enter Try.func49, Try.ntmps49
        go_wp2
        go_ret2
        exact ⟨rfl, rfl⟩
      · rw [if_neg h3]
        go_enter Try.func49, Try.ntmps49
        go_wp2
        go_ret2
        exact ⟨rfl, rfl⟩

theorem size_ok (x : Nat) (w : World) :
    Calls Try.prog 29 #[.int .u64 x] w fun e w' => e = .returned (.int .i64 (size x)) ∧ w = w' := by
  have H := fun w => width_ok (x : Int) w (by omega)
  have HH := Lib.hid H; clear H
  unfold size
  have case (n : Nat) (b : Nat) (hb : (if (x : Int) < 253 then (#[.int .u8 0, .int .i64 0] : Array Value) else if (x : Int) ≤ 65535 then #[.int .u8 253, .int .i64 2] else if (x : Int) ≤ 4294967295 then #[.int .u8 254, .int .i64 4] else #[.int .u8 255, .int .i64 8]) = #[.int .u8 b, .int .i64 n]) (hn : n ≤ 8) :
      Calls Try.prog 29 #[.int .u64 x] w fun e w' => e = .returned (.int .i64 ((n + 1 : Nat) : Int)) ∧ w = w' := by
    have HB := Lib.hid hb; clear hb
    go_enter Try.func29, Try.ntmps29
    go_wp2_with fail
    refine (HH.out _).mono ?_
    rw [HB.out]
    rintro e w' ⟨rfl, rfl⟩
    go_wp2_with fail
    go_ret
    exact ⟨by simp, rfl⟩
  by_cases h1 : x < 253
  · rw [if_pos h1]; exact case 0 0 (by rw [if_pos (by omega)]; rfl) (by omega)
  · rw [if_neg h1]
    by_cases h2 : x ≤ 65535
    · rw [if_pos h2]; exact case 2 253 (by rw [if_neg (by omega), if_pos (by omega)]; rfl) (by omega)
    · rw [if_neg h2]
      by_cases h3 : x ≤ 4294967295
      · rw [if_pos h3]; exact case 4 254 (by rw [if_neg (by omega), if_neg (by omega), if_pos (by omega)]; rfl) (by omega)
      · rw [if_neg h3]; exact case 8 255 (by rw [if_neg (by omega), if_neg (by omega), if_neg (by omega)]; rfl) (by omega)
end Go.Proofs.Ytdohenfbehpplaa
/- bigsize.Read: a contract. -/
namespace Go.Proofs.Ytdohenfbehpplaa
set_option linter.unusedVariables false
set_option linter.unusedSimpArgs false
open Go.RowKit

def rdV (o : Option (Nat × Nat)) : Value := match o with
  | none => .tuple #[.int .u64 0, .int .i64 0, .int .i64 10]
  | some (x, n) => .tuple #[.int .u64 x, .int .i64 n, .int .i64 0]

set_option maxHeartbeats 800000 in
theorem read_long (b : UInt8) (r : List UInt8) (m : Nat) (bl off c : Nat) (w : World) (hb : ¬ b.toNat < 253) (hm : m = 2 ∨ m = 4 ∨ m = 8) (hbm : b.toNat = 253 ∧ m = 2 ∨ b.toNat = 254 ∧ m = 4 ∨ b.toNat = 255 ∧ m = 8)
    (hc1 : r.length + 1 ≤ c) (hc2 : c ≤ 9223372036854775807) (hl : m ≤ r.length) (h0 : w.cell? ⟨bl, off, none⟩ = some (.int .u8 b.toNat))
    (hcell : ∀ j (hj : j < r.length), w.cell? ⟨bl, off + (j + 1), none⟩ = some (.int .u8 (r[j]).toNat)) :
    Calls Try.prog 39 #[.slice (some ⟨bl, off, none⟩) (r.length + 1) c] w fun e w' => e = .returned (rdV (if size (be (r.take m)) ≠ m + 1 then none else some (be (r.take m), m + 1))) ∧ w = w' := by
  have HC := Lib.hid hcell; clear hcell
  obtain ⟨V, hV⟩ : ∃ V, V = rdV (if size (be (r.take m)) ≠ m + 1 then none else some (be (r.take m), m + 1)) := ⟨_, rfl⟩
  rw [← hV]
  have HV1 : Hid (size (be (r.take m)) = m + 1 → V = .tuple #[.int .u64 (be (r.take m)), .int .i64 (m + 1 : Nat), .int .i64 0]) := fun h => by rw [hV, if_neg (by omega)]; rfl
  have HV2 : Hid (size (be (r.take m)) ≠ m + 1 → V = .tuple #[.int .u64 0, .int .i64 0, .int .i64 10]) := fun h => by rw [hV, if_pos h]; rfl
  clear hV
  rcases hbm with ⟨h1, h2⟩ | ⟨h1, h2⟩ | ⟨h1, h2⟩
  · subst h2
    rw [h1] at h0
    go_enter Try.func39, Try.ntmps39
    go_wp2_with fail
    go_loop [6, 34] (fun x i => ∃ k : Nat, k ≤ 2 ∧ i = .int .i64 k ∧ x = .int .u64 (be (r.take k))) (fun _ i => 2 - (intOf i).toNat)
    case atStart => exact ⟨0, Nat.zero_le _, rfl, rfl⟩
    case round =>
      obtain ⟨k, hk, rfl, rfl⟩ := hrel
      by_cases hlt : k < 2
      · have hc := HC.out k (by omega)
        have hc' : w.cell? ⟨bl, off + 1 + k, none⟩ = some (.int .u8 ((r[k]'(by omega)).toNat)) := by rw [show off + 1 + k = off + (k + 1) by omega]; exact hc
        clear hc
        have h56 := be_take_lt r k (by omega)
        have HS : Hid (be (r.take (k + 1)) = be (r.take k) * 256 + (r[k]'(by omega)).toNat) := be_take_snoc r k (by omega)
        go_wp2_with fail
        go_round
        case rel => exact ⟨k + 1, by omega, by go_num, by rw [or_step2 _ _ h56, HS.out]⟩
        case measure => simp [intOf]; omega
      · obtain rfl : k = 2 := by omega
        have HZ := Lib.hid (size_ok (be (r.take 2)))
        by_cases hz : size (be (r.take 2)) = 2 + 1
        · have HV := Lib.hid (HV1.out hz)
          have HQ := Lib.hid hz; clear hz
          go_wp2_with fail
          refine (HZ.out _).mono ?_
          rw [HQ.out]
          rintro e w' ⟨rfl, rfl⟩
          go_wp2_with fail
          go_ret3
          exact ⟨by rw [HV.out]; simp, rfl⟩
        · have HV := Lib.hid (HV2.out hz)
          have HQ : ((size (be (r.take 2)) : Int) != 3) = true := by rw [bne_iff_ne]; omega
          clear hz
          go_wp2_with fail
          refine (HZ.out _).mono ?_
          rintro e w' ⟨rfl, rfl⟩
          go_wp2_with fail
          go_ret3
          exact ⟨by rw [HV.out]; simp, rfl⟩
  · subst h2
    rw [h1] at h0
    go_enter Try.func39, Try.ntmps39
    go_wp2_with fail
    go_loop [6, 34] (fun x i => ∃ k : Nat, k ≤ 4 ∧ i = .int .i64 k ∧ x = .int .u64 (be (r.take k))) (fun _ i => 4 - (intOf i).toNat)
    case atStart => exact ⟨0, Nat.zero_le _, rfl, rfl⟩
    case round =>
      obtain ⟨k, hk, rfl, rfl⟩ := hrel
      by_cases hlt : k < 4
      · have hc := HC.out k (by omega)
        have hc' : w.cell? ⟨bl, off + 1 + k, none⟩ = some (.int .u8 ((r[k]'(by omega)).toNat)) := by rw [show off + 1 + k = off + (k + 1) by omega]; exact hc
        clear hc
        have h56 := be_take_lt r k (by omega)
        have HS : Hid (be (r.take (k + 1)) = be (r.take k) * 256 + (r[k]'(by omega)).toNat) := be_take_snoc r k (by omega)
        go_wp2_with fail
        go_round
        case rel => exact ⟨k + 1, by omega, by go_num, by rw [or_step2 _ _ h56, HS.out]⟩
        case measure => simp [intOf]; omega
      · obtain rfl : k = 4 := by omega
        have HZ := Lib.hid (size_ok (be (r.take 4)))
        by_cases hz : size (be (r.take 4)) = 4 + 1
        · have HV := Lib.hid (HV1.out hz)
          have HQ := Lib.hid hz; clear hz
          go_wp2_with fail
          refine (HZ.out _).mono ?_
          rw [HQ.out]
          rintro e w' ⟨rfl, rfl⟩
          go_wp2_with fail
          go_ret3
          exact ⟨by rw [HV.out]; simp, rfl⟩
        · have HV := Lib.hid (HV2.out hz)
          have HQ : ((size (be (r.take 4)) : Int) != 5) = true := by rw [bne_iff_ne]; omega
          clear hz
          go_wp2_with fail
          refine (HZ.out _).mono ?_
          rintro e w' ⟨rfl, rfl⟩
          go_wp2_with fail
          go_ret3
          exact ⟨by rw [HV.out]; simp, rfl⟩
  · subst h2
    rw [h1] at h0
    go_enter Try.func39, Try.ntmps39
    go_wp2_with fail
    go_loop [6, 34] (fun x i => ∃ k : Nat, k ≤ 8 ∧ i = .int .i64 k ∧ x = .int .u64 (be (r.take k))) (fun _ i => 8 - (intOf i).toNat)
    case atStart => exact ⟨0, Nat.zero_le _, rfl, rfl⟩
    case round =>
      obtain ⟨k, hk, rfl, rfl⟩ := hrel
      by_cases hlt : k < 8
      · have hc := HC.out k (by omega)
        have hc' : w.cell? ⟨bl, off + 1 + k, none⟩ = some (.int .u8 ((r[k]'(by omega)).toNat)) := by rw [show off + 1 + k = off + (k + 1) by omega]; exact hc
        clear hc
        have h56 := be_take_lt r k (by omega)
        have HS : Hid (be (r.take (k + 1)) = be (r.take k) * 256 + (r[k]'(by omega)).toNat) := be_take_snoc r k (by omega)
        go_wp2_with fail
        go_round
        case rel => exact ⟨k + 1, by omega, by go_num, by rw [or_step2 _ _ h56, HS.out]⟩
        case measure => simp [intOf]; omega
      · obtain rfl : k = 8 := by omega
        have HZ := Lib.hid (size_ok (be (r.take 8)))
        by_cases hz : size (be (r.take 8)) = 8 + 1
        · have HV := Lib.hid (HV1.out hz)
          have HQ := Lib.hid hz; clear hz
          go_wp2_with fail
          refine (HZ.out _).mono ?_
          rw [HQ.out]
          rintro e w' ⟨rfl, rfl⟩
          go_wp2_with fail
          go_ret3
          exact ⟨by rw [HV.out]; simp, rfl⟩
        · have HV := Lib.hid (HV2.out hz)
          have HQ : ((size (be (r.take 8)) : Int) != 9) = true := by rw [bne_iff_ne]; omega
          clear hz
          go_wp2_with fail
          refine (HZ.out _).mono ?_
          rintro e w' ⟨rfl, rfl⟩
          go_wp2_with fail
          go_ret3
          exact ⟨by rw [HV.out]; simp, rfl⟩

set_option maxRecDepth 20000 in
theorem read_short (x n bl off c : Nat) (w : World) (hx : x < 253) (hc1 : n + 1 ≤ c) (hc2 : c ≤ 9223372036854775807) (h0 : w.cell? ⟨bl, off, none⟩ = some (.int .u8 x)) :
    Calls Try.prog 39 #[.slice (some ⟨bl, off, none⟩) (n + 1) c] w fun e w' => e = .returned (.tuple #[.int .u64 x, .int .i64 1, .int .i64 0]) ∧ w = w' := by
  go_enter Try.func39, Try.ntmps39
  go_wp2_with fail
  go_ret3
  exact ⟨rfl, rfl⟩

/-- bigsize.Read, whatever the bytes. -/
theorem read_ok (l : List UInt8) (v : Value) (w : World) (h : Bytes w v l) :
    Calls Try.prog 39 #[v] w fun e w' => e = .returned (rdV (rdN l)) ∧ w = w' := by
  rcases h.open with ⟨rfl, A, c, rfl, hc, hA⟩ | ⟨h0, bl, off, c, rfl, hc1, hc2, hcell⟩
  · go_enter Try.func39, Try.ntmps39
    go_wp2_with fail
    go_ret3
    exact ⟨rfl, rfl⟩
  · obtain ⟨b, r, rfl⟩ : ∃ b r, l = b :: r := by cases l with | nil => simp at h0 | cons b r => exact ⟨b, r, rfl⟩
    have hc0 : w.cell? ⟨bl, off, none⟩ = some (.int .u8 b.toNat) := hcell 0 h0
    have hcr : ∀ j (hj : j < r.length), w.cell? ⟨bl, off + (j + 1), none⟩ = some (.int .u8 (r[j]).toNat) := fun j hj => hcell (j + 1) (by simp; omega)
    simp only [List.length_cons] at hc1 ⊢
    have hlt : b.toNat < 256 := b.toNat_lt
    by_cases hb : b.toNat < 253
    · have e : rdN (b :: r) = some (b.toNat, 1) := by simp [rdN, hb]
      rw [e]
      exact read_short b.toNat r.length bl off c w hb hc1 hc2 hc0
    · have hm : b.toNat = 253 ∧ more b = 2 ∨ b.toNat = 254 ∧ more b = 4 ∨ b.toNat = 255 ∧ more b = 8 := by unfold more; split <;> (try split) <;> omega
      by_cases hl : more b ≤ r.length
      · have e : rdN (b :: r) = (if size (be (r.take (more b))) ≠ more b + 1 then none else some (be (r.take (more b)), more b + 1)) := by
          simp only [rdN]; rw [if_neg hb, if_neg (by omega)]
        rw [e]
        exact read_long b r (more b) bl off c w hb (by omega) hm hc1 hc2 hl hc0 hcr
      · have e : rdN (b :: r) = none := by
          simp only [rdN]; rw [if_neg hb, if_pos (by omega)]
        rw [e]
        clear hcell hcr h0 e
        rcases hm with ⟨hm1, hm2⟩ | ⟨hm1, hm2⟩ | ⟨hm1, hm2⟩
        all_goals
          rw [hm2] at hl
          rw [hm1] at hc0
          clear hm1 hm2
          go_enter Try.func39, Try.ntmps39
          go_wp2_with fail
          go_ret3
          exact ⟨rfl, rfl⟩
theorem read_none (l : List UInt8) (v : Value) (w : World) (h : Bytes w v l) (hr : rdN l = none) :
    Calls Try.prog 39 #[v] w fun e w' => e = .returned (.tuple #[.int .u64 0, .int .i64 0, .int .i64 10]) ∧ w = w' := by
  have := read_ok l v w h
  rw [hr] at this
  exact this
theorem read_some (l : List UInt8) (v : Value) (w : World) (x n : Nat) (h : Bytes w v l) (hr : rdN l = some (x, n)) :
    Calls Try.prog 39 #[v] w fun e w' => e = .returned (.tuple #[.int .u64 x, .int .i64 n, .int .i64 0]) ∧ w = w' := by
  have := read_ok l v w h
  rw [hr] at this
  exact this
end Go.Proofs.Ytdohenfbehpplaa
/- slices.Clone, slices.Grow at []byte, bigsize.Put: contracts. -/
namespace Go.Proofs.Ytdohenfbehpplaa
set_option linter.unusedVariables false
set_option linter.unusedSimpArgs false
open Go.RowKit

theorem info_u8 : (Try.prog.info? 5).map (fun i => (i.zero, i.size, i.bytes)) = some (some (.int .u8 0), 1, 1) := by kernel_rfl

set_option maxRecDepth 20000 in
set_option maxHeartbeats 800000 in
theorem clone_ok (l : List UInt8) (v : Value) (w : World) (h : Bytes w v l) (hl : l.length ≤ 140737488355328) :
    Calls Try.prog 36 #[v] w fun e w' => ∃ v', e = .returned v' ∧ w'.ownsRow w.heap.size 5 1 v' l.length (bvs l) ∧ Below w.heap.size w w' := by
  have hb := h
  obtain ⟨A, n, c, rfl, hln, h1, h2, h4, h3⟩ := h
  have he := fun W => Lib.run_eql_slice_nil (P := Try.prog) W 22 5 A n c 0 0 Try.underlying22
  cases A with
  | none =>
    obtain rfl := h4 rfl
    obtain rfl : n = 0 := by omega
    obtain rfl : l = [] := by simpa [bvs] using hln
    clear hb h3 hln h4
    go_enter Try.func36, Try.ntmps36
    go_wp2_with fail
    go_ret
    exact ⟨_, rfl, World.ownsRow_nil _ _ _ _, Below.refl _ _⟩
  | some ad =>
    have HB := Lib.hid hb; clear hb h3 h4 hln
    go_enter Try.func36, Try.ntmps36
    go_wp2_with (at_builtin; refine wl_app 7 _ _ _ _ Try.underlying22 info_u8 w.heap.size _ [] rfl (own_lit w w.heap.size 5 [] 0 rfl (Nat.le_refl _) (by omega)) _ l rfl (HB.out.below ((Below.refl _ _).alloc (Nat.le_refl _) _)) ?hlen ?hbase ?_; (case hlen => simpa using hl); (case hbase => simp); intro v1 w1 ho hg hat)
    go_ret
    refine ⟨_, rfl, by simpa using ho, below_append ((Below.refl _ _).alloc (Nat.le_refl _) _) (own_lit w w.heap.size 5 [] 0 rfl (Nat.le_refl _) (by omega)) hg (by simp) (Nat.le_refl _)⟩
end Go.Proofs.Ytdohenfbehpplaa
/- slices.Grow at []byte, upon a row of one's own: a contract. -/
namespace Go.Proofs.Ytdohenfbehpplaa
set_option linter.unusedVariables false
set_option linter.unusedSimpArgs false
open Go.RowKit

/-- append(s[:cap], make([]byte, k)...) upon a row of one's own that has no room: a new row. -/
theorem grow_zeros {W : World} (base : Nat) (ty : TypeId) (g cap k : Nat) (cur : Array Value) (hg : W.heap[g]? = some (.cells cur 5 (0, 0))) (hc : cur.size = cap) (h0 : 0 < k) (hb : cap + k ≤ 70368744177664) :
    ∃ nc w', (Builtin.append_ #[22, 3] ty #[.slice (some ⟨g, 0, none⟩) cap cap, .int .i64 k]).run Try.prog W = .ok (.slice (some ⟨W.heap.size, 0, none⟩) (cap + k) nc) w' ∧
      ∃ more : Array Value, w' = W.drew.alloc (.cells (cur ++ more) 5) ∧ (cur ++ more).size = nc ∧ cap + k ≤ nc ∧ nc ≤ maxLen := by
  obtain ⟨i0, hi, hzz⟩ := Option.map_eq_some_iff.1 info_u8
  simp only [Prod.mk.injEq] at hzz
  obtain ⟨hz0, hz1, hz2⟩ := hzz
  have hold : (Builtin.firstCells i0.size cap (.slice (some ⟨g, 0, none⟩) cap cap)).run Try.prog W.drew = .ok cur.toList.toArray W.drew :=
    run_firstCells_some (P := Try.prog) W.drew i0.size cap ⟨g, 0, none⟩ cap cap cur.toList (by rw [hz1]; simp [hc]) (fun j v hj => by
      rw [add_plain]
      show W.cell? _ = _
      simp only [World.cell?, hg]
      simpa using hj)
  have hns : Builtin.nextslicecap (cap + k) cap ≤ 2 * (cap + k) := nextslicecap_le (by omega)
  have hr := Lib.run_append_grow_zeros (P := Try.prog) W 22 3 ty 5 i0 (.int .u8 0) .i64 .i64 Try.underlying22 Try.underlying3 hi hz0 (some ⟨g, 0, none⟩) cap cap cur.toList hold k h0 (by omega) (by omega) (by omega) (by rw [hz2]; omega) (by rw [hz2]; omega)
  have hge := grownCap_ge W (cap + k) cap 5
  have hle := grownCap_le_maxLen W (cap + k) cap 5 (by simp only [maxLen]; omega)
  refine ⟨_, _, hr, Builtin.zeroCells (Value.int .u8 0).cells k ++ Builtin.zeroCells (Value.int .u8 0).cells (grownCap W (cap + k) cap 5 - (cap + k)), by simp [Array.append_assoc], ?_, hge, hle⟩
  simp [size_zeroCells, hc, Value.cells]
  omega

set_option maxRecDepth 20000 in
set_option maxHeartbeats 800000 in
theorem grow_ok (l : List UInt8) (v : Value) (w : World) (base : Nat) (n : Nat) (h : w.ownsRow base 5 1 v l.length (bvs l)) (hb : base ≤ w.heap.size) (hl : l.length + n ≤ 70368744177664) :
    Calls Try.prog 50 #[v, .int .i64 n] w fun e w' => ∃ v', e = .returned v' ∧ w'.ownsRow base 5 1 v' l.length (bvs l) ∧ Below w.heap.size w w' := by
  have hH := Lib.hid h
  rcases h.2 with ⟨rfl, h0⟩ | ⟨g, cap, cur, rfl, hbg, hg, hnc, hcm, hcs, htake⟩
  · rcases Nat.eq_zero_or_pos n with hn | hn
    · subst hn
      clear h
      go_enter Try.func50, Try.ntmps50
      go_wp2_with fail
      go_ret
      exact ⟨_, rfl, hH.out, Below.refl _ _⟩
    · obtain rfl : l = [] := List.eq_nil_of_length_eq_zero h0
      clear h h0
      obtain ⟨i0, hi, hzz⟩ := Option.map_eq_some_iff.1 info_u8
      simp only [Prod.mk.injEq] at hzz
      obtain ⟨hz0, hz1, hz2⟩ := hzz
      have hr := Lib.run_append_nil_zeros (P := Try.prog) w 22 3 22 5 i0 (.int .u8 0) .i64 .i64 Try.underlying22 Try.underlying3 hi hz0 n hn (by omega) (by simp at hl; omega) (by rw [hz2]; simp at hl; omega)
      have hge := grownCap_ge w n 0 5
      have hle := grownCap_le_maxLen w n 0 5 (by simp only [maxLen]; simp at hl; omega)
      obtain ⟨nc, hnc⟩ : ∃ nc, nc = grownCap w n 0 5 := ⟨_, rfl⟩
      rw [← hnc] at hr hge hle
      have hm : maxLen = 9223372036854775807 := rfl
      rw [hm] at hle
      have HR := Lib.hid hr
      clear hr hi hz0 hz1 hz2 hnc hm
      go_enter Try.func50, Try.ntmps50
      go_wp2_with (at_builtin; refine wl_run 22 _ _ _ _ _ _ rfl rfl _ _ HR.out ?_)
      go_ret
      refine ⟨_, rfl, ⟨rfl, .inr ⟨_, nc, _, rfl, hb, heap_alloc_new w.drew _, Nat.zero_le _, by simpa [maxLen] using hle, ?_, by simp [bvs]⟩⟩, (Below.refl _ _).drew.alloc (Nat.le_refl _) _⟩
      simp [size_zeroCells, Value.cells]; omega
  · have hcm' : cap ≤ 9223372036854775807 := by simpa [maxLen] using hcm
    by_cases hroom : l.length + n ≤ cap
    · clear h htake hcs hcm hg
      go_enter Try.func50, Try.ntmps50
      go_wp2_with fail
      go_ret
      exact ⟨_, rfl, hH.out, Below.refl _ _⟩
    · obtain ⟨k, hk⟩ : ∃ k, l.length + n = cap + k := ⟨l.length + n - cap, by omega⟩
      obtain ⟨nc, w1, hr, mo, hw1, hsz, hge, hle⟩ := grow_zeros (W := w) base 22 g cap k cur hg (by simpa using hcs) (by omega) (by omega)
      have hm : maxLen = 9223372036854775807 := rfl
      rw [hm] at hle
      have hkn : wrap64 ((n : Int) - wrap64 ((cap : Int) - (l.length : Int))) = (k : Int) := by unfold wrap64; omega
      have hin : (n : Int) - ((cap : Int) - (l.length : Int)) = (k : Int) := by omega
      rw [← hin] at hr
      have HR := Lib.hid hr
      have HW := Lib.hid hw1
      have hlk : l.length ≤ cap + k := by omega
      have hk0 : 0 < k := by omega
      clear h hr hw1 hk hkn hin
      go_enter Try.func50, Try.ntmps50
      go_wp2_with (at_builtin; refine wl_run 22 _ _ _ _ _ _ rfl rfl _ _ HR.out ?_)
      go_ret
      refine ⟨_, rfl, ?_, ?_⟩
      · rw [HW.out]
        refine ⟨by simp [bvs], .inr ⟨_, nc, _, rfl, hb, heap_alloc_new w.drew _, by omega, by simpa [maxLen] using hle, by simpa using hsz, ?_⟩⟩
        rw [← htake, Array.toList_append, List.take_append_of_le_length (by simp [hcs]; omega)]
      · rw [HW.out]
        exact (Below.refl _ _).drew.alloc (Nat.le_refl _) _
end Go.Proofs.Ytdohenfbehpplaa
/- bigsize.Put: a contract. -/
namespace Go.Proofs.Ytdohenfbehpplaa
set_option linter.unusedVariables false
set_option linter.unusedSimpArgs false
open Go.RowKit

theorem bytes_one (W : World) (x : Int) (b : UInt8) (e : TypeId) (h : x = b.toNat) : Bytes (W.alloc (.cells #[.int .u8 x] e)) (.slice (some ⟨W.heap.size, 0, none⟩) 1 1) [b] := by
  subst h
  refine Bytes.mk rfl (Nat.le_refl _) (by omega) fun j hj => ?_
  obtain rfl : j = 0 := by simp at hj; omega
  exact cell_one_new W (bv b) e 0 _ rfl

set_option maxRecDepth 20000 in
set_option maxHeartbeats 1600000 in
theorem put_long (l : List UInt8) (v : Value) (x n : Nat) (f : UInt8) (w : World) (h : Bytes w v l) (hl : l.length + 9 ≤ 70368744177664) (hx : x < 18446744073709551616)
    (hsz : size x = n + 1) (hn : n = 2 ∨ n = 4 ∨ n = 8)
    (hw : (if (x : Int) < 253 then (#[.int .u8 0, .int .i64 0] : Array Value) else if (x : Int) ≤ 65535 then #[.int .u8 253, .int .i64 2] else if (x : Int) ≤ 4294967295 then #[.int .u8 254, .int .i64 4] else #[.int .u8 255, .int .i64 8]) = #[.int .u8 f.toNat, .int .i64 n]) :
    Calls Try.prog 30 #[v, .int .u64 x] w fun e w' => ∃ v', e = .returned v' ∧ w'.ownsRow w.heap.size 5 1 v' (l ++ f :: numB n x).length (bvs (l ++ f :: numB n x)) ∧ Below w.heap.size w w' := by
  have HB := Lib.hid h
  have HS := Lib.hid hsz
  have hfl := f.toNat_lt
  obtain ⟨ff, hff⟩ : ∃ ff, ff = f.toNat := ⟨_, rfl⟩
  have HF := Lib.hid hff
  rw [← hff] at hw hfl
  have hfl : ff < 256 := hfl
  have HW := Lib.hid hw
  clear h hw hsz hff
  have hn0 : ((n : Int) == 0) = false := by rw [beq_eq_false_iff_ne]; omega
  have hn8 : n ≤ 8 := by omega
  have hn1 : 1 ≤ n := by omega
  clear hn
  go_enter Try.func30, Try.ntmps30
  go_wp2_with fail
  refine (clone_ok l v w HB.out (by omega)).mono ?_
  rintro e w1 ⟨v1, rfl, ho1, hb1⟩
  have HO1 := Lib.hid ho1
  have HB1 := Lib.hid hb1
  have hs1 := hb1.size
  clear ho1 hb1
  go_wp2_with fail
  refine (size_ok x w1).mono ?_
  rw [HS.out]
  rintro e w1' ⟨rfl, rfl⟩
  go_wp2_with fail
  refine (grow_ok l v1 w1 w.heap.size (n + 1) HO1.out hs1 (by omega)).mono ?_
  rintro e w2 ⟨v2, rfl, ho2, hb2⟩
  have HO2 := Lib.hid ho2
  have HB2 := Lib.hid (below_of HB1.out hb2 hs1)
  have hs2 : w.heap.size ≤ w2.heap.size := Nat.le_trans hs1 hb2.size
  clear ho2 hb2 HB1 HO1 hs1
  go_wp2_with fail
  refine (width_ok x w2 (by omega)).mono ?_
  rw [HW.out]
  rintro e w1' ⟨rfl, rfl⟩
  go_wp2_with (at_builtin; refine wl_app 28 _ _ _ _ Try.underlying22 info_u8 w.heap.size v2 l rfl (HO2.out.alloc _) _ [f] rfl (bytes_one w2 _ f _ (by rw [HF.out])) ?hlen ?hbase ?_; (case hlen => simp; omega); (case hbase => simp; omega); intro v3 w3 ho3 hg3 hat3)
  have HB3 := Lib.hid (below_append (HB2.out.alloc hs2 _) (HO2.out.alloc _) hg3 (by simp; omega) (Nat.le_refl _))
  have HO3 := Lib.hid ho3
  clear ho3 hg3 hat3 HB2 HO2
  go_loopw [5, 7] (fun v5 v7 wr => ∃ (k : Nat) (j : Int), k ≤ n ∧ -1 ≤ j ∧ j < n ∧ Hid (j = n - 1 - k) ∧ v7 = .int .i64 j ∧ Hid (wr.ownsRow w.heap.size 5 1 v5 (l ++ f :: (numB n x).take k).length (bvs (l ++ f :: (numB n x).take k))) ∧ Hid (Below w.heap.size w wr)) (fun _ v7 _ => (intOf v7 + 1).toNat)
  case atStart => exact ⟨0, n - 1, by omega, by omega, by omega, by show _ = _; omega, rfl, HO3.out, HB3.out⟩
  case round =>
    obtain ⟨k, j, hk, hj1, hj2, HJ, rfl, HO, HBr⟩ := hrel
    have hsr := HBr.out.size
    by_cases hlt : 0 ≤ j
    · have hkn : k < n := by have := HJ.out; omega
      have hlk : (l ++ f :: (numB n x).take k).length + 1 ≤ 140737488355328 := by
        have : ((numB n x).take k).length ≤ n := by rw [List.length_take, numB_length]; omega
        simp only [List.length_append, List.length_cons]; omega
      have HV : Hid (((x : Int) / 2 ^ (8 * j).toNat % 256) = ((UInt8.ofNat (x / 2 ^ (8 * (n - 1 - k)))).toNat : Int)) := by
        have e : (8 * j).toNat = 8 * (n - 1 - k) := by have := HJ.out; omega
        show _ = _
        rw [e, UInt8.toNat_ofNat']
        have : ((2 : Int) ^ (8 * (n - 1 - k))) = ((2 ^ (8 * (n - 1 - k)) : Nat) : Int) := by simp
        rw [this]; omega
      have HT := Lib.hid (numB_take n x k hkn)
      go_wp2_with (at_builtin; refine wl_app 42 _ _ _ _ Try.underlying22 info_u8 w.heap.size u5 (l ++ f :: (numB n x).take k) rfl (HO.out.alloc _) _ [UInt8.ofNat (x / 2 ^ (8 * (n - 1 - k)))] rfl (bytes_one wr _ _ _ HV.out) ?hlen ?hbase ?_; (case hlen => simpa using hlk); (case hbase => simp; omega); intro v4 w4 ho4 hg4 hat4)
      have HB4 := Lib.hid (below_append (HBr.out.alloc hsr _) (HO.out.alloc _) hg4 (by simp; omega) (Nat.le_refl _))
      have HO4 := Lib.hid ho4
      clear ho4 hg4 hat4
      go_roundw
      case rel => exact ⟨k + 1, j - 1, by omega, by omega, by omega, by have := HJ.out; show _ = _; omega, rfl, by have := HO4.out; rw [HT.out]; exact Lib.hid (by simpa using this), HB4.out⟩
      case measure => simp [intOf]; omega
    · obtain rfl : j = -1 := by omega
      have hkn : k = n := by have := HJ.out; omega
      subst hkn
      go_wp2_with fail
      go_ret
      exact ⟨_, rfl, by have := HO.out; rw [List.take_of_length_le (by rw [numB_length]; exact Nat.le_refl _)] at this; simpa using this, HBr.out⟩

set_option maxRecDepth 20000 in
set_option maxHeartbeats 1600000 in
theorem put_short (l : List UInt8) (v : Value) (x : Nat) (w : World) (h : Bytes w v l) (hl : l.length + 9 ≤ 70368744177664) (hx : x < 253) :
    Calls Try.prog 30 #[v, .int .u64 x] w fun e w' => ∃ v', e = .returned v' ∧ w'.ownsRow w.heap.size 5 1 v' (l ++ [UInt8.ofNat x]).length (bvs (l ++ [UInt8.ofNat x])) ∧ Below w.heap.size w w' := by
  have HB := Lib.hid h
  have HS : Hid (size x = 1) := by unfold size; show _ = _; rw [if_pos hx]
  have HW := Lib.hid (fun w => width_ok (x : Int) w (by omega))
  have HW2 : Hid ((if (x : Int) < 253 then (#[.int .u8 0, .int .i64 0] : Array Value) else if (x : Int) ≤ 65535 then #[.int .u8 253, .int .i64 2] else if (x : Int) ≤ 4294967295 then #[.int .u8 254, .int .i64 4] else #[.int .u8 255, .int .i64 8]) = #[.int .u8 0, .int .i64 0]) := by show _ = _; rw [if_pos (by omega)]
  have HV : Hid ((x : Int) = ((UInt8.ofNat x).toNat : Int)) := by show _ = _; rw [UInt8.toNat_ofNat']; omega
  clear h
  go_enter Try.func30, Try.ntmps30
  go_wp2_with fail
  refine (clone_ok l v w HB.out (by omega)).mono ?_
  rintro e w1 ⟨v1, rfl, ho1, hb1⟩
  have HO1 := Lib.hid ho1
  have HB1 := Lib.hid hb1
  have hs1 := hb1.size
  clear ho1 hb1
  go_wp2_with fail
  refine (size_ok x w1).mono ?_
  rw [HS.out]
  rintro e w1' ⟨rfl, rfl⟩
  go_wp2_with fail
  refine (grow_ok l v1 w1 w.heap.size 1 HO1.out hs1 (by omega)).mono ?_
  rintro e w2 ⟨v2, rfl, ho2, hb2⟩
  have HO2 := Lib.hid ho2
  have HB2 := Lib.hid (below_of HB1.out hb2 hs1)
  have hs2 : w.heap.size ≤ w2.heap.size := Nat.le_trans hs1 hb2.size
  clear ho2 hb2 HB1 HO1 hs1
  go_wp2_with fail
  refine (HW.out w2).mono ?_
  rw [HW2.out]
  rintro e w1' ⟨rfl, rfl⟩
  go_wp2_with (at_builtin; refine wl_app 24 _ _ _ _ Try.underlying22 info_u8 w.heap.size v2 l rfl (HO2.out.alloc _) _ [UInt8.ofNat x] rfl (bytes_one w2 _ _ _ HV.out) ?hlen ?hbase ?_; (case hlen => simp; omega); (case hbase => simp; omega); intro v3 w3 ho3 hg3 hat3)
  have HB3 := Lib.hid (below_append (HB2.out.alloc hs2 _) (HO2.out.alloc _) hg3 (by simp; omega) (Nat.le_refl _))
  go_ret
  exact ⟨_, rfl, ho3, HB3.out⟩

/-- bigsize.Put, whatever the bytes and the number. -/
theorem put_ok (l : List UInt8) (v : Value) (x : Nat) (w : World) (h : Bytes w v l) (hl : l.length + 9 ≤ 70368744177664) (hx : x < 18446744073709551616) :
    Calls Try.prog 30 #[v, .int .u64 x] w fun e w' => ∃ v', e = .returned v' ∧ w'.ownsRow w.heap.size 5 1 v' (l ++ num x).length (bvs (l ++ num x)) ∧ Below w.heap.size w w' := by
  by_cases h1 : x < 253
  · have e : num x = [UInt8.ofNat x] := by unfold num; rw [if_pos h1]
    rw [e]; exact put_short l v x w h hl h1
  · by_cases h2 : x ≤ 65535
    · have e : num x = 253 :: numB 2 x := by unfold num; rw [if_neg h1, if_pos h2]
      rw [e]; exact put_long l v x 2 253 w h hl hx (by unfold size; rw [if_neg h1, if_pos h2]) (by omega) (by rw [if_neg (by omega), if_pos (by omega)]; rfl)
    · by_cases h3 : x ≤ 4294967295
      · have e : num x = 254 :: numB 4 x := by unfold num; rw [if_neg h1, if_neg h2, if_pos h3]
        rw [e]; exact put_long l v x 4 254 w h hl hx (by unfold size; rw [if_neg h1, if_neg h2, if_pos h3]) (by omega) (by rw [if_neg (by omega), if_neg (by omega), if_pos (by omega)]; rfl)
      · have e : num x = 255 :: numB 8 x := by unfold num; rw [if_neg h1, if_neg h2, if_neg h3]
        rw [e]; exact put_long l v x 8 255 w h hl hx (by unfold size; rw [if_neg h1, if_neg h2, if_neg h3]) (by omega) (by rw [if_neg (by omega), if_neg (by omega), if_neg (by omega)]; rfl)
end Go.Proofs.Ytdohenfbehpplaa
/- Where an arm of a walk belongs: laws that do nothing but look at the operation. -/
namespace Go.Proofs.Ytdohenfbehpplaa
set_option linter.unusedVariables false
set_option linter.unusedSimpArgs false
section
variable {P : Program} {ops : Array Oper} {rest : List Oper} {a : Act} {Q : Exit → Act → World → Prop} {W : World} {op : Op} {rt ty : TypeId} {pos : String} {after : Array Edge} {g : Option (Nat × Bool)} {y : Operand}
/-- At an operation whose value goes into slot n. -/
theorem dst_is (n : Tmp) (h : wpList P ops Q ({ dst := some n, op := op, type := rt, pos := pos, after := after, guard := g } :: rest) a W) :
    wpList P ops Q ({ dst := some n, op := op, type := rt, pos := pos, after := after, guard := g } :: rest) a W := h
/-- At a store through slot n. -/
theorem store_is (n : Tmp) (h : wpList P ops Q ({ dst := none, op := .store ty (.tmp n) y, type := rt, pos := pos, after := after, guard := g } :: rest) a W) :
    wpList P ops Q ({ dst := none, op := .store ty (.tmp n) y, type := rt, pos := pos, after := after, guard := g } :: rest) a W := h
end
/-- Loads, stores, literals of great types: not opened by the walk. -/
def LdAny (t : TypeId) (v : Value) : Sem Value := Instr.loadAt t v
def StAny (t : TypeId) (v x : Value) : Sem Unit := Instr.storeAt t v x
def BdAny (t : TypeId) (ps : Array (Nat × Value)) : Sem Value := Instr.build t ps
end Go.Proofs.Ytdohenfbehpplaa
/- tollhouseref06.Bare. -/
namespace Go.Proofs.Ytdohenfbehpplaa
set_option linter.unusedVariables false
set_option linter.unusedSimpArgs false
open Go.RowKit
attribute [local irreducible] Go.wpList

theorem Bytes.slice {w : World} {v : Value} {l : List UInt8} (h : Bytes w v l) : ∃ A n c, v = .slice A n c := by
  obtain ⟨A, n, c, e, _⟩ := h; exact ⟨A, n, c, e⟩
theorem Bytes.one {w : World} {v : Value} {l : List UInt8} (h : Bytes w v l) : v.oneCell' = true := by
  obtain ⟨A, n, c, rfl⟩ := h.slice; rfl
theorem bytes_nil0 (w : World) : Bytes w nil0 [] := Bytes.nil (by omega) (fun _ => rfl)
theorem cp_ind (to m : Msg) (t : Nat) (C : Msg → Prop) (h0 : t ≠ 11 → t ≠ 23 → C to) (h1 : t = 1 → C { to with channel := m.channel }) (h3 : t = 3 → C { to with id := m.id }) (h5 : t = 5 → C { to with amount := m.amount }) (h7 : t = 7 → C { to with expiry := m.expiry }) (h9 : t = 9 → C { to with hash := m.hash }) (h11 : t = 11 → C { to with onion := m.onion }) (h13 : t = 13 → C { to with secret := m.secret }) (h15 : t = 15 → C { to with point := m.point }) (h17 : t = 17 → C { to with tag := m.tag }) (h19 : t = 19 → C { to with number := m.number }) (h21 : t = 21 → C { to with told := m.told }) (h23 : t = 23 → C { to with reason := m.reason }) : C (cp to m t) := by
  unfold cp
  by_cases e1 : t = 1
  · rw [if_pos e1]; exact h1 e1
  rw [if_neg e1]
  by_cases e3 : t = 3
  · rw [if_pos e3]; exact h3 e3
  rw [if_neg e3]
  by_cases e5 : t = 5
  · rw [if_pos e5]; exact h5 e5
  rw [if_neg e5]
  by_cases e7 : t = 7
  · rw [if_pos e7]; exact h7 e7
  rw [if_neg e7]
  by_cases e9 : t = 9
  · rw [if_pos e9]; exact h9 e9
  rw [if_neg e9]
  by_cases e11 : t = 11
  · rw [if_pos e11]; exact h11 e11
  rw [if_neg e11]
  by_cases e13 : t = 13
  · rw [if_pos e13]; exact h13 e13
  rw [if_neg e13]
  by_cases e15 : t = 15
  · rw [if_pos e15]; exact h15 e15
  rw [if_neg e15]
  by_cases e17 : t = 17
  · rw [if_pos e17]; exact h17 e17
  rw [if_neg e17]
  by_cases e19 : t = 19
  · rw [if_pos e19]; exact h19 e19
  rw [if_neg e19]
  by_cases e21 : t = 21
  · rw [if_pos e21]; exact h21 e21
  rw [if_neg e21]
  by_cases e23 : t = 23
  · rw [if_pos e23]; exact h23 e23
  rw [if_neg e23]
  exact h0 e11 e23
theorem cp_wf {to m : Msg} (hto : to.Wf) (hm : m.Wf) (t : Nat) : (cp to m t).Wf := by
  obtain ⟨a1, a2, a3, a4, a5, a6, a7, a8, a9, a10, a11, a12, a13⟩ := hto
  obtain ⟨b1, b2, b3, b4, b5, b6, b7, b8, b9, b10, b11, b12, b13⟩ := hm
  apply cp_ind to m t Msg.Wf
  all_goals intros; constructor <;> assumption
theorem cp_kind (to m : Msg) (t : Nat) : (cp to m t).kind = to.kind := by
  apply cp_ind to m t (fun x => x.kind = to.kind) <;> intros <;> rfl
theorem cp_onion (to m : Msg) (t : Nat) : (cp to m t).onion = if t = 11 then m.onion else to.onion := by
  apply cp_ind to m t (fun x => x.onion = if t = 11 then m.onion else to.onion)
  · intro h1 h2; rw [if_neg h1]
  all_goals rintro rfl; rfl
theorem cp_reason (to m : Msg) (t : Nat) : (cp to m t).reason = if t = 23 then m.reason else to.reason := by
  apply cp_ind to m t (fun x => x.reason = if t = 23 then m.reason else to.reason)
  · intro h1 h2; rw [if_neg h2]
  all_goals rintro rfl; rfl
def kmsg (k : Int) : Msg := { zmsg with kind := k }
theorem kmsg_wf {m : Msg} (h : m.Wf) : (kmsg m.kind).Wf := ⟨rfl, rfl, rfl, rfl, h.kind, zmsg_wf.channel, zmsg_wf.id, zmsg_wf.amount, zmsg_wf.expiry, zmsg_wf.number, zmsg_wf.told, Nat.zero_le _, Nat.zero_le _⟩
def bareK (m : Msg) (k : Nat) : Msg := ((fieldsOf m.kind).take k).foldl (fun a t => cp a m t) (kmsg m.kind)
def bareS (m : Msg) : Msg := (fieldsOf m.kind).foldl (fun a t => cp a m t) (kmsg m.kind)
theorem bareK_succ (m : Msg) (k : Nat) (hk : k < (fieldsOf m.kind).length) : bareK m (k + 1) = cp (bareK m k) m (fieldsOf m.kind)[k] := by
  unfold bareK
  rw [List.take_add_one, List.getElem?_eq_getElem hk, List.foldl_append]
  rfl
theorem bareK_all (m : Msg) : bareK m (fieldsOf m.kind).length = bareS m := by unfold bareK bareS; rw [List.take_length]
theorem foldl_wf {m : Msg} (hm : m.Wf) : ∀ (l : List Nat) (a : Msg), a.Wf → (l.foldl (fun a t => cp a m t) a).Wf
  | [], _, h => h
  | t :: l, a, h => foldl_wf hm l _ (cp_wf h hm t)
theorem bareK_wf {m : Msg} (hm : m.Wf) (k : Nat) : (bareK m k).Wf := foldl_wf hm _ _ (kmsg_wf hm)
theorem bareS_wf {m : Msg} (hm : m.Wf) : (bareS m).Wf := foldl_wf hm _ _ (kmsg_wf hm)
theorem foldl_kind {m : Msg} : ∀ (l : List Nat) (a : Msg), (l.foldl (fun a t => cp a m t) a).kind = a.kind
  | [], _ => rfl
  | t :: l, a => (foldl_kind l _).trans (cp_kind a m t)
theorem bareS_kind (m : Msg) : (bareS m).kind = m.kind := foldl_kind _ _
theorem fields_small {k : Int} {i : Nat} (h : i < (fieldsOf k).length) : (fieldsOf k)[i] < 24 := by
  have : ∀ t ∈ fieldsOf k, t < 24 := by
    rcases fields_dec k with ⟨i, rfl, h1, h2⟩ | ⟨_, h0⟩
    · obtain rfl | rfl | rfl | rfl | rfl | rfl : i = 1 ∨ i = 2 ∨ i = 3 ∨ i = 4 ∨ i = 5 ∨ i = 6 := by omega
      all_goals decide
    · rw [h0]; decide
  exact this _ (List.getElem_mem h)
theorem fields_length (k : Int) : (fieldsOf k).length ≤ 6 := by
  rcases fields_dec k with ⟨i, rfl, h1, h2⟩ | ⟨_, h0⟩
  · obtain rfl | rfl | rfl | rfl | rfl | rfl : i = 1 ∨ i = 2 ∨ i = 3 ∨ i = 4 ∨ i = 5 ∨ i = 6 := by omega
    all_goals decide
  · rw [h0]; decide
theorem build_kind (x : Int) (W : World) : (BdAny 25 #[(0, .int .i64 x)]).run Try.prog W = .ok (.agg (mc (kmsg x) nil0 nil0)) W := by kernel_rfl
section
variable {P : Program} {ops : Array Oper} {rest : List Oper} {a : Act} {Q : Exit → Act → World → Prop} {W : World} {rt : TypeId} {pos : String} {after : Array Edge}
theorem wl_build (d : Tmp) (ty : TypeId) (i : Nat) (x : Operand) (u v : Value) (hx : a.eval x = u) (hr : ∀ W, (Instr.build ty #[(i, u)]).run P W = .ok v W) (h : wpList P ops Q rest (a.put (some d) v) W) :
    wpList P ops Q ({ dst := some d, op := .build ty #[(i, x)], type := rt, pos := pos, after := after, guard := none } :: rest) a W := by
  refine wpList_plain rfl fun K hK => ?_
  unfold Oper.wp execOp
  have e : (#[(i, x)].map fun (p : Nat × Operand) => (p.1, a.eval p.2)) = #[(i, u)] := by simp [hx]
  have := hr W
  rw [← e] at this
  simp only [Sem.run_bind, this, Result.andThen_ok, Sem.run_pure]
  exact hK _ _ h
end
theorem ldm (v : Value) : Instr.loadAt 25 v = LdAny 25 v := rfl
theorem stm (v x : Value) : Instr.storeAt 25 v x = StAny 25 v x := rfl
theorem bdm (ps : Array (Nat × Value)) : Instr.build 25 ps = BdAny 25 ps := rfl
attribute [local go_sem ↓] ldm stm bdm
set_option maxRecDepth 20000 in
set_option maxHeartbeats 1600000 in
/-- tollhouseref06.Bare. -/
theorem rbare_ok (m : Msg) (o r : Value) (w : World) (hm : m.Wf) (ho : Bytes w o m.onion) (hr : Bytes w r m.reason) :
    Calls Try.prog 19 #[.agg (mc m o r)] w fun e w' => ∃ o' r', e = .returned (.agg (mc (bareS m) o' r')) ∧ Bytes w o' (bareS m).onion ∧ Bytes w r' (bareS m).reason ∧ Below w.heap.size w w' := by
  have HO := Lib.hid ho
  have HR := Lib.hid hr
  obtain ⟨L, hL⟩ : ∃ L, L = fieldsOf m.kind := ⟨_, rfl⟩
  have HL := Lib.hid hL
  have hll : L.length ≤ 6 := by rw [hL]; exact fields_length _
  clear ho hr hL
  go_enter Try.func19, Try.ntmps19
  go_wp2_with (first | ((with_reducible refine dst_is 1 ?_); refine wl_box 1 _ _ _ rfl ?_; intro W1 e1; have E1 := Lib.hid e1; have z1 : W1.heap.size = w.heap.size + 1 := (by rw [e1]; simp); have HA : MsgIn W1 w.heap.size m o r := (by rw [e1]; exact msgIn_new w hm); have HB1 : Below w.heap.size w W1 := (by rw [e1]; exact (Below.refl _ _).alloc (Nat.le_refl _) _); have c0 := HA.cell 0 _ mc_0; clear e1 E1) | ((with_reducible refine dst_is 2 ?_); refine wl_alloc 2 _ _ zero_msg ?_; intro W2 e2; have z2 : W2.heap.size = w.heap.size + 2 := (by rw [e2]; simp [z1]); replace HA := HA.alloc (.cells (mc zmsg nil0 nil0) 25); rw [← e2] at HA; have HC : MsgIn W2 (w.heap.size + 1) zmsg nil0 nil0 := (by rw [e2, ← z1]; exact msgIn_new W1 zmsg_wf); have HB2 : Below w.heap.size w W2 := (by rw [e2]; exact HB1.alloc (by omega) _); rw [z1]; replace c0 := HA.cell 0 _ mc_0; clear e2 HB1) | ((with_reducible refine dst_is 8 ?_); refine wl_build 8 _ 0 _ _ _ rfl (build_kind m.kind) ?_) | ((with_reducible refine dst_is 3 ?_); refine wl_alloc 3 _ _ zero_msg ?_; intro W3 e3; have z3 : W3.heap.size = w.heap.size + 3 := (by rw [e3]; simp [z2]); replace HA := HA.alloc (.cells (mc zmsg nil0 nil0) 25); replace HC := HC.alloc (.cells (mc zmsg nil0 nil0) 25); rw [← e3] at HA HC; have HD : MsgIn W3 (w.heap.size + 2) zmsg nil0 nil0 := (by rw [e3, ← z2]; exact msgIn_new W2 zmsg_wf); have HB3 : Below w.heap.size w W3 := (by rw [e3]; exact HB2.alloc (by omega) _); rw [z2]; clear c0 e3 HB2) | ((with_reducible refine store_is 3 ?_); refine wl_puts 25 (.tmp 3) _ (w.heap.size + 2) 0 (mcl (kmsg m.kind) nil0 nil0) rfl rfl (size_mc _ _ _ (kmsg_wf hm)) (mcl_one rfl rfl) (by rw [mcl_length (kmsg_wf hm)]; exact HD.there) ?_; intro W4 e4; replace HD := HD.all zmsg_wf (kmsg_wf hm) (o' := nil0) (r' := nil0); rw [← e4] at HD; have HT : Tch (w.heap.size + 2) W3 W4 := (by rw [e4]; exact tch_setCells _ _ _ _); replace HA := HA.tch HT (by omega); replace HC := HC.tch HT (by omega); have HB4 := HT.below HB3 (by omega); have z4 : W4.heap.size = w.heap.size + 3 := HT.size.trans z3; have c4 := HA.cell 0 _ mc_0; clear e4 HT HB3))

  refine (rfields_ok m.kind W4).mono ?_
  rintro e w5 ⟨Af, nf, cf, rfl, _, _, hof, hb5⟩
  rw [← HL.out] at hof
  have HF := Lib.hid hof
  have hnf : nf = L.length := by have := (own_nums_at hof).len; exact this
  subst hnf
  have HA5 := Lib.hid (HA.below hb5)
  have HD5 := Lib.hid (HD.below hb5)
  have HB5 := Lib.hid (below_of HB4 hb5 (by omega))
  have z5 : w.heap.size + 3 ≤ w5.heap.size := by have := hb5.size; omega
  have HC5 := Lib.hid (HC.below hb5)
  clear hof HA HC HD HB4 hb5 c4 z1 z2 z3
  go_wp2_with fail
  go_loopw [5] (fun v5 wr => ∃ k : Nat, k ≤ L.length ∧ v5 = .int .i64 k ∧ Hid (∃ ok rk, MsgIn wr (w.heap.size + 2) (bareK m k) ok rk ∧ Bytes w ok (bareK m k).onion ∧ Bytes w rk (bareK m k).reason) ∧ Hid (MsgIn wr w.heap.size m o r) ∧ Hid (MsgIn wr (w.heap.size + 1) zmsg nil0 nil0) ∧ Hid (wr.ownsRow W4.heap.size 32 1 (.slice Af L.length cf) L.length (nvs L)) ∧ Hid (Below w.heap.size w wr) ∧ w.heap.size + 3 ≤ wr.heap.size) (fun v5 _ => L.length - (intOf v5).toNat)
  case atStart => exact ⟨0, Nat.zero_le _, rfl, ⟨nil0, nil0, HD5.out, bytes_nil0 _, bytes_nil0 _⟩, HA5.out, HC5.out, HF.out, HB5.out, z5⟩
  case round =>
    obtain ⟨k, hk, rfl, HM, HAr, HCr, HFr, HBr, hzr⟩ := hrel
    by_cases hlt : k < L.length
    · obtain ⟨ok, rk, hD, hok, hrk⟩ := HM.out
      obtain ⟨b, off, rfl, hc⟩ := (own_nums_at HFr.out).at_ (by omega)
      have hck := hc k hlt
      have HKW := Lib.hid (bareK_wf hm k)
      have HD := Lib.hid hD
      have HOK := Lib.hid hok
      have HRK := Lib.hid hrk
      have hsm : L[k] < 24 := by have h2 := HL.out; subst h2; exact fields_small hlt
      have HS : Hid (bareK m (k + 1) = cp (bareK m k) m L[k]) := by have h2 := HL.out; subst h2; exact bareK_succ m k hlt
      have HCW := Lib.hid (cp_wf (bareK_wf hm k) hm L[k])
      have HO1 : Hid ((cpO ok o L[k]).oneCell' = true) := by show _ = _; unfold cpO; split; exact HO.out.one; exact hok.one
      have HR1 : Hid ((cpR rk r L[k]).oneCell' = true) := by show _ = _; unfold cpR; split; exact HR.out.one; exact hrk.one
      have HO2 : Hid (Bytes w (cpO ok o L[k]) (cp (bareK m k) m L[k]).onion) := by rw [cp_onion]; show Bytes _ _ _; unfold cpO; split; exact HO.out; exact hok
      have HR2 : Hid (Bytes w (cpR rk r L[k]) (cp (bareK m k) m L[k]).reason) := by rw [cp_reason]; show Bytes _ _ _; unfold cpR; split; exact HR.out; exact hrk
      clear hD hok hrk hc HM
      go_wp2_with fail
      have hL1 : ∀ W : World, W.rangeAt (w.heap.size + 2) 0 (mcl (bareK m k) ok rk) → (LdAny 25 (.pointer (some ⟨w.heap.size + 2, 0, none⟩))).run Try.prog W = .ok (.agg (mc (bareK m k) ok rk)) W := fun W h => run_loadAt_mid W _ _ _ _ _ h Try.underlying25 rfl (size_mc _ _ _ HKW.out)
      have hL2 : ∀ W : World, W.rangeAt w.heap.size 0 (mcl m o r) → (LdAny 25 (.pointer (some ⟨w.heap.size, 0, none⟩))).run Try.prog W = .ok (.agg (mc m o r)) W := fun W h => run_loadAt_mid W _ _ _ _ _ h Try.underlying25 rfl (size_mc _ _ _ hm)
      have hS : ∀ W : World, W.there (w.heap.size + 2) 0 137 → (StAny 25 (.pointer (some ⟨w.heap.size + 2, 0, none⟩)) (.agg (mc (cp (bareK m k) m L[k]) (cpO ok o L[k]) (cpR rk r L[k])))).run Try.prog W = .ok () (W.setCells (w.heap.size + 2) 0 (mcl (cp (bareK m k) m L[k]) (cpO ok o L[k]) (cpR rk r L[k]))) := by
        intro W h
        have := run_storeAt_mid (P := Try.prog) W (w.heap.size + 2) 0 25 (mc (cp (bareK m k) m L[k]) (cpO ok o L[k]) (cpR rk r L[k])) (by simpa [mc, mcl_length HCW.out] using h) (by rw [size_msg]; simp [mc, mcl_length HCW.out]) (all_oneCell_toArray (mcl_one HO1.out HR1.out))
        simpa [mc, StAny] using this
      have hR1 : wr.drew.rangeAt (w.heap.size + 2) 0 (mcl (bareK m k) ok rk) := (World.rangeAt_drew _ _ _ _).2 HD.out.range
      have hR2 : wr.drew.rangeAt w.heap.size 0 (mcl m o r) := (World.rangeAt_drew _ _ _ _).2 HAr.out.range
      have hbk : Below w.heap.size w wr.drew := HBr.out.drew
      go_region_with (first | (go_at_call 38; refine (copied_ok (bareK m k) m L[k] ok rk o r _ HKW.out hm HOK.out.one HRK.out.one HO.out.slice HR.out.slice (by omega)).mono ?_; rintro e wa ⟨rfl, hba⟩; have HDa := (HD.out.of_block (w' := wr.drew) rfl).below hba; have HAa := (HAr.out.of_block (w' := wr.drew) rfl).below hba; have HCa := (HCr.out.of_block (w' := wr.drew) rfl).below hba; have hTa := HDa.there; have HBa := below_of hbk hba (by simp; omega); have HFa := own_below (own_below HFr.out ((Below.refl wr.heap.size wr).drew)) hba; have hza := hba.size) | fail)
      all_goals
        have hD5 := HDa.all HKW.out HCW.out (o' := cpO ok o L[k]) (r' := cpR rk r L[k])
        have hT : Tch (w.heap.size + 2) wa (wa.setCells (w.heap.size + 2) 0 (mcl (cp (bareK m k) m L[k]) (cpO ok o L[k]) (cpR rk r L[k]))) := tch_setCells _ _ _ _
        generalize wa.setCells (w.heap.size + 2) 0 (mcl (cp (bareK m k) m L[k]) (cpO ok o L[k]) (cpR rk r L[k])) = w5 at *
        have HA5 := Lib.hid (HAa.tch hT (by omega))
        have HC5 := Lib.hid (HCa.tch hT (by omega))
        have HF5 := Lib.hid (own_tch HFa hT (by omega))
        have HB5 := Lib.hid (hT.below HBa (by omega))
        have HD5 : Hid (MsgIn w5 (w.heap.size + 2) (bareK m (k + 1)) (cpO ok o L[k]) (cpR rk r L[k])) := by show MsgIn _ _ _ _ _; rw [HS.out]; exact hD5
        have HO5 : Hid (Bytes w (cpO ok o L[k]) (bareK m (k + 1)).onion) := by show Bytes _ _ _; rw [HS.out]; exact HO2.out
        have HR5 : Hid (Bytes w (cpR rk r L[k]) (bareK m (k + 1)).reason) := by show Bytes _ _ _; rw [HS.out]; exact HR2.out
        have z5 : w.heap.size + 3 ≤ w5.heap.size := by have := hT.size; simp at hza; omega
        clear hD5 hT HAa HCa HFa HBa HDa hTa hba hL1 hL2 hS hR1 hR2 hbk
        go_wp2_with fail
        go_roundw
        case rel => exact ⟨k + 1, by omega, by go_num, ⟨_, _, HD5.out, HO5.out, HR5.out⟩, HA5.out, HC5.out, HF5.out, HB5.out, z5⟩
        case measure => simp [intOf]; omega
    · have hkl : k = L.length := by omega
      obtain ⟨ok, rk, hD, hok, hrk⟩ := HM.out
      have HS : Hid (bareK m k = bareS m) := by show _ = _; rw [hkl, HL.out]; exact bareK_all m
      rw [HS.out] at hD hok hrk
      have HD := Lib.hid hD
      have HOK := Lib.hid hok
      have HRK := Lib.hid hrk
      have HSW := Lib.hid (bareS_wf hm)
      clear hD hok hrk hkl
      go_wp2_with (first | ((with_reducible refine dst_is 25 ?_); refine wl_load 25 25 _ (w.heap.size + 2) 0 (mcl (bareS m) ok rk) _ rfl rfl Try.underlying25 rfl (size_mc _ _ _ HSW.out) HD.out.range ?_) | ((with_reducible refine store_is 2 ?_); refine wl_puts 25 _ _ (w.heap.size + 1) 0 (mcl (bareS m) ok rk) rfl rfl (size_mc _ _ _ HSW.out) (mcl_one HOK.out.one HRK.out.one) (by rw [mcl_length HSW.out]; exact HCr.out.there) ?_; intro W5 e5; have HC5 := HCr.out.all zmsg_wf HSW.out (o' := ok) (r' := rk); rw [← e5] at HC5; have HT : Tch (w.heap.size + 1) wr W5 := (by rw [e5]; exact tch_setCells _ _ _ _); have HBl5 := HT.below HBr.out (by omega); clear e5 HT))
      (try simp only [Exit.inBlock, Exit.then])
      exact bodyPost_ret (results_msg rfl _ rfl HC5 HSW.out) rfl ⟨_, _, rfl, HOK.out, HRK.out, HBl5⟩
end Go.Proofs.Ytdohenfbehpplaa
