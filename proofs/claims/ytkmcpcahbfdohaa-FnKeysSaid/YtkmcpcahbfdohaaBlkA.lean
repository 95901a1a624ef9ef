/- What is proved: the library's iterator over a slice from its end, at this program's puts. No condition. -/
import Derived.Test.YtkmcpcahbfdohaaProg
import Derived.RangeFuncNested
import Derived.RangeFuncBound
import Derived.RangeFuncCalls
import Derived.RangeFuncLeaves
import Derived.RangeFuncBox
import Derived.Shelf.Abstract
import Derived.Shelf.RegionOpen
import Derived.WalkKit
import Derived.OwnWalkIn
import Derived.TacticsInMore
import Derived.LoopNIn
import Derived.LoopIn
namespace Go.Proofs.Ytkmcpcahbfdohaa
open Go Go.RowKit Go.Shelf
attribute [local go_sem] Oper.semAt_some
abbrev Sl3 := Option Addr × Nat × Nat
abbrev slV (s : Sl3) : Value := .slice s.1 s.2.1 s.2.2
abbrev Pt := Int × Sl3
def bk (zs : List Pt) (k : Nat) : List (Nat × Pt) := (List.range k).map fun j => (zs.length - 1 - j, zs[zs.length - 1 - j]?.getD (0, none, 0, 0))
theorem bk_succ (zs : List Pt) (k : Nat) : bk zs (k + 1) = bk zs k ++ [(zs.length - 1 - k, zs[zs.length - 1 - k]?.getD (0, none, 0, 0))] := by simp [bk, List.range_succ]
theorem bk_length (zs : List Pt) (k : Nat) : (bk zs k).length = k := by simp [bk]
def encP (x : Nat × Pt) : Array Value := #[.int .i64 (x.1 : Int), .agg #[.int .i64 x.2.1, .slice x.2.2.1 x.2.2.2.1 x.2.2.2.2]]
set_option maxRecDepth 100000 in
set_option maxHeartbeats 2000000 in
theorem back1_in (F : Fence) (n : Nat) (h7 : F.fn 156) (hro : F.round = none) (hn : 1 ≤ n) (l Bs n₀ b off cap : Nat) (zs : List Pt) (hreach : zs.length * 32 ≤ 140737488355328) (hb : b < n₀) (hB : Bs < n₀) (J Jx : List (Nat × Pt) → World → Prop)
    (hY : ∀ pre x W, J pre W → pre.length < zs.length → YieldAt F (n - 1) Try.prog l (encP x) W fun e W' =>
      (e = .returned (.bool true) ∧ J (pre ++ [x]) W' ∧ Below n₀ W W') ∨ (e = .returned (.bool false) ∧ Jx (pre ++ [x]) W'))
    (W : World) (hBs : W.cell? ⟨Bs, 0, none⟩ = some (.slice (some ⟨b, off, none⟩) zs.length cap)) (hc : ∀ (j : Nat) (z : Pt), zs[j]? = some z → W.cell? ⟨b, off + j * 2, none⟩ = some (.int .i64 z.1) ∧ W.cell? ⟨b, off + j * 2 + 1, none⟩ = some (slV z.2)) (h0 : J [] W) :
    CallsIn F n Try.prog 156 #[.func (.yield l) #[] #[], .pointer (some ⟨Bs, 0, none⟩)] W fun e W' => (∃ v, e = .returned v) ∧
      ((∃ ys, ys = bk zs zs.length ∧ J ys W') ∨ (∃ pre, (∃ k, k ≤ zs.length ∧ pre = bk zs k) ∧ Jx pre W')) := by
  refine callsIn_of_wp Try.func156 rfl h7 ?_ hro
  simp only [Try.ntmps156, List.size_toArray, List.length_cons, List.length_nil, Nat.reduceAdd, Nat.reduceSub, Array.replicate_succ, Array.replicate_zero, List.push_toArray, List.append_toArray, List.nil_append, List.cons_append]
  gi_wp2
  gi_loopw [3] (fun i wr => ∃ k : Nat, k ≤ zs.length ∧ i = .int .i64 ((zs.length : Int) - 1 - k) ∧ J (bk zs k) wr ∧ Below n₀ W wr)
    (fun i _ => (intOf i + 1).toNat)
  case atStart => exact ⟨0, Nat.zero_le _, by simp, h0, Below.refl _ _⟩
  case round =>
    obtain ⟨k, hk, rfl, hJs, hnx⟩ := hrel
    have hBx := (hnx.cell (p := ⟨Bs, 0, none⟩) hB).trans hBs
    by_cases hlt : k < zs.length
    · obtain ⟨i, hi⟩ : ∃ i : Nat, zs.length - 1 - k = i := ⟨_, rfl⟩
      have hz : zs[i]? = some (zs[i]'(by omega)) := List.getElem?_eq_getElem (by omega)
      obtain ⟨z, hzz⟩ : ∃ z, zs[i]'(by omega) = z := ⟨_, rfl⟩
      rw [hzz] at hz
      obtain ⟨c1, c2⟩ := hc i z hz
      have c1' := (hnx.cell (p := ⟨b, off + i * 2, none⟩) hb).trans c1
      have c2' := (hnx.cell (p := ⟨b, off + i * 2 + 1, none⟩) hb).trans c2
      have hii : (zs.length : Int) - 1 - (k : Int) = (i : Int) := by omega
      rw [hii]
      obtain ⟨zv, zA, zn, zc⟩ := z
      obtain ⟨fn, tmps, assign, body, hy, hR⟩ := hY _ (i, (zv, zA, zn, zc)) wr hJs (by rw [bk_length]; exact hlt)
      dsimp only [encP] at hy
      have hi0 : (0 : Int) ≤ (i : Int) := by omega
      have hil : i < zs.length := by omega
      gi_wp2
      have hbs : bk zs k ++ [(i, (zv, zA, zn, zc))] = bk zs (k + 1) := by rw [bk_succ, hi, hz]; rfl
      refine hR.mono ?_
      rintro e W3 (⟨rfl, hJ3, hk3⟩ | ⟨rfl, hJx3⟩)
      · gi_wp2
        go_roundw
        case rel => exact ⟨k + 1, by omega, by rw [show (zs.length : Int) - 1 - ((k + 1 : Nat) : Int) = (i : Int) - 1 by omega], by rw [← hbs]; exact hJ3, hnx.trans hk3⟩
        case measure => simp [intOf]
      · gi_wp2
        refine bodyPost_ret (results_none rfl _ _ _) rfl ?_
        exact ⟨⟨_, rfl⟩, .inr ⟨_, ⟨k + 1, by omega, hbs⟩, hJx3⟩⟩
    · obtain rfl : k = zs.length := by omega
      rw [show (zs.length : Int) - 1 - (zs.length : Int) = -1 by omega]
      gi_wp2
      go_end0
      exact ⟨⟨_, rfl⟩, .inl ⟨_, rfl, hJs⟩⟩

set_option maxRecDepth 100000 in
set_option maxHeartbeats 1000000 in
theorem back1_nil_in (F : Fence) (n : Nat) (h7 : F.fn 156) (hro : F.round = none) (l Bs : Nat) (A : Option Addr) (cap : Nat) (J : List (Nat × Pt) → World → Prop) (W : World) (hBs : W.cell? ⟨Bs, 0, none⟩ = some (.slice A 0 cap)) (h0 : J [] W) :
    CallsIn F n Try.prog 156 #[.func (.yield l) #[] #[], .pointer (some ⟨Bs, 0, none⟩)] W fun e W' => (∃ v, e = .returned v) ∧ J [] W' := by
  refine callsIn_of_wp Try.func156 rfl h7 ?_ hro
  simp only [Try.ntmps156, List.size_toArray, List.length_cons, List.length_nil, Nat.reduceAdd, Nat.reduceSub, Array.replicate_succ, Array.replicate_zero, List.push_toArray, List.append_toArray, List.nil_append, List.cons_append]
  gi_wp2
  gi_loopw [3] (fun i wr => i = .int .i64 (-1) ∧ J [] wr) (fun _ _ => 0)
  case atStart => exact ⟨rfl, h0⟩
  case round =>
    obtain ⟨rfl, hJs⟩ := hrel
    gi_wp2
    go_end0
    exact ⟨⟨_, rfl⟩, hJs⟩
set_option maxHeartbeats 1000000 in
theorem back_in (F : Fence) (n : Nat) (h5 : F.fn 148) (hro : F.round = none) (A : Option Addr) (len cap : Nat) (w : World) :
    CallsIn F n Try.prog 148 #[.slice A len cap] w fun e w' => e = .returned (.func (.func 156) #[] #[.pointer (some ⟨w.heap.size, 0, none⟩)]) ∧ w' = w.alloc (.cells #[.slice A len cap] 23) := by
  refine callsIn_of_wp Try.func148 rfl h5 ?_ hro
  simp only [Try.ntmps148, List.size_toArray, List.length_cons, List.length_nil, Nat.reduceAdd, Nat.reduceSub, Array.replicate_succ, Array.replicate_zero, List.push_toArray, List.append_toArray, List.nil_append, List.cons_append]
  gi_wp2
  go_ret
  exact ⟨rfl, rfl⟩
def PutsAt (n₀ : Nat) (W : World) (sv : Value) (zs : List Pt) : Prop :=
  (zs = [] ∧ ∃ A cap, sv = .slice A 0 cap) ∨ ∃ b off cap, sv = .slice (some ⟨b, off, none⟩) zs.length cap ∧ b < n₀ ∧ ∀ (j : Nat) (z : Pt), zs[j]? = some z → W.cell? ⟨b, off + j * 2, none⟩ = some (.int .i64 z.1) ∧ W.cell? ⟨b, off + j * 2 + 1, none⟩ = some (slV z.2)
theorem PutsAt.below {n₀ : Nat} {A B : World} (h : Below n₀ A B) {sv : Value} {zs : List Pt} : PutsAt n₀ A sv zs → PutsAt n₀ B sv zs
  | .inl e => .inl e
  | .inr ⟨b, off, cap, e, hb, hc⟩ => .inr ⟨b, off, cap, e, hb, fun j z hz => ⟨(h.cell (p := ⟨b, off + j * 2, none⟩) hb).trans (hc j z hz).1, (h.cell (p := ⟨b, off + j * 2 + 1, none⟩) hb).trans (hc j z hz).2⟩⟩
theorem back_stops (F : Fence) (n : Nat) (h7 : F.fn 156) (hro : F.round = none) (hn : 1 ≤ n) (Bs n₀ : Nat) (sv : Value) (zs : List Pt) (hreach : zs.length * 32 ≤ 140737488355328) (w : World) (hBs : Bs < n₀) (hn₀ : n₀ ≤ w.heap.size)
    (hc : w.cell? ⟨Bs, 0, none⟩ = some sv) (hI : PutsAt n₀ w sv zs) :
    SeqStopsK F n Try.prog 156 #[.pointer (some ⟨Bs, 0, none⟩)] encP (Below n₀) (fun ys => ys = bk zs zs.length) (fun pre => ∃ k, k ≤ zs.length ∧ pre = bk zs k) zs.length w := fun l J Jx W hW _ _ hY h0 => by
  have hc' := (hW.cell (p := ⟨Bs, 0, none⟩) (Nat.lt_of_lt_of_le hBs hn₀)).trans hc
  rcases hI.below (hW.mono hn₀) with ⟨rfl, A, cap, rfl⟩ | ⟨b, off, cap, rfl, hb, hcs⟩
  · exact (back1_nil_in F n h7 hro l Bs A cap J W hc' h0).mono fun e W' ⟨he, hj⟩ => ⟨he, .inl ⟨_, rfl, hj⟩⟩
  · refine (back1_in F n h7 hro hn l Bs n₀ b off cap zs hreach hb hBs J Jx hY W hc' hcs h0).mono ?_
    rintro e W' ⟨he, ⟨ys, rfl, hj⟩ | ⟨pre, ⟨k, hk, rfl⟩, hj⟩⟩
    · exact ⟨he, .inl ⟨_, rfl, hj⟩⟩
    · exact ⟨he, .inr ⟨_, ⟨k, hk, rfl⟩, hj⟩⟩
/-- A struct of two, boxed. -/
def Box2 (W : World) (B : Nat) (t : TypeId) (u v : Value) : Prop := W.heap[B]? = some (.cells #[u, v] t (0, 0))
theorem Box2.own (B0 : Nat) (B : Nat) (t : TypeId) (u v : Value) : OwnFrom B0 (fun (_ : Unit) W => Box2 W B t u v) := fun _ X Y row hs hg hr =>
  (hg.block B (Array.getElem?_eq_some_iff.1 hs).1 (fun e => by obtain ⟨o, ho, hc⟩ := (hr B e.symm).2; rw [show X.heap[B]? = _ from hs] at ho; cases ho; cases hc)).trans hs
theorem Box2.cell0 {W : World} {B : Nat} {t : TypeId} {u v : Value} (h : Box2 W B t u v) : W.cell? ⟨B, 0, none⟩ = some u := by simp [World.cell?, show W.heap[B]? = _ from h]
theorem Box2.cell1 {W : World} {B : Nat} {t : TypeId} {u v : Value} (h : Box2 W B t u v) : W.cell? ⟨B, 1, none⟩ = some v := by simp [World.cell?, show W.heap[B]? = _ from h]
def last3 (pre : List (Nat × Pt)) : Sl3 := (pre.getLast?.getD (0, (0, none, 0, 0))).2.2
abbrev lastV (pre : List (Nat × Pt)) : Value := slV (last3 pre)
theorem last3_snoc (pre : List (Nat × Pt)) (x : Nat × Pt) : last3 (pre ++ [x]) = x.2.2 := by simp [last3]
def NoHit (at_ : Int) (pre : List (Nat × Pt)) : Prop := ∀ x, x ∈ pre → x.2.1 ≠ at_
def HitP (at_ : Int) (pre : List (Nat × Pt)) : Prop := ∃ q x, pre = q ++ [x] ∧ NoHit at_ q ∧ x.2.1 = at_
set_option maxRecDepth 100000 in
set_option maxHeartbeats 4000000 in
theorem blk_in (F : Fence) (n : Nat) (h1 : F.fn 101) (h2 : F.fn 148) (h3 : F.fn 156) (hro : F.round = none) (hn : 3 ≤ n) (p o bb ob nB cB : Nat) (at_ : Int) (A : Option Addr) (nC cC : Nat) (wv : Sl3) (zs : List Pt) (hreach : zs.length * 32 ≤ 140737488355328) (w : World)
    (hp : p < w.heap.size) (hB : w.cell? ⟨p, o, none⟩ = some (.slice (some ⟨bb, ob, none⟩) nB cB)) (hC : w.cell? ⟨p, o + 1, none⟩ = some (.slice A nC cC)) (hP : PutsAt w.heap.size w (.slice A nC cC) zs) (hbb : bb < w.heap.size) (h0 : 0 ≤ at_) (hlt : at_ < (nB : Int)) (hw : w.cell? ⟨bb, ob + at_.toNat, none⟩ = some (slV wv)) :
    CallsIn F n Try.prog 101 #[.pointer (some ⟨p, o, none⟩), .int .i64 at_] w fun e W' => (∃ r, e = .returned r ∧ ((∃ k, k ≤ zs.length ∧ HitP at_ (bk zs k) ∧ r = lastV (bk zs k)) ∨ (NoHit at_ (bk zs zs.length) ∧ r = slV wv))) ∧ Below w.heap.size w W' := by
  have hn1 : 1 ≤ n := by omega
  refine callsIn_of_wp_marks Try.func101 rfl h1 ?_ hro
  simp only [Try.ntmps101, List.size_toArray, List.length_cons, List.length_nil, Nat.reduceAdd, Nat.reduceSub, Array.replicate_succ, Array.replicate_zero, List.push_toArray, List.append_toArray, List.nil_append, List.cons_append]
  gi_wp2_with (gi_at_call 148; refine (back_in F (n - 1) h2 hro _ _ _ _).mono ?_; rintro e w' ⟨rfl, rfl⟩)
  have b1 := ((Boxed.new w 2 (.int .i64 at_)).alloc (.cells #[.slice none 0 0] 40)).alloc (.cells #[.slice A nC cC] 23)
  have b2 := (Boxed.new (w.alloc (.cells #[.int .i64 at_] 2)) 40 (.slice none 0 0)).alloc (.cells #[.slice A nC cC] 23)
  have b3 := Boxed.new ((w.alloc (.cells #[.int .i64 at_] 2)).alloc (.cells #[.slice none 0 0] 40)) 23 (.slice A nC cC)
  simp only [World.size_alloc] at b2 b3
  have hB0 : Below w.heap.size w (((w.alloc (.cells #[.int .i64 at_] 2)).alloc (.cells #[.slice none 0 0] 40)).alloc (.cells #[.slice A nC cC] 23)) := (((Below.refl _ w).alloc (Nat.le_refl _) _).alloc (by simp) _).alloc (by simp; omega) _
  have hsz : (((w.alloc (.cells #[.int .i64 at_] 2)).alloc (.cells #[.slice none 0 0] 40)).alloc (.cells #[.slice A nC cC] 23)).heap.size = w.heap.size + 3 := by simp
  obtain ⟨W0, hW0⟩ : ∃ W0, ((w.alloc (.cells #[.int .i64 at_] 2)).alloc (.cells #[.slice none 0 0] 40)).alloc (.cells #[.slice A nC cC] 23) = W0 := ⟨_, rfl⟩
  rw [hW0] at b1 b2 b3 hB0 hsz ⊢
  clear hW0
  have hP0 : PutsAt (w.heap.size + 3) W0 (.slice A nC cC) zs := by
    rcases hP.below hB0 with h | ⟨b, off, cap, e1, e2, e3⟩
    · exact .inl h
    · exact .inr ⟨b, off, cap, e1, by omega, e3⟩
  refine wpIn_rangeFunc_ownH hro hn1 (gf := 156) (lb := #[.pointer (some ⟨w.heap.size + 1 + 1, 0, none⟩)]) rfl h3 (enters_of Try.func156 (by kernel_rfl) rfl)
    (back_stops F (n - 1) h3 hro (by omega) (w.heap.size + 1 + 1) (w.heap.size + 3) _ zs hreach W0 (by omega) (by omega) b3.cell hP0) belowK_t (belowK_b (by omega)) (Below.refl _ _) (fun _ => rfl)
    (fun pre W => (((NoHit at_ pre ∧ Boxed W (w.heap.size + 1) 40 (.slice none 0 0)) ∧ Boxed W w.heap.size 2 (.int .i64 at_)) ∧ Boxed W (w.heap.size + 1 + 1) 23 (.slice A nC cC)) ∧ Below w.heap.size w W)
    (fun c pre W => ((c = .ret ∧ HitP at_ pre) ∧ Boxed W (w.heap.size + 1) 40 (lastV pre)) ∧ Below w.heap.size w W)
    (OwnFrom.and (OwnFrom.and (OwnFrom.and (OwnFrom.and (ownFrom_pure _ _) (Own.from (boxed_own _ _ _) _)) (Own.from (boxed_own _ _ _) _)) (Own.from (boxed_own _ _ _) _)) (ownFrom_below (Nat.le_refl _) (by omega)))
    (fun c => OwnFrom.and (OwnFrom.and (ownFrom_pure _ _) (Own.from (boxed_own _ _ _) _)) (ownFrom_below (Nat.le_refl _) (by omega)))
    ⟨⟨⟨⟨fun x hx => by simp at hx, b2⟩, b1⟩, b3⟩, hB0⟩
    (fun x a' W => ∃ Bx, w.heap.size + 2 < Bx ∧ Box2 W Bx 57 (.int .i64 x.2.1) (slV x.2.2) ∧ a' = { tmps := #[.pointer (some ⟨p, o, none⟩), .int .i64 at_, undef, .pointer (some ⟨w.heap.size, 0, none⟩), .pointer (some ⟨w.heap.size + 1, 0, none⟩), undef, .pointer (some ⟨Bx, 0, none⟩), .pointer (some ⟨p, o, none⟩), .pointer (some ⟨p, o, none⟩), .pointer (some ⟨p, o + 1, none⟩), .slice A nC cC, .func (.func 156) #[] #[.pointer (some ⟨w.heap.size + 1 + 1, 0, none⟩)], .int .i64 (x.1 : Int), .agg #[.int .i64 x.2.1, .slice x.2.2.1 x.2.2.2.1 x.2.2.2.2], undef, undef, undef, undef, undef, undef, undef, undef, undef, undef, undef, undef, undef], defers := [] })
    (fun x a' _ X Y row hs hg hr => by obtain ⟨Bx, e1, e2, e3⟩ := hs; exact ⟨Bx, e1, Box2.own _ Bx 57 _ _ () X Y row e2 hg hr, e3⟩)
    ?assign ?body ?done ?stop
  case assign =>
    rintro l pre ⟨j, v, zA, zn, zc⟩ W K ⟨⟨⟨⟨hq, bR⟩, bA⟩, bS⟩, hBw⟩ hK
    simp only [encP]
    gi_wp2
    exact hK _ _ ((KeepsOthers.alloc _ _).from _) ((Below.refl _ W).alloc bS.lt _) ⟨⟨⟨⟨hq, bR.alloc _⟩, bA.alloc _⟩, bS.alloc _⟩, hBw.alloc hBw.size _⟩ ⟨W.heap.size, bS.lt, by rw [Box2, World.alloc]; simp, rfl⟩
  case body =>
    rintro l pre ⟨j, v, zA, zn, zc⟩ a' W hl ⟨r, hr⟩ ⟨⟨⟨⟨hq, bR⟩, bA⟩, bS⟩, hBw⟩ ⟨Bx, hBx, bX, rfl⟩ hlt2
    have cA := bA.cell
    have cR := bR.cell
    have fR := bR.frozen
    have x0 := bX.cell0
    have x1 := bX.cell1
    gi_wp2
    · rename_i hxy
      obtain rfl : v = at_ := eq_of_beq hxy
      exact ⟨(KeepsOthers.setCell _ _ _).from _, ⟨⟨rfl, _, _, rfl, hq, rfl⟩, by rw [show lastV (pre ++ [(j, v, zA, zn, zc)]) = .slice zA zn zc by rw [lastV, last3_snoc]]; exact bR.set _⟩, hBw.setCell (p := ⟨w.heap.size + 1, 0, none⟩) (by simp) _⟩
    · rename_i hxy
      exact ⟨KeepsFrom.refl _ _, Below.refl _ _, ⟨⟨⟨fun z hz => (List.mem_append.1 hz).elim (hq z) (fun e => by obtain rfl := List.mem_singleton.1 e; simpa using hxy), bR⟩, bA⟩, bS⟩, hBw⟩
  case done =>
    rintro D ys W hD rfl ⟨⟨⟨⟨hq, bR⟩, bA⟩, bS⟩, hBw⟩ hK
    have cA := bA.cell
    have cR := bR.cell
    have fR := bR.frozen
    have hB' := (hBw.cell (p := ⟨p, o, none⟩) hp).trans hB
    have hw' := (hBw.cell (p := ⟨bb, ob + at_.toNat, none⟩) hbb).trans hw
    obtain ⟨i, rfl⟩ : ∃ i : Nat, at_ = (i : Int) := ⟨at_.toNat, by omega⟩
    rw [Int.toNat_natCast] at hw'
    obtain ⟨wA, wn, wc⟩ := wv
    gi_wp2
    gi_region
    all_goals gi_wp2
    all_goals
      have hK' : ((W.setCell ⟨w.heap.size + 1, 0, none⟩ (.slice wA wn wc)).drew).heap[D]? = some (.deferred (some [])) := (KeepsOthers.setCell W ⟨w.heap.size + 1, 0, none⟩ (.slice wA wn wc)).same D _ hK rfl
      refine ⟨by simp, .inl ⟨_, _, rfl, run_takeDeferred hK', ?_⟩⟩
      have bE : Boxed ((W.setCell ⟨w.heap.size + 1, 0, none⟩ (.slice wA wn wc)).drew) (w.heap.size + 1) 40 (.slice wA wn wc) := bR.set (.slice wA wn wc)
      have hc5 := cell_kept bE.cell (grownBy_putObj' _ D (.deferred none)) (fun r e => by cases e; exact ⟨_, hK', rfl⟩)
      refine ⟨.slice wA wn wc, ?_, ⟨_, rfl, .inr ⟨hq, rfl⟩⟩, ((hBw.setCell (p := ⟨w.heap.size + 1, 0, none⟩) (by simp) (.slice wA wn wc)).drew).trans (belowK_b (w := w) (Nat.le_refl _) _ D _ _ (by omega) hK' rfl rfl)⟩
      simp [results, Try.f101, go_sem, hc5]
  case stop =>
    rintro D c pre W hD ⟨k, hk, rfl⟩ ⟨⟨⟨rfl, hh⟩, bR⟩, hBw⟩ hK
    have cR := bR.cell
    have fR := bR.frozen
    gi_wp2
    refine ⟨by simp, .inl ⟨_, _, rfl, run_takeDeferred hK, ?_⟩⟩
    have hc5 := cell_kept bR.cell (grownBy_putObj' _ D (.deferred none)) (fun r e => by cases e; exact ⟨_, hK, rfl⟩)
    refine ⟨lastV (bk zs k), ?_, ⟨_, rfl, .inl ⟨k, hk, hh, rfl⟩⟩, hBw.trans (belowK_b (w := w) (Nat.le_refl _) W D _ _ (by omega) hK rfl rfl)⟩
    simp [results, Try.f101, go_sem, hc5]
set_option maxRecDepth 100000 in
set_option maxHeartbeats 4000000 in
theorem l1at_in (F : Fence) (n : Nat) (h1 : F.fn 106) (hro : F.round = none) (p o bb ob nB cB : Nat) (at_ : Int) (A : Option Addr) (nC cC : Nat) (wv : Sl3) (zs : List Pt) (hreach : zs.length * 32 ≤ 140737488355328) (w : World)
    (hB : w.cell? ⟨p, o, none⟩ = some (.slice (some ⟨bb, ob, none⟩) nB cB)) (hC : w.cell? ⟨p, o + 1, none⟩ = some (.slice A nC cC)) (hP : PutsAt w.heap.size w (.slice A nC cC) zs) (h0 : 0 ≤ at_) (hlt : at_ < (nB : Int)) (hw : w.cell? ⟨bb, ob + at_.toNat, none⟩ = some (slV wv)) :
    CallsIn F n Try.prog 106 #[.pointer (some ⟨p, o, none⟩), .int .i64 at_] w fun e W' => (∃ r, e = .returned r ∧ ((∃ k, k ≤ zs.length ∧ HitP at_ (bk zs k) ∧ r = lastV (bk zs k)) ∨ (NoHit at_ (bk zs zs.length) ∧ r = slV wv))) ∧ Below w.heap.size w W' := by
  obtain ⟨i0, rfl⟩ : ∃ i : Nat, at_ = (i : Int) := ⟨at_.toNat, by omega⟩
  rw [Int.toNat_natCast] at hw
  obtain ⟨wA, wn, wc⟩ := wv
  have hnC : nC = zs.length := by
    rcases hP with ⟨rfl, A', c', e⟩ | ⟨b, off, c', e, -, -⟩
    · cases e; rfl
    · cases e; rfl
  subst hnC
  refine callsIn_of_wp Try.func106 rfl h1 ?_ hro
  simp only [Try.ntmps106, List.size_toArray, List.length_cons, List.length_nil, Nat.reduceAdd, Nat.reduceSub, Array.replicate_succ, Array.replicate_zero, List.push_toArray, List.append_toArray, List.nil_append, List.cons_append]
  gi_wp2
  gi_loopw [5] (fun i wr => ∃ k : Nat, k ≤ zs.length ∧ i = .int .i64 ((zs.length : Int) - 1 - k) ∧ NoHit (i0 : Int) (bk zs k) ∧ wr = w)
    (fun i _ => (intOf i + 1).toNat)
  case atStart => exact ⟨0, Nat.zero_le _, by simp, (fun x hx => by simp [bk] at hx), rfl⟩
  case round =>
    obtain ⟨k, hk, rfl, hq, rfl⟩ := hrel
    by_cases hlt2 : k < zs.length
    · obtain ⟨b, off, c', e, hb, hcs⟩ : ∃ b off cap, Value.slice A zs.length cC = .slice (some ⟨b, off, none⟩) zs.length cap ∧ b < wr.heap.size ∧ ∀ (j : Nat) (z : Pt), zs[j]? = some z → wr.cell? ⟨b, off + j * 2, none⟩ = some (.int .i64 z.1) ∧ wr.cell? ⟨b, off + j * 2 + 1, none⟩ = some (slV z.2) := by
        rcases hP with ⟨e, _⟩ | h
        · rw [e] at hlt2; exact absurd hlt2 (by simp)
        · exact h
      cases e
      obtain ⟨i, hi⟩ : ∃ i : Nat, zs.length - 1 - k = i := ⟨_, rfl⟩
      have hz : zs[i]? = some (zs[i]'(by omega)) := List.getElem?_eq_getElem (by omega)
      obtain ⟨z, hzz⟩ : ∃ z, zs[i]'(by omega) = z := ⟨_, rfl⟩
      rw [hzz] at hz
      obtain ⟨c1, c2⟩ := hcs i z hz
      have hii : (zs.length : Int) - 1 - (k : Int) = (i : Int) := by omega
      rw [hii]
      obtain ⟨zv, zA, zn, zc⟩ := z
      have hi0 : (0 : Int) ≤ (i : Int) := by omega
      have hil : i < zs.length := by omega
      have hbs : bk zs (k + 1) = bk zs k ++ [(i, (zv, zA, zn, zc))] := by rw [bk_succ, hi, hz]; rfl
      gi_wp2
      · rename_i hxy
        obtain rfl : zv = (i0 : Int) := eq_of_beq hxy
        go_ret
        exact ⟨⟨_, rfl, .inl ⟨k + 1, by omega, ⟨_, _, hbs, hq, rfl⟩, (show slV (zA, zn, zc) = lastV (bk zs (k + 1)) by rw [lastV, hbs, last3_snoc])⟩⟩, Below.refl _ _⟩
      · rename_i hxy
        go_roundw
        case rel => exact ⟨k + 1, by omega, by rw [show (zs.length : Int) - 1 - ((k + 1 : Nat) : Int) = (i : Int) - 1 by omega], (by rw [hbs]; exact fun z hz => (List.mem_append.1 hz).elim (hq z) (fun e => by obtain rfl := List.mem_singleton.1 e; simpa using hxy)), trivial⟩
        case measure => simp [intOf]
    · obtain rfl : k = zs.length := by omega
      rw [show (zs.length : Int) - 1 - (zs.length : Int) = -1 by omega]
      gi_wp2
      go_ret
      exact ⟨⟨_, rfl, .inr ⟨hq, rfl⟩⟩, Below.refl _ _⟩
end Go.Proofs.Ytkmcpcahbfdohaa
