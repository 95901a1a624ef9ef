/- What is proved: regions that draw their order, walked in one order that is picked and checked: what only reads is taken first; all else has its one place. No condition. -/
import Derived.Test.YtbcdcakcmdcafaaGreatCore
namespace Go.Proofs.YtbcdcakcmdcafaaGreat
open Go Go.RowKit
set_option linter.unusedVariables false
set_option linter.unusedSimpArgs false

section
variable {P : Program} {ops : Array Oper} {md : Region.Mode} {S : World → Prop} {last : Nat} {Q : Exit → Act → World → Prop}
/-- Whatever order; behind each operation but the last one S holds. -/
def wpL (P : Program) (md : Region.Mode) (ops : Array Oper) (Q : Exit → Act → World → Prop) (S : World → Prop) (last : Nat) : Nat → Array Bool → Act → World → Prop
  | 0, listed, a, w => Region.ready md ops listed = [] ∧ Q .normal a w
  | fuel + 1, listed, a, w =>
    (Region.ready md ops listed = [] → Q .normal a w) ∧
    ∀ i ∈ Region.ready md ops listed, wpOp P ops Q i (fun a' w' => (i < last → S w') ∧ wpL P md ops Q S last fuel (listed.setIfInBounds i true) a' w') a w
theorem wpAny_of_L : ∀ (fuel : Nat) (listed : Array Bool) (a : Act) (w : World), wpL P md ops Q S last fuel listed a w → wpAny P md ops Q fuel listed a w
  | 0, _, _, _, h => h
  | fuel + 1, _, _, _, h => ⟨h.1, fun i hi => wpOp_mono (fun a' w' h' => wpAny_of_L fuel _ a' w' h'.2) (h.2 i hi)⟩
/-- All from 'last' on wait for i. -/
def lastOn (md : Region.Mode) (ops : Array Oper) (last i : Nat) : Bool :=
  (List.range ops.size).all fun j => decide (j < last) || match ops[j]? with
  | none => true
  | some o => o.after.any fun e => Region.binds md e && e.on == i
theorem lastOn_spec {i j : Nat} (h : lastOn md ops last i = true) {listed : Array Bool} (hl : ¬ j < last) (hr : j ∈ Region.ready md ops listed) (hi : i ∈ Region.ready md ops listed) : False := by
  obtain ⟨_, o, ho, hall⟩ := mem_ready.1 hr
  obtain ⟨hu, oi, hoi, _⟩ := mem_ready.1 hi
  have h := List.all_eq_true.1 h j (List.mem_range.2 (Array.getElem?_eq_some_iff.1 ho).1)
  simp only [decide_eq_false hl, Bool.false_or, ho] at h
  obtain ⟨e, he, hb⟩ := Array.any_eq_true'.1 h
  simp only [Bool.and_eq_true, beq_iff_eq] at hb
  have := hall e he hb.1
  rw [hb.2] at this
  rcases Nat.lt_or_ge i listed.size with h' | h'
  · simp [h'] at hu this
    rw [hu] at this; cases this
  · simp [Array.getElem?_eq_none h'] at this
theorem wpL_first {i : Nat} {oi : Oper} {v : Value} (hi : ops[i]? = some oi) (hsel : ∀ (j : Nat) (o : Oper) cs b, ops[j]? = some o → o.op ≠ .select cs b)
    (hQ : ∀ c a w, Q (.panic c) (a.put oi.dst v) w → Q (.panic c) a w) (hlast : lastOn md ops last i = true) :
    ∀ (fuel : Nat) (listed : Array Bool) (a : Act) (w : World),
      (∀ j oj, ops[j]? = some oj → j ≠ i → listed.getD j true = false → (∀ e ∈ oj.after, Region.binds md e = true → e.on ≠ i) → oi.apart ops oj = true) →
      i ∈ Region.ready md ops listed → YieldsIf P ops S oi v a → S w →
      wpL P md ops Q S last fuel (listed.setIfInBounds i true) (a.put oi.dst v) w → wpL P md ops Q S last (fuel + 1) listed a w := by
  intro fuel
  induction fuel with
  | zero =>
    intro listed a w _ hr hy hS H
    refine ⟨fun h => (by rw [h] at hr; cases hr), fun j hj => ?_⟩
    by_cases hji : j = i
    · subst hji; exact hy.wpOp hi hS ⟨fun _ => hS, H⟩
    · have := ready_mono hj hji
      rw [H.1] at this
      cases this
  | succ fuel ih =>
    intro listed a w hfree hr hy hS H
    refine ⟨fun h => (by rw [h] at hr; cases hr), fun j hj => ?_⟩
    by_cases hji : j = i
    · subst hji; exact hy.wpOp hi hS ⟨fun _ => hS, H⟩
    · have hjl : j < last := Classical.byContradiction fun e => lastOn_spec hlast e hj hr
      have h1 := H.2 j (ready_mono hj hji)
      obtain ⟨hjun, oj, hoj, hall⟩ := mem_ready.1 hj
      have hnot : ∀ e ∈ oj.after, Region.binds md e = true → e.on ≠ i := fun e he hb heq => by
        have h1 := hall e he hb
        have h0 := (mem_ready.1 hr).1
        rw [heq] at h1
        rcases Nat.lt_or_ge i listed.size with h' | h'
        · simp [h'] at h0 h1; rw [h0] at h1; cases h1
        · simp [Array.getElem?_eq_none h'] at h1
      have h2 := wpOp_putIf hoj (hfree j oj hoj hji hjun hnot) (fun cs b => hsel i oi cs b hi) (fun cs b => hsel j oj cs b hoj) hQ hy h1
      have hfree' : ∀ k ok, ops[k]? = some ok → k ≠ i → (listed.setIfInBounds j true).getD k true = false →
          (∀ e ∈ ok.after, Region.binds md e = true → e.on ≠ i) → oi.apart ops ok = true := fun k ok hk hki hun hno => by
        refine hfree k ok hk hki ?_ hno
        by_cases hjk : j = k
        · subst hjk; exact hjun
        · rw [getD_set_ne true hjk] at hun; exact hun
      refine wpOp_mono (fun a' w' h3 => ⟨h3.2.1, ih (listed.setIfInBounds j true) a' w' hfree' (ready_mono hr (Ne.symm hji)) h3.1 (h3.2.1 hjl) ?_⟩) h2
      rw [Array.setIfInBounds_comm _ _ hji]
      exact h3.2.2
/-- The order that is picked: (number, is it taken first?). -/
def chkP (md : Region.Mode) (ops : Array Oper) (last : Nat) : List (Nat × Bool) → Array Bool → Option (Array Bool)
  | [], listed => some listed
  | (i, true) :: r, listed => if lastOn md ops last i && Region.free md ops listed i && (Region.ready md ops listed).contains i then chkP md ops last r (listed.setIfInBounds i true) else none
  | (i, false) :: r, listed => if Region.ready md ops listed == [i] then chkP md ops last r (listed.setIfInBounds i true) else none
def chkA (md : Region.Mode) (ops : Array Oper) (last : Nat) (sch : List (Nat × Bool)) (listed listed' : Array Bool) : Bool :=
  Region.noSelect ops && chkP md ops last sch listed == some listed'
def wpSch (P : Program) (ops : Array Oper) (Q : Exit → Act → World → Prop) (S : World → Prop) (last : Nat) (K : Act → World → Prop) : List (Nat × Bool) → Act → World → Prop
  | [], a, w => K a w
  | (i, true) :: r, a, w => ∃ (o : Oper) (v : Value), ops[i]? = some o ∧ YieldsIf P ops S o v a ∧ S w ∧ wpSch P ops Q S last K r (a.put o.dst v) w
  | (i, false) :: r, a, w => wpOp P ops Q i (fun a' w' => (i < last → S w') ∧ wpSch P ops Q S last K r a' w') a w
theorem wpL_of_sch (hsel : ∀ (j : Nat) (o : Oper) cs b, ops[j]? = some o → o.op ≠ .select cs b) (hQ : ∀ c a d v w, Q (.panic c) (Act.put a d v) w → Q (.panic c) a w) {listed' : Array Bool} {n : Nat} :
    ∀ (sch : List (Nat × Bool)) (listed : Array Bool) (a : Act) (w : World), chkP md ops last sch listed = some listed' →
      wpSch P ops Q S last (wpL P md ops Q S last n listed') sch a w → wpL P md ops Q S last (n + sch.length) listed a w
  | [], listed, a, w, hc, h => by
    obtain rfl := Option.some.inj hc
    exact h
  | (i, true) :: r, listed, a, w, hc, h => by
    simp only [chkP] at hc
    split at hc
    · rename_i hcc
      simp only [Bool.and_eq_true] at hcc
      obtain ⟨o, v, ho, hy, hS, hk⟩ := h
      exact wpL_first ho hsel (fun c a w => hQ c a _ _ w) hcc.1.1 _ listed a w (Region.free_spec ho hcc.1.2) (by simpa using hcc.2) hy hS (wpL_of_sch hsel hQ r _ _ w hc hk)
    · cases hc
  | (i, false) :: r, listed, a, w, hc, h => by
    simp only [chkP] at hc
    split at hc
    · rename_i hcc
      have hr : Region.ready md ops listed = [i] := by simpa using hcc
      refine ⟨fun h0 => (by rw [hr] at h0; cases h0), fun j hj => ?_⟩
      rw [hr] at hj
      obtain rfl := List.mem_singleton.1 hj
      exact wpOp_mono (fun a' w' h3 => ⟨h3.1, wpL_of_sch hsel hQ r _ a' w' hc h3.2⟩) h
    · cases hc
end

section
variable {N : Nat} {w0 : World} {S0 : Bs} {F : Act → World → Prop} {T : Slots} {l lk : List Asn} {P : Program} {Q : Exit → Act → World → Prop} {K : Act → World → Prop} {ops : Array Oper} {last : Nat}

theorem WS.drewn {w : World} (h : WS w0 S0 l w) : WS w0 S0 l { w with drawn := w.drawn + 1 } := by
  obtain ⟨S, hs, hb, hf⟩ := h
  exact ⟨S, hs.loc (fun _ _ => rfl), hb, hf.os, hf.tape, hf.output, hf.size, hf.block⟩
theorem FJ.draw (lk : List Asn) (last : Nat) {id : Nat} {os : List Oper} (hm : P.follows .mixedOrders = true)
    (h : FJ N w0 S0 (wpL P .any os.toArray (NoPanic Q) (WS w0 S0 lk) last os.length (Array.replicate os.length false)) T l) : FJ N w0 S0 ((Code.region id os.toArray true).wp P Q) T l := by
  intro a w h1 h2 h3 h4
  refine wp_region_noPanic (wp_region_any hm ?_)
  have := wpAny_of_L _ _ _ _ (h a { w with drawn := w.drawn + 1 } h1 h2 h3 h4.drewn)
  simpa using this
theorem FJ.sch {md : Region.Mode} (sch : List (Nat × Bool)) (n : Nat) (listed' : Array Bool) {m : Nat} {listed : Array Bool} (hm : m = n + sch.length) (hc : chkA md ops last sch listed listed' = true)
    (h : FJ N w0 S0 (wpSch P ops (NoPanic Q) (WS w0 S0 lk) last (wpL P md ops (NoPanic Q) (WS w0 S0 lk) last n listed') sch) T l) : FJ N w0 S0 (wpL P md ops (NoPanic Q) (WS w0 S0 lk) last m listed) T l := by
  subst hm
  simp only [chkA, Bool.and_eq_true, beq_iff_eq] at hc
  exact fun a w h1 h2 h3 h4 => wpL_of_sch (Region.noSelect_spec hc.1) (fun _ _ _ _ _ h => h) sch listed a w hc.2 (h a w h1 h2 h3 h4)
theorem FJ.schN (h : FJ N w0 S0 K T l) : FJ N w0 S0 (wpSch P ops (NoPanic Q) (WS w0 S0 lk) last K []) T l := h
theorem FJ.drawN {md : Region.Mode} {m : Nat} {listed : Array Bool} (hr : (Region.ready md ops listed).isEmpty = true) (h : FJ N w0 S0 (Q .normal) T l) : FJ N w0 S0 (wpL P md ops (NoPanic Q) (WS w0 S0 lk) last m listed) T l := by
  have hr' : Region.ready md ops listed = [] := by simpa using hr
  intro a w h1 h2 h3 h4
  have hq := h a w h1 h2 h3 h4
  cases m with
  | zero => exact ⟨hr', hq⟩
  | succ m => exact ⟨fun _ => hq, fun i hi => by rw [hr'] at hi; cases hi⟩
theorem wanted_none {o : Oper} (hg : o.guard = none) (y : Nat → Option Bool) : Region.wanted o y = true := by simp [Region.wanted, hg]
theorem yielded_of {ops : Array Oper} {j t : Nat} {v : Value} (hj : (ops[j]?).bind (·.dst) = some t) (ht : Get T (t, v)) {a : Act} (ha : Holds T a) : yielded ops a.tmps j = (match v with | .bool b => some b | _ => none) := by
  have h1 := ha _ ht.mem
  unfold yielded
  rw [hj]
  simp only [Option.bind_some, h1]
  cases v <;> rfl
/-- A slot's truth, decided. -/
theorem FJ.caseP {s : Nat} {p : Prop} [Decidable p] {T' : Slots} (h : Er T (s, .bool (decide p)) T') (ht : p → FJ N w0 S0 F ((s, .bool true) :: T') l) (hf : ¬ p → FJ N w0 S0 F ((s, .bool false) :: T') l) : FJ N w0 S0 F T l := by
  by_cases hp : p
  · exact FJ.eq h (by rw [decide_eq_true hp]) (ht hp)
  · exact FJ.eq h (by rw [decide_eq_false hp]) (hf hp)
theorem FJ.caseN {s : Nat} {p : Prop} [Decidable p] {T' : Slots} (h : Er T (s, .bool (!decide p)) T') (ht : ¬ p → FJ N w0 S0 F ((s, .bool true) :: T') l) (hf : p → FJ N w0 S0 F ((s, .bool false) :: T') l) : FJ N w0 S0 F T l := by
  by_cases hp : p
  · exact FJ.eq h (by rw [decide_eq_true hp]; rfl) (hf hp)
  · exact FJ.eq h (by rw [decide_eq_false hp]; rfl) (ht hp)
theorem FJ.caseB {s : Nat} {b : Bool} {T' : Slots} (h : Er T (s, .bool b) T') (ht : b = true → FJ N w0 S0 F ((s, .bool true) :: T') l) (hf : b = false → FJ N w0 S0 F ((s, .bool false) :: T') l) : FJ N w0 S0 F T l := by
  cases hb : b
  · exact FJ.eq h (by rw [hb]) (hf hb)
  · exact FJ.eq h (by rw [hb]) (ht hb)
theorem goes_listg {o : Oper} {rest : List Oper} {j t : Nat} {b : Bool} (hg : o.guard = some (j, b)) (hj : (ops[j]?).bind (·.dst) = some t) (ht : Get T (t, .bool b)) : Goes P N T o (wpList P ops Q (o :: rest)) (wpList P ops Q rest) :=
  goes_of (Q := Q) fun a w _ h3 h => wpList_step fun K' hK => by
    have : Region.wanted o (yielded ops a.tmps) = true := by simp only [Region.wanted, hg, yielded_of hj ht h3, beq_self_eq_true]
    rw [if_pos this]
    exact Oper.wp_mono hK h
theorem FJ.skipl {o : Oper} {rest : List Oper} {d j t : Nat} {b : Bool} {v : Value} (hg : o.guard = some (j, b)) (hj : (ops[j]?).bind (·.dst) = some t) (ht : Get T (t, v)) (hv : ((match v with | .bool b => some b | _ => none) == some b) = false)
    (hd : o.dst = some d) (hN : d < N) (hf : fresh d T = true) (h : FJ N w0 S0 (wpList P ops Q rest) ((d, undef) :: T) l) : FJ N w0 S0 (wpList P ops Q (o :: rest)) T l := by
  intro a w h1 h2 h3 h4
  refine wpList_step fun K' hK => ?_
  have : Region.wanted o (yielded ops a.tmps) = false := by simp only [Region.wanted, hg, yielded_of hj ht h3]; exact hv
  rw [if_neg (by rw [this]; exact Bool.false_ne_true), hd]
  exact hK _ _ (h _ w (by rw [put_defers]; exact h1) (by rw [put_size]; exact h2) (h3.put (by omega) hf) h4)
/-- Quiet, no guard. -/
theorem FJ.dq {i : Nat} {r : List (Nat × Bool)} {o : Oper} {d : Nat} {v : Value} (ho : ops[i]? = some o) (hg : o.guard = none) (hd : o.dst = some d) (hN : d < N) (hf : fresh d T = true) (hk : Sb l lk) (hq : Quiet P o T (WS w0 S0 lk) v)
    (h : FJ N w0 S0 (wpSch P ops (NoPanic Q) (WS w0 S0 lk) last K r) ((d, v) :: T) l) : FJ N w0 S0 (wpSch P ops (NoPanic Q) (WS w0 S0 lk) last K ((i, true) :: r)) T l := by
  intro a w h1 h2 h3 h4
  refine ⟨o, v, ho, .inl ⟨wanted_none hg _, fun w' hw' => hq a w' h3 hw'⟩, h4.sb hk, ?_⟩
  rw [hd]
  exact h _ w (by rw [put_defers]; exact h1) (by rw [put_size]; exact h2) (h3.put (by omega) hf) h4
/-- Quiet, its guard says yes. -/
theorem FJ.dqg {i : Nat} {r : List (Nat × Bool)} {o : Oper} {d j t : Nat} {b : Bool} {v : Value} (ho : ops[i]? = some o) (hg : o.guard = some (j, b)) (hj : (ops[j]?).bind (·.dst) = some t) (ht : Get T (t, .bool b)) (hd : o.dst = some d) (hN : d < N) (hf : fresh d T = true) (hk : Sb l lk) (hq : Quiet P o T (WS w0 S0 lk) v)
    (h : FJ N w0 S0 (wpSch P ops (NoPanic Q) (WS w0 S0 lk) last K r) ((d, v) :: T) l) : FJ N w0 S0 (wpSch P ops (NoPanic Q) (WS w0 S0 lk) last K ((i, true) :: r)) T l := by
  intro a w h1 h2 h3 h4
  refine ⟨o, v, ho, .inl ⟨?_, fun w' hw' => hq a w' h3 hw'⟩, h4.sb hk, ?_⟩
  · simp only [Region.wanted, hg, yielded_of hj ht h3, beq_self_eq_true]
  · rw [hd]
    exact h _ w (by rw [put_defers]; exact h1) (by rw [put_size]; exact h2) (h3.put (by omega) hf) h4
/-- Its guard says no: it is passed over. -/
theorem FJ.dskip {i : Nat} {r : List (Nat × Bool)} {o : Oper} {d j t : Nat} {b : Bool} {v : Value} (ho : ops[i]? = some o) (hg : o.guard = some (j, b)) (hj : (ops[j]?).bind (·.dst) = some t) (ht : Get T (t, v)) (hv : ((match v with | .bool b => some b | _ => none) == some b) = false)
    (hd : o.dst = some d) (hN : d < N) (hf : fresh d T = true) (hk : Sb l lk)
    (h : FJ N w0 S0 (wpSch P ops (NoPanic Q) (WS w0 S0 lk) last K r) ((d, undef) :: T) l) : FJ N w0 S0 (wpSch P ops (NoPanic Q) (WS w0 S0 lk) last K ((i, true) :: r)) T l := by
  intro a w h1 h2 h3 h4
  refine ⟨o, undef, ho, .inr ⟨?_, rfl⟩, h4.sb hk, ?_⟩
  · simp only [Region.wanted, hg, yielded_of hj ht h3]; exact hv
  · rw [hd]
    exact h _ w (by rw [put_defers]; exact h1) (by rw [put_size]; exact h2) (h3.put (by omega) hf) h4
/-- Carried out in its one place. -/
theorem goes_sch {i : Nat} {r : List (Nat × Bool)} {o : Oper} (ho : ops[i]? = some o) (hg : o.guard = none) :
    Goes P N T o (wpSch P ops (NoPanic Q) (WS w0 S0 lk) last K ((i, false) :: r)) (fun a' w' => (i < last → WS w0 S0 lk w') ∧ wpSch P ops (NoPanic Q) (WS w0 S0 lk) last K r a' w') :=
  goes_of (Q := NoPanic Q) fun a w _ _ h => by
    show wpOp P ops (NoPanic Q) i _ a w
    unfold wpOp
    simp only [ho, wanted_none hg, if_true]
    exact .inl h
theorem goes_schg {i : Nat} {r : List (Nat × Bool)} {o : Oper} {j t : Nat} {b : Bool} (ho : ops[i]? = some o) (hg : o.guard = some (j, b)) (hj : (ops[j]?).bind (·.dst) = some t) (ht : Get T (t, .bool b)) :
    Goes P N T o (wpSch P ops (NoPanic Q) (WS w0 S0 lk) last K ((i, false) :: r)) (fun a' w' => (i < last → WS w0 S0 lk w') ∧ wpSch P ops (NoPanic Q) (WS w0 S0 lk) last K r a' w') :=
  goes_of (Q := NoPanic Q) fun a w _ h3 h => by
    show wpOp P ops (NoPanic Q) i _ a w
    unfold wpOp
    simp only [ho, Region.wanted, hg, yielded_of hj ht h3, beq_self_eq_true, if_true]
    exact .inl h
/-- Two that act are ready: either may be the next. -/
theorem FJ.fork2 {md : Region.Mode} {m : Nat} {listed : Array Bool} {i j : Nat} (hr : (Region.ready md ops listed == [i, j]) = true)
    (hi : FJ N w0 S0 (wpSch P ops (NoPanic Q) (WS w0 S0 lk) last (wpL P md ops (NoPanic Q) (WS w0 S0 lk) last m (listed.setIfInBounds i true)) [(i, false)]) T l)
    (hj : FJ N w0 S0 (wpSch P ops (NoPanic Q) (WS w0 S0 lk) last (wpL P md ops (NoPanic Q) (WS w0 S0 lk) last m (listed.setIfInBounds j true)) [(j, false)]) T l) :
    FJ N w0 S0 (wpL P md ops (NoPanic Q) (WS w0 S0 lk) last (m + 1) listed) T l := fun a w h1 h2 h3 h4 => by
  have e := eq_of_beq hr
  refine ⟨fun h0 => (by rw [e] at h0; cases h0), fun k hk => ?_⟩
  rw [e] at hk
  rcases List.mem_cons.1 hk with rfl | hk
  · exact hi a w h1 h2 h3 h4
  · obtain rfl := List.mem_singleton.1 hk
    exact hj a w h1 h2 h3 h4
theorem FJ.sk {i : Nat} (hs : Sb l lk) (h : FJ N w0 S0 F T l) : FJ N w0 S0 (fun a' w' => (i < last → WS w0 S0 lk w') ∧ F a' w') T l :=
  fun a w h1 h2 h3 h4 => ⟨fun _ => h4.sb hs, h a w h1 h2 h3 h4⟩
theorem FJ.sl {i : Nat} (hs : Nat.ble last i = true) (h : FJ N w0 S0 F T l) : FJ N w0 S0 (fun a' w' => (i < last → WS w0 S0 lk w') ∧ F a' w') T l :=
  fun a w h1 h2 h3 h4 => ⟨fun hn => absurd (Nat.le_of_ble_eq_true hs) (by omega), h a w h1 h2 h3 h4⟩
end
end Go.Proofs.YtbcdcakcmdcafaaGreat
