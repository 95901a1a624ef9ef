/- What is proved: contracts of functions, one a function. No condition. -/
import Derived.Test.YtoaebcjjfojfeaaW10
import Derived.Test.YtoaebcjjfojfeaaSortL
namespace Go.Proofs.Ytoaebcjjfojfeaa
open Go Go.RowKit
set_option linter.unusedVariables false
set_option linter.unusedSimpArgs false
set_option maxHeartbeats 1000000 in
set_option maxRecDepth 20000 in
theorem c_103 {w0 : World} {S0 : Bs} {xs : (List DInode)} {v0 : Value} (h0 : kSl_30.ro w0 (FF w0 S0) xs [v0]) (hb : inodesFault xs = 0) :
    Calls Try.prog 103 #[v0] w0 (TriPost w0 S0 (fun r l => ∃ v : Value, r = .tuple #[v, .bool (decide (usedL xs).Nodup)] ∧ l = [ownA kSl_2 (sortI (usedL xs)) [v]])) := by
 obtain ⟨A0, c0, rfl, hl0, hm0, hb0, he0⟩ := ro_form h0
 refine FJ.enter (N := 28) Try.func103 rfl rfl (by simp) [(0, .slice A0 xs.length c0)] (by simp) (l0 := []) trivial ?_
 refine FJ.seq (FJ.region (FJ.ql rfl (q_assign rfl .c) (FJ.ql rfl (q_assign rfl .c) (FJ.nil ?_))))
 refine FJ.then_ (FJ.seq (FJ.region (FJ.ql rfl (q_assign rfl .c) (FJ.nil ?_))))
 refine FJ.then_ (FJ.seq (FJ.seq (FJ.region (FJ.ql rfl (q_move rfl (.t (.s (.s (.s .z))))) ?_))))
 refine FJ.ql rfl (q_len rfl u_41 (.t .z)) (FJ.ql rfl (q_move rfl .c) (FJ.nil (FJ.then_ (FJ.block ?_))))
 refine FJ.add (c := ownA kSl_2 [] [.slice none 0 0]) (fun w S => own_nil w S none) ?_
 refine FJ.loopi (γ := Nat × (Option Addr) × Nat) (fun ⟨k, Agk0, cgk0⟩ => [(9, .int .i64 (k : Int)), (8, .int .i64 (xs.length : Int)), (7, .slice A0 xs.length c0), (4, .slice Agk0 (usedL (List.take k xs)).length cgk0), (3, .bool false), (2, .slice none 0 0)]) (fun ⟨k, Agk0, cgk0⟩ => [ownA kSl_2 (usedL (List.take k xs)) [.slice Agk0 (usedL (List.take k xs)).length cgk0]]) (fun ⟨k, Agk0, cgk0⟩ => k ≤ xs.length) (fun ⟨k, Agk0, cgk0⟩ => xs.length - k) (0, none, 0) (Nat.zero_le _) (.c .z (.c (.s .z) (.c (.s (.s .z)) (.c (.s (.s (.s .z))) (.c (.s4 .z) (.c (.s4 (.s .z)) .n)))))) (fun _ h => h.sel (.c .z .n)) ?_
 rintro ⟨k, Agk0, cgk0⟩ hk
 have hu := usedL_40 hb k
 refine FJ.seq (FJ.region (FJ.ql rfl (q_lss rfl (.t .z) (.t (.s .z))) (FJ.nil (FJ.then_ ?_))))
 refine FJ.seq ?_
 refine FJ.condP (.t .z) (fun b3 => ?_) (fun b3 => ?_)
 refine FJ.skip (FJ.then_ (FJ.seq (FJ.block (FJ.seq ?_))))
 refine FJ.region ?_
 obtain ⟨ad4, hAad4, hrad4⟩ := he0 (by omega)
 subst hAad4
 obtain ⟨x5, hx5⟩ := get_ex (xs := xs) (j := k) (by omega)
 obtain ⟨ece6, hre6, hFe6, hce6⟩ := hrad4.elem hx5
 obtain ⟨ue6_3, ue6_4, rfl, he6_3, he6_4⟩ := kT_30_ro hre6
 obtain ⟨Ae6_3, ce6_3, rfl, hle6_3, hme6_3, hbe6_3, hee6_3⟩ := ro_form he6_3
 obtain ⟨Ae6_4, ce6_4, rfl, hle6_4, hme6_4, hbe6_4, hee6_4⟩ := ro_form he6_4
 refine FJ.ql rfl (q_indexAddr (j := k) rfl u_41 sz_30 (.t (.s (.s (.s .z)))) (.t (.s .z)) rfl (by omega)) ?_
 refine FJ.ql rfl (q_loadA (cs := [.int .i64 x5.kind, .int .i64 x5.links, .int .i64 x5.size, .slice Ae6_3 x5.blocks.length ce6_3, .slice Ae6_4 x5.ents.length ce6_4]) rfl ag_30 sz_30 (.t .z) (WS.els hFe6 hce6)) ?_
 refine FJ.e (goes_list rfl) rfl (by decide) rfl (e_alloc rfl z_30 rfl rfl) ?_
 rintro _ _ ⟨g9, rfl, rfl⟩
 refine FJ.es (goes_list rfl) rfl (es_store (off := 0) (cs := [.int .i64 x5.kind, .int .i64 x5.links, .int .i64 x5.size, .slice Ae6_3 x5.blocks.length ce6_3, .slice Ae6_4 x5.ents.length ce6_4]) rfl sz_30 (.t .z) (.t (.s .z)) rfl (ones rfl) .z (Nat.le_of_ble_eq_true rfl) (.c .z (.c (.s .z) (.c (.s (.s .z)) (.c (.s (.s (.s .z))) (.c (.s (.s (.s (.s .z)))) .n)))))) ?_
 refine FJ.nil (FJ.then_ (FJ.region (FJ.ql rfl (q_move rfl (.t (.s4 (.s (.s (.s .z)))))) (FJ.ql rfl (q_fieldAddr rfl (.t (.s .z)) (fun _ => fa_30_3 _ _)) ?_))))
 refine FJ.ql rfl (q_load rfl ag_22 (.t .z) (WS.row .z rfl)) ?_
 refine FJ.e (goes_list rfl) rfl (by decide) rfl (e_appendF (flat_scalar _ _ _) rfl u_22 inf_2 rfl (.t (.s (.s .z))) (.t .z) (.c (.s .z) .n) (fun w1 S1 tr => tr.ctx he6_3) (by first | omega | (rw [usedL_take (by assumption)]; have := usedL_40 hb (k + 1); omega) | (have := usedL_40 hb (k + 1); rw [← usedL_take (by assumption), List.length_append] at this; omega)) (by first | omega | (rw [usedL_take (by assumption)]; have := usedL_40 hb (k + 1); omega) | (have := usedL_40 hb (k + 1); rw [← usedL_take (by assumption), List.length_append] at this; omega))) ?_
 rintro _ _ rfl
 refine FJ.ceq .z (usedL_take hx5) ?_
 refine FJ.know (WS.oform .z) ?_
 rintro ⟨Ao10, co10, rfl, hlo10, hmo10, hbo10⟩
 refine FJ.er (.s4 (.s4 (.s (.s (.s .z))))) (FJ.ql rfl (q_assign rfl (.t .z)) (FJ.nil (FJ.inBN (FJ.then_ ?_))))
 refine FJ.region ?_
 refine FJ.ql rfl (q_add (c := ((k + 1 : Nat) : Int)) rfl (.t (.s4 (.s4 (.s .z)))) .c (wr (by omega) (by omega) (by omega))) ?_
 refine FJ.er (.s4 (.s4 (.s (.s .z)))) (FJ.ql rfl (q_move rfl (.t .z)) (FJ.nil ?_))
 refine FJ.again ((k + 1), Ao10, co10) (by omega) (by first | omega | (dsimp only; omega)) (.c .z (.c (.s4 (.s4 (.s (.s (.s .z))))) (.c (.s4 (.s4 (.s4 .z))) (.c (.s (.s .z)) (.c (.s4 (.s4 (.s4 (.s .z)))) (.c (.s4 (.s4 (.s4 (.s (.s .z))))) .n)))))) (fun _ h => h.sel (.c .z .n))
 refine FJ.exit (FJ.thenE (FJ.thenE (FJ.inB (FJ.then_ ?_))))
 refine FJ.seq (FJ.region (FJ.ql rfl (q_move rfl (.t (.s4 .z))) ?_))
 have he11 : usedL (List.take k xs) = usedL xs := (congrArg usedL (List.take_of_length_le (by omega)))
 refine FJ.eq .z (congrArg (fun z_ => (.slice Agk0 (z_).length cgk0 : Value)) he11) ?_
 refine FJ.eq (.s4 (.s .z)) (congrArg (fun z_ => (.slice Agk0 (z_).length cgk0 : Value)) he11) ?_
 refine FJ.chEq .z (congrArg (fun z_ => (ownA kSl_2 (z_) [.slice Agk0 (z_).length cgk0] : Asn)) he11) ?_
 refine FJ.call (goes_list rfl) rfl (by decide) rfl (c_call rfl Try.func137 rfl rfl (args1 (.t (.s .z)))) (.c .z .n) (fun w1 S1 hs tr => c_137 hs) ?_
 rintro _ _ ⟨rfl, rfl⟩
 refine FJ.cat (.c .n) ?_
 have he12 : (usedL xs).length = (sortI (usedL xs)).length := (sortI_len _).symm
 refine FJ.eq (.s .z) (congrArg (fun z_ => (.slice Agk0 z_ cgk0 : Value)) he12) ?_
 refine FJ.eq (.s (.s .z)) (congrArg (fun z_ => (.slice Agk0 z_ cgk0 : Value)) he12) ?_
 refine FJ.chEq .z (congrArg (fun z_ => (ownA kSl_2 (sortI (usedL xs)) [.slice Agk0 z_ cgk0] : Asn)) he12) ?_
 refine FJ.nil (FJ.then_ (FJ.seq (FJ.region (FJ.ql rfl (q_move rfl (.t (.s .z))) ?_))))
 refine FJ.ql rfl (q_move rfl (.t (.s (.s .z)))) ?_
 refine FJ.call (goes_list rfl) rfl (by decide) rfl (c_call rfl Try.func139 rfl rfl (args1 (.t .z))) .n (fun w1 S1 hs tr => c_139 (tr.own .z)) ?_
 rintro _ _ rfl
 refine FJ.cat (.c .n) ?_
 refine FJ.know (WS.oform .z) ?_
 rintro ⟨Ao14, co14, rfl, hlo14, hmo14, hbo14⟩
 refine FJ.call (goes_list rfl) rfl (by decide) rfl (c_call rfl Try.func138 rfl rfl (args1 (.t .z))) (.c .z .n) (fun w1 S1 hs tr => c_138 hs) ?_
 rintro _ _ ⟨z15, rfl, rfl⟩
 refine FJ.cat .n ?_
 refine FJ.ql rfl (q_len rfl u_22 (.t .z)) (FJ.ql rfl (q_move rfl (.t (.s4 (.s (.s .z))))) (FJ.ql rfl (q_len rfl u_22 (.t .z)) (FJ.ql rfl (q_eql rfl (.t (.s (.s .z))) (.t .z)) (FJ.er (.s16 .z) ?_))))
 refine FJ.ql rfl (q_assign rfl (.t (.s4 (.s (.s (.s .z)))))) (FJ.er (.s16 .z) (FJ.ql rfl (q_assign rfl (.t (.s .z))) (FJ.nil (FJ.then_ ?_))))
 refine FJ.ret ?_
 refine FJ.doneS (res2 rfl (.s .z) .z) (.c .z .n) ?_
 exact ⟨_, congrArg (fun b => Value.tuple #[_, .bool b]) (by rw [decide_eq_decide, ← compact_iff]; omega), rfl⟩

set_option maxHeartbeats 1000000 in
set_option maxRecDepth 20000 in
theorem c_102 {w0 : World} {S0 : Bs} {xs : (List DInode)} {v0 : Value} (h0 : kSl_30.ro w0 (FF w0 S0) xs [v0]) (hb : inodesFault xs = 0) :
    Calls Try.prog 102 #[v0] w0 (TriPost w0 S0 (fun r l => ∃ v : Value, r = .tuple #[v, .bool (decide (usedL xs).Nodup)] ∧ l = [ownA kSl_2 (placesTo (usedP xs) 20) [v]])) := by
 obtain ⟨A0, c0, rfl, hl0, hm0, hb0, he0⟩ := ro_form h0
 refine FJ.enter (N := 29) Try.func102 rfl rfl (by simp) [(0, .slice A0 xs.length c0)] (by simp) (l0 := []) trivial ?_
 refine FJ.seq (FJ.region (FJ.ql rfl (q_assign rfl .c) (FJ.ql rfl (q_assign rfl .c) (FJ.nil ?_))))
 refine FJ.then_ (FJ.seq (FJ.region ?_))
 refine FJ.e (goes_list rfl) rfl (by decide) rfl (e_buildNil rfl u_22 (inz inf_2)) ?_
 rintro _ _ ⟨g2, rfl, rfl⟩
 refine FJ.ql rfl (q_assign rfl (.t .z)) (FJ.nil (FJ.then_ (FJ.seq (FJ.region ?_))))
 refine FJ.ql rfl (q_assign rfl .c) (FJ.nil (FJ.then_ (FJ.seq (FJ.seq ?_))))
 refine FJ.region (FJ.ql rfl (q_assign rfl .c) (FJ.nil (FJ.then_ (FJ.block ?_))))
 refine FJ.add (c := ownA kSl_2 ([] : (List Int)) [.slice (some ⟨g2, 0, none⟩) 0 0]) (fun w S => own_nil w S _) ?_
 refine FJ.loopi (γ := Nat × (Option Addr) × Nat) (fun ⟨k, Agk0, cgk0⟩ => [(6, .int .i64 (k : Int)), (5, .bool (decide (onceTo xs k))), (4, .slice Agk0 (placesTo (usedP xs) k).length cgk0), (3, .bool false), (2, .slice none 0 0), (0, .slice A0 xs.length c0)]) (fun ⟨k, Agk0, cgk0⟩ => [ownA kSl_2 (placesTo (usedP xs) k) [.slice Agk0 (placesTo (usedP xs) k).length cgk0], rowA g2 2 1 0 []]) (fun ⟨k, Agk0, cgk0⟩ => k ≤ 20) (fun ⟨k, Agk0, cgk0⟩ => 20 - k) (0, (some ⟨g2, 0, none⟩), 0) (Nat.zero_le _) (.c .z (.e (.s .z) (congrArg Value.bool (decide_eq_true (fun j hj => absurd hj (Nat.not_lt_zero j))).symm) (.c (.s (.s .z)) (.c (.s4 .z) (.c (.s4 (.s .z)) (.c (.s4 (.s (.s .z))) .n)))))) (fun _ h => h.sel (.c .z (.c .z .n))) ?_
 rintro ⟨k, Agk0, cgk0⟩ hk
 have hpl := placesTo_len (p := (usedP xs)) (k := k)
 refine FJ.seq (FJ.seq (FJ.region (FJ.ql rfl (q_move rfl (.t .z)) (FJ.ql rfl (q_lss rfl (.t .z) .c) ?_))))
 refine FJ.nil (FJ.then_ ?_)
 refine FJ.condP (.t .z) (fun b4 => ?_) (fun b4 => ?_)
 refine FJ.skip (FJ.then_ (FJ.seq (FJ.block (FJ.seq ?_))))
 refine FJ.region (FJ.ql rfl (q_move rfl (.t (.s4 (.s (.s (.s .z)))))) (FJ.ql rfl (q_move rfl (.t (.s (.s (.s .z))))) ?_))
 refine FJ.call (goes_list rfl) rfl (by decide) rfl (c_call rfl Try.func136 rfl rfl (args2 (.t (.s .z)) (.t .z))) .n (fun w1 S1 hs tr => c_136 (tr.ctx h0) _ (by assumption)) ?_
 rintro _ _ ⟨rfl, rfl⟩
 refine FJ.cat .n ?_
 refine FJ.ql rfl (q_assign rfl (.t .z)) (FJ.nil (FJ.then_ (FJ.seq (FJ.seq ?_))))
 refine FJ.region (FJ.ql rfl (q_move rfl (.t .z)) (FJ.ql rfl (q_gtr rfl (.t .z) .c) (FJ.nil (FJ.then_ ?_))))
 refine FJ.condP (.t .z) (fun b5 => ?_) (fun b5 => ?_)
 refine FJ.region (FJ.ql rfl (q_move rfl (.t (.s4 (.s4 (.s (.s .z)))))) (FJ.ql rfl (q_move rfl (.t (.s4 (.s4 (.s .z))))) ?_))
 refine FJ.e (goes_list rfl) rfl (by decide) rfl (e_buildSliceL (ps := [(0, .int .i64 (k : Int))]) (cs := [.int .i64 (k : Int)]) rfl u_22 (inz inf_2) (by decide) (by intro act hact; simp only [List.map_toArray, List.map_cons, List.map_nil, (show Val _ _ _ from (.t .z)) act hact]) rfl rfl (by decide) rfl rfl) ?_
 rintro _ _ ⟨g6, rfl, rfl⟩
 refine FJ.add (c := ownA (kint .i64) (k : Int) [.int .i64 (k : Int)]) (fun _ _ => ⟨rfl, trivial⟩) ?_
 refine FJ.e (goes_list rfl) rfl (by decide) rfl (e_append1 rfl u_22 inf_2 rfl (.t (.s (.s .z))) (.t .z) (.c (.s (.s .z)) (.c (.s .z) (.c .z .n))) (by first | omega | (simp only [List.length_append, List.length_take, List.length_nil, List.length_cons]; omega)) (by first | omega | (simp only [List.length_append, List.length_take, List.length_nil, List.length_cons]; omega))) ?_
 rintro _ _ rfl
 refine FJ.ceq .z (placesTo_on (by first | exact decide_eq_true (by first | assumption | omega | (constructor <;> first | assumption | (rw [← count_0]; assumption; done) | (exact fun hm => absurd (sortI_mem.2 hm) (by assumption)))) | exact decide_eq_false (by first | assumption | omega | (rintro ⟨h1, h2⟩; first | contradiction | (exact absurd h2 (by assumption)) | (have := count_0.2 h1; contradiction) | (exact absurd (sortI_mem.1 (by assumption)) h1))))) ?_
 refine FJ.know (WS.oform .z) ?_
 rintro ⟨Ao8, co8, rfl, hlo8, hmo8, hbo8⟩
 refine FJ.er (.s4 (.s4 (.s4 (.s (.s .z))))) (FJ.ql rfl (q_assign rfl (.t .z)) (FJ.nil (FJ.then_ (FJ.region ?_))))
 refine FJ.ql rfl (q_move rfl (.t (.s4 (.s4 (.s4 (.s (.s .z))))))) (FJ.ql rfl (q_move rfl (.t .z)) ?_)
 refine FJ.caseP .z (fun g9 => ?_) (fun g9 => ?_)
 refine FJ.q (goes_listg rfl rfl .z) rfl (by decide) rfl (q_move rfl (.t (.s4 (.s4 (.s .z))))) ?_
 refine FJ.q (goes_listg rfl rfl (.s .z)) rfl (by decide) rfl (q_leq rfl (.t .z) .c) ?_
 refine FJ.ql rfl (q_pickT rfl (.t (.s (.s .z))) (.t .z)) (FJ.er (.s16 (.s (.s (.s .z)))) (FJ.ql rfl (q_assign rfl (.t .z)) (FJ.nil (FJ.inBN ?_))))
 refine FJ.then_ (FJ.region (FJ.ql rfl (q_move rfl (.t (.s16 (.s (.s (.s .z)))))) ?_))
 refine FJ.ql rfl (q_add (c := ((k + 1 : Nat) : Int)) rfl (.t .z) .c (wr (by omega) (by omega) (by omega))) ?_
 refine FJ.er (.s16 (.s4 (.s .z))) (FJ.ql rfl (q_assign rfl (.t .z)) (FJ.nil ?_))
 refine FJ.again ((k + 1), Ao8, co8) (by omega) (by first | omega | (dsimp only; omega)) (.c .z (.e (.s (.s (.s .z))) (congrArg Value.bool (by first | (exact decide_eq_decide.2 ⟨fun h => onceTo_s.2 ⟨by assumption, by omega⟩, fun h => by have := (onceTo_s.1 h).2; omega⟩) | (exact (decide_eq_false (fun h => absurd (onceTo_s.1 h).1 (by assumption))).symm))) (.c (.s4 (.s4 (.s .z))) (.c (.s16 (.s4 (.s (.s .z)))) (.c (.s16 (.s4 (.s (.s (.s .z))))) (.c (.s16 (.s4 (.s4 .z))) .n)))))) (fun _ h => h.sel (.c .z (.c .z .n)))
 refine FJ.skipl rfl rfl .z rfl rfl (by decide) rfl ?_
 refine FJ.skipl rfl rfl (.s .z) rfl rfl (by decide) rfl ?_
 refine FJ.ql rfl (q_pickF rfl (.t (.s (.s .z))) .c) (FJ.er (.s16 (.s (.s (.s .z)))) (FJ.ql rfl (q_assign rfl (.t .z)) (FJ.nil (FJ.inBN ?_))))
 refine FJ.then_ (FJ.region (FJ.ql rfl (q_move rfl (.t (.s16 (.s (.s (.s .z)))))) ?_))
 refine FJ.ql rfl (q_add (c := ((k + 1 : Nat) : Int)) rfl (.t .z) .c (wr (by omega) (by omega) (by omega))) ?_
 refine FJ.er (.s16 (.s4 (.s .z))) (FJ.ql rfl (q_assign rfl (.t .z)) (FJ.nil ?_))
 refine FJ.again ((k + 1), Ao8, co8) (by omega) (by first | omega | (dsimp only; omega)) (.c .z (.e (.s (.s (.s .z))) (congrArg Value.bool (by first | (exact decide_eq_decide.2 ⟨fun h => onceTo_s.2 ⟨by assumption, by omega⟩, fun h => by have := (onceTo_s.1 h).2; omega⟩) | (exact (decide_eq_false (fun h => absurd (onceTo_s.1 h).1 (by assumption))).symm))) (.c (.s4 (.s4 (.s .z))) (.c (.s16 (.s4 (.s (.s .z)))) (.c (.s16 (.s4 (.s (.s (.s .z))))) (.c (.s16 (.s4 (.s4 .z))) .n)))))) (fun _ h => h.sel (.c .z (.c .z .n)))
 refine FJ.skip (FJ.then_ (FJ.region (FJ.ql rfl (q_move rfl (.t (.s4 (.s4 (.s .z))))) (FJ.ql rfl (q_move rfl (.t .z)) ?_))))
 refine FJ.caseP .z (fun g10 => ?_) (fun g10 => ?_)
 refine FJ.q (goes_listg rfl rfl .z) rfl (by decide) rfl (q_move rfl (.t (.s4 .z))) ?_
 refine FJ.q (goes_listg rfl rfl (.s .z)) rfl (by decide) rfl (q_leq rfl (.t .z) .c) ?_
 refine FJ.ql rfl (q_pickT rfl (.t (.s (.s .z))) (.t .z)) (FJ.er (.s4 (.s4 (.s4 (.s (.s .z))))) (FJ.ql rfl (q_assign rfl (.t .z)) (FJ.nil (FJ.inBN ?_))))
 refine FJ.then_ (FJ.region (FJ.ql rfl (q_move rfl (.t (.s4 (.s4 (.s4 (.s (.s .z))))))) ?_))
 refine FJ.ql rfl (q_add (c := ((k + 1 : Nat) : Int)) rfl (.t .z) .c (wr (by omega) (by omega) (by omega))) ?_
 refine FJ.er (.s16 .z) (FJ.ql rfl (q_assign rfl (.t .z)) (FJ.nil ?_))
 have he11 : placesTo (usedP xs) k = placesTo (usedP xs) (k + 1) := (placesTo_off (by first | exact decide_eq_true (by first | assumption | omega | (constructor <;> first | assumption | (rw [← count_0]; assumption; done) | (exact fun hm => absurd (sortI_mem.2 hm) (by assumption)))) | exact decide_eq_false (by first | assumption | omega | (rintro ⟨h1, h2⟩; first | contradiction | (exact absurd h2 (by assumption)) | (have := count_0.2 h1; contradiction) | (exact absurd (sortI_mem.1 (by assumption)) h1)))))
 refine FJ.eq (.s16 (.s .z)) (congrArg (fun z_ => (.slice Agk0 (z_).length cgk0 : Value)) he11) ?_
 refine FJ.chEq .z (congrArg (fun z_ => (ownA kSl_2 (z_) [.slice Agk0 (z_).length cgk0] : Asn)) he11) ?_
 refine FJ.again ((k + 1), Agk0, cgk0) (by omega) (by first | omega | (dsimp only; omega)) (.c (.s .z) (.e (.s4 .z) (congrArg Value.bool (by first | (exact decide_eq_decide.2 ⟨fun h => onceTo_s.2 ⟨by assumption, by omega⟩, fun h => by have := (onceTo_s.1 h).2; omega⟩) | (exact (decide_eq_false (fun h => absurd (onceTo_s.1 h).1 (by assumption))).symm))) (.c .z (.c (.s16 (.s (.s .z))) (.c (.s16 (.s (.s (.s .z)))) (.c (.s16 (.s4 .z)) .n)))))) (fun _ h => h.sel (.c .z (.c .z .n)))
 refine FJ.skipl rfl rfl .z rfl rfl (by decide) rfl ?_
 refine FJ.skipl rfl rfl (.s .z) rfl rfl (by decide) rfl ?_
 refine FJ.ql rfl (q_pickF rfl (.t (.s (.s .z))) .c) (FJ.er (.s4 (.s4 (.s4 (.s (.s .z))))) (FJ.ql rfl (q_assign rfl (.t .z)) (FJ.nil (FJ.inBN ?_))))
 refine FJ.then_ (FJ.region (FJ.ql rfl (q_move rfl (.t (.s4 (.s4 (.s4 (.s (.s .z))))))) ?_))
 refine FJ.ql rfl (q_add (c := ((k + 1 : Nat) : Int)) rfl (.t .z) .c (wr (by omega) (by omega) (by omega))) ?_
 refine FJ.er (.s16 .z) (FJ.ql rfl (q_assign rfl (.t .z)) (FJ.nil ?_))
 have he12 : placesTo (usedP xs) k = placesTo (usedP xs) (k + 1) := (placesTo_off (by first | exact decide_eq_true (by first | assumption | omega | (constructor <;> first | assumption | (rw [← count_0]; assumption; done) | (exact fun hm => absurd (sortI_mem.2 hm) (by assumption)))) | exact decide_eq_false (by first | assumption | omega | (rintro ⟨h1, h2⟩; first | contradiction | (exact absurd h2 (by assumption)) | (have := count_0.2 h1; contradiction) | (exact absurd (sortI_mem.1 (by assumption)) h1)))))
 refine FJ.eq (.s16 (.s .z)) (congrArg (fun z_ => (.slice Agk0 (z_).length cgk0 : Value)) he12) ?_
 refine FJ.chEq .z (congrArg (fun z_ => (ownA kSl_2 (z_) [.slice Agk0 (z_).length cgk0] : Asn)) he12) ?_
 refine FJ.again ((k + 1), Agk0, cgk0) (by omega) (by first | omega | (dsimp only; omega)) (.c (.s .z) (.e (.s4 .z) (congrArg Value.bool (by first | (exact decide_eq_decide.2 ⟨fun h => onceTo_s.2 ⟨by assumption, by omega⟩, fun h => by have := (onceTo_s.1 h).2; omega⟩) | (exact (decide_eq_false (fun h => absurd (onceTo_s.1 h).1 (by assumption))).symm))) (.c .z (.c (.s16 (.s (.s .z))) (.c (.s16 (.s (.s (.s .z)))) (.c (.s16 (.s4 .z)) .n)))))) (fun _ h => h.sel (.c .z (.c .z .n)))
 refine FJ.exit (FJ.thenE (FJ.thenE (FJ.inB (FJ.then_ ?_))))
 refine FJ.seq (FJ.region (FJ.ql rfl (q_move rfl (.t (.s4 .z))) (FJ.ql rfl (q_move rfl (.t (.s4 .z))) (FJ.er (.s4 (.s4 .z)) ?_))))
 refine FJ.ql rfl (q_assign rfl (.t (.s .z))) (FJ.er (.s4 (.s4 .z)) (FJ.ql rfl (q_assign rfl (.t (.s .z))) (FJ.nil (FJ.then_ ?_))))
 refine FJ.ret ?_
 refine FJ.doneS (res2 rfl (.s .z) .z) (.c .z .n) ?_
 exact ⟨_, by rw [show k = 20 by omega]; exact congrArg (fun b => Value.tuple #[_, .bool b]) (decide_eq_decide.2 (onceTo_20 hb)), by rw [show k = 20 by omega]⟩

set_option maxHeartbeats 1000000 in
set_option maxRecDepth 20000 in
theorem c_105 {w0 : World} {S0 : Bs} {xs : (List DInode)} {v0 : Value} (h0 : kSl_30.ro w0 (FF w0 S0) xs [v0]) {b : (List Int)} {v1 : Value} (h1 : kSl_2.ro w0 (FF w0 S0) b [v1]) (hb : inodesFault xs = 0) :
    Calls Try.prog 105 #[v0, v1] w0 (TriPost w0 S0 (fun r l => l = [ownA kSl_2 (freeTo xs b) [r]])) := by
 obtain ⟨A0, c0, rfl, hl0, hm0, hb0, he0⟩ := ro_form h0
 obtain ⟨A1, c1, rfl, hl1, hm1, hb1, he1⟩ := ro_form h1
 refine FJ.enter (N := 27) Try.func105 rfl rfl (by simp) [(0, .slice A0 xs.length c0), (1, .slice A1 b.length c1)] (by simp) (l0 := []) trivial ?_
 refine FJ.seq (FJ.region (FJ.ql rfl (q_assign rfl .c) (FJ.nil (FJ.then_ ?_))))
 refine FJ.seq (FJ.region ?_)
 refine FJ.e (goes_list rfl) rfl (by decide) rfl (e_buildNil rfl u_22 (inz inf_2)) ?_
 rintro _ _ ⟨g3, rfl, rfl⟩
 refine FJ.ql rfl (q_assign rfl (.t .z)) (FJ.nil (FJ.then_ (FJ.seq (FJ.seq ?_))))
 refine FJ.region (FJ.ql rfl (q_assign rfl .c) (FJ.nil (FJ.then_ (FJ.block ?_))))
 refine FJ.add (c := ownA kSl_2 ([] : (List Int)) [.slice (some ⟨g3, 0, none⟩) 0 0]) (fun w S => own_nil w S _) ?_
 refine FJ.loopi (γ := Nat × (Option Addr) × Nat) (fun ⟨k, Agk0, cgk0⟩ => [(6, .int .i64 (k : Int)), (5, .slice Agk0 (placesTo (freeP xs b) k).length cgk0), (4, .slice none 0 0), (0, .slice A0 xs.length c0), (1, .slice A1 b.length c1)]) (fun ⟨k, Agk0, cgk0⟩ => [ownA kSl_2 (placesTo (freeP xs b) k) [.slice Agk0 (placesTo (freeP xs b) k).length cgk0], rowA g3 2 1 0 []]) (fun ⟨k, Agk0, cgk0⟩ => k ≤ 20) (fun ⟨k, Agk0, cgk0⟩ => 20 - k) (0, (some ⟨g3, 0, none⟩), 0) (Nat.zero_le _) (.c .z (.c (.s .z) (.c (.s (.s (.s .z))) (.c (.s4 .z) (.c (.s4 (.s .z)) .n))))) (fun _ h => h.sel (.c .z (.c .z .n))) ?_
 rintro ⟨k, Agk0, cgk0⟩ hk
 have hpl := placesTo_len (p := (freeP xs b)) (k := k)
 refine FJ.seq (FJ.seq (FJ.region (FJ.ql rfl (q_move rfl (.t .z)) (FJ.ql rfl (q_lss rfl (.t .z) .c) ?_))))
 refine FJ.nil (FJ.then_ ?_)
 refine FJ.condP (.t .z) (fun b5 => ?_) (fun b5 => ?_)
 refine FJ.skip (FJ.then_ (FJ.seq (FJ.block (FJ.seq ?_))))
 refine FJ.region (FJ.ql rfl (q_move rfl (.t (.s4 (.s .z)))) (FJ.ql rfl (q_move rfl (.t (.s (.s (.s .z))))) ?_))
 refine FJ.call (goes_list rfl) rfl (by decide) rfl (c_call rfl Try.func136 rfl rfl (args2 (.t (.s .z)) (.t .z))) .n (fun w1 S1 hs tr => c_136 (tr.ctx h0) _ (by assumption)) ?_
 rintro _ _ ⟨rfl, rfl⟩
 refine FJ.cat .n ?_
 refine FJ.ql rfl (q_eql rfl (.t .z) .c) (FJ.ql rfl (q_move rfl (.t .z)) ?_)
 refine FJ.caseP .z (fun g6 => ?_) (fun g6 => ?_)
 refine FJ.q (goes_listg rfl rfl .z) rfl (by decide) rfl (q_move rfl (.t (.s4 (.s4 (.s (.s (.s .z))))))) ?_
 refine FJ.q (goes_listg rfl rfl (.s .z)) rfl (by decide) rfl (q_move rfl (.t (.s4 (.s4 .z)))) ?_
 refine FJ.call (goes_listg rfl rfl (.s (.s .z))) rfl (by decide) rfl (c_call rfl Try.func141 rfl rfl (args2 (.t (.s .z)) (.t .z))) .n (fun w1 S1 hs tr => c_141 (tr.ctx h1) _) ?_
 rintro _ _ ⟨rfl, rfl⟩
 refine FJ.cat .n ?_
 refine FJ.q (goes_listg rfl rfl (.s (.s (.s .z)))) rfl (by decide) rfl (q_not rfl (.t .z)) ?_
 refine FJ.ql rfl (q_pickT rfl (.t (.s4 .z)) (.t .z)) (FJ.nil (FJ.then_ ?_))
 refine FJ.condN (.t .z) (fun b7 => ?_) (fun b7 => ?_)
 refine FJ.region (FJ.ql rfl (q_move rfl (.t (.s4 (.s4 (.s4 (.s .z)))))) (FJ.ql rfl (q_move rfl (.t (.s4 (.s4 (.s4 (.s .z)))))) ?_))
 refine FJ.e (goes_list rfl) rfl (by decide) rfl (e_buildSliceL (ps := [(0, .int .i64 (k : Int))]) (cs := [.int .i64 (k : Int)]) rfl u_22 (inz inf_2) (by decide) (by intro act hact; simp only [List.map_toArray, List.map_cons, List.map_nil, (show Val _ _ _ from (.t .z)) act hact]) rfl rfl (by decide) rfl rfl) ?_
 rintro _ _ ⟨g8, rfl, rfl⟩
 refine FJ.add (c := ownA (kint .i64) (k : Int) [.int .i64 (k : Int)]) (fun _ _ => ⟨rfl, trivial⟩) ?_
 refine FJ.e (goes_list rfl) rfl (by decide) rfl (e_append1 rfl u_22 inf_2 rfl (.t (.s (.s .z))) (.t .z) (.c (.s (.s .z)) (.c (.s .z) (.c .z .n))) (by first | omega | (simp only [List.length_append, List.length_take, List.length_nil, List.length_cons]; omega)) (by first | omega | (simp only [List.length_append, List.length_take, List.length_nil, List.length_cons]; omega))) ?_
 rintro _ _ rfl
 refine FJ.ceq .z (placesTo_on (by first | exact decide_eq_true (by first | assumption | omega | (constructor <;> first | assumption | (rw [← count_0]; assumption; done) | (exact fun hm => absurd (sortI_mem.2 hm) (by assumption)))) | exact decide_eq_false (by first | assumption | omega | (rintro ⟨h1, h2⟩; first | contradiction | (exact absurd h2 (by assumption)) | (have := count_0.2 h1; contradiction) | (exact absurd (sortI_mem.1 (by assumption)) h1))))) ?_
 refine FJ.know (WS.oform .z) ?_
 rintro ⟨Ao10, co10, rfl, hlo10, hmo10, hbo10⟩
 refine FJ.er (.s16 (.s .z)) (FJ.ql rfl (q_assign rfl (.t .z)) (FJ.nil (FJ.inBN (FJ.then_ ?_))))
 refine FJ.region (FJ.ql rfl (q_move rfl (.t (.s16 (.s .z)))) ?_)
 refine FJ.ql rfl (q_add (c := ((k + 1 : Nat) : Int)) rfl (.t .z) .c (wr (by omega) (by omega) (by omega))) ?_
 refine FJ.er (.s16 (.s (.s (.s .z)))) (FJ.ql rfl (q_assign rfl (.t .z)) (FJ.nil ?_))
 refine FJ.again ((k + 1), Ao10, co10) (by omega) (by first | omega | (dsimp only; omega)) (.c .z (.c (.s (.s (.s .z))) (.c (.s16 (.s4 .z)) (.c (.s16 (.s4 (.s .z))) (.c (.s16 (.s4 (.s (.s .z)))) .n))))) (fun _ h => h.sel (.c .z (.c .z .n)))
 refine FJ.skip (FJ.inBN (FJ.then_ (FJ.region (FJ.ql rfl (q_move rfl (.t (.s4 (.s4 (.s4 .z))))) ?_))))
 refine FJ.ql rfl (q_add (c := ((k + 1 : Nat) : Int)) rfl (.t .z) .c (wr (by omega) (by omega) (by omega))) ?_
 refine FJ.er (.s4 (.s4 (.s4 (.s (.s .z))))) (FJ.ql rfl (q_assign rfl (.t .z)) (FJ.nil ?_))
 have he11 : placesTo (freeP xs b) k = placesTo (freeP xs b) (k + 1) := (placesTo_off (by first | exact decide_eq_true (by first | assumption | omega | (constructor <;> first | assumption | (rw [← count_0]; assumption; done) | (exact fun hm => absurd (sortI_mem.2 hm) (by assumption)))) | exact decide_eq_false (by first | assumption | omega | (rintro ⟨h1, h2⟩; first | contradiction | (exact absurd h2 (by assumption)) | (have := count_0.2 h1; contradiction) | (exact absurd (sortI_mem.1 (by assumption)) h1)))))
 refine FJ.eq (.s4 (.s4 (.s4 (.s (.s (.s .z)))))) (congrArg (fun z_ => (.slice Agk0 (z_).length cgk0 : Value)) he11) ?_
 refine FJ.chEq .z (congrArg (fun z_ => (ownA kSl_2 (z_) [.slice Agk0 (z_).length cgk0] : Asn)) he11) ?_
 refine FJ.again ((k + 1), Agk0, cgk0) (by omega) (by first | omega | (dsimp only; omega)) (.c (.s .z) (.c .z (.c (.s16 .z) (.c (.s16 (.s .z)) (.c (.s16 (.s (.s .z))) .n))))) (fun _ h => h.sel (.c .z (.c .z .n)))
 refine FJ.skipl rfl rfl .z rfl rfl (by decide) rfl ?_
 refine FJ.skipl rfl rfl (.s .z) rfl rfl (by decide) rfl ?_
 refine FJ.skipl rfl rfl (.s (.s .z)) rfl rfl (by decide) rfl ?_
 refine FJ.skipl rfl rfl (.s (.s (.s .z))) rfl rfl (by decide) rfl ?_
 refine FJ.ql rfl (q_pickF rfl (.t (.s4 .z)) .c) (FJ.nil (FJ.then_ ?_))
 refine FJ.condF (.t .z) ?_
 refine FJ.skip (FJ.inBN (FJ.then_ (FJ.region (FJ.ql rfl (q_move rfl (.t (.s4 (.s4 (.s4 .z))))) ?_))))
 refine FJ.ql rfl (q_add (c := ((k + 1 : Nat) : Int)) rfl (.t .z) .c (wr (by omega) (by omega) (by omega))) ?_
 refine FJ.er (.s4 (.s4 (.s4 (.s (.s .z))))) (FJ.ql rfl (q_assign rfl (.t .z)) (FJ.nil ?_))
 have he12 : placesTo (freeP xs b) k = placesTo (freeP xs b) (k + 1) := (placesTo_off (by first | exact decide_eq_true (by first | assumption | omega | (constructor <;> first | assumption | (rw [← count_0]; assumption; done) | (exact fun hm => absurd (sortI_mem.2 hm) (by assumption)))) | exact decide_eq_false (by first | assumption | omega | (rintro ⟨h1, h2⟩; first | contradiction | (exact absurd h2 (by assumption)) | (have := count_0.2 h1; contradiction) | (exact absurd (sortI_mem.1 (by assumption)) h1)))))
 refine FJ.eq (.s4 (.s4 (.s4 (.s (.s (.s .z)))))) (congrArg (fun z_ => (.slice Agk0 (z_).length cgk0 : Value)) he12) ?_
 refine FJ.chEq .z (congrArg (fun z_ => (ownA kSl_2 (z_) [.slice Agk0 (z_).length cgk0] : Asn)) he12) ?_
 refine FJ.again ((k + 1), Agk0, cgk0) (by omega) (by first | omega | (dsimp only; omega)) (.c (.s .z) (.c .z (.c (.s16 .z) (.c (.s16 (.s .z)) (.c (.s16 (.s (.s .z))) .n))))) (fun _ h => h.sel (.c .z (.c .z .n)))
 refine FJ.exit (FJ.thenE (FJ.thenE (FJ.inB (FJ.then_ ?_))))
 refine FJ.seq (FJ.region (FJ.ql rfl (q_move rfl (.t (.s (.s (.s .z))))) (FJ.er (.s4 (.s .z)) (FJ.ql rfl (q_assign rfl (.t .z)) ?_))))
 refine FJ.nil (FJ.then_ (FJ.ret ?_))
 refine FJ.doneS (res1 rfl .z) (.c .z .n) ?_
 rw [show k = 20 by omega]; rfl

set_option maxHeartbeats 1000000 in
set_option maxRecDepth 20000 in
theorem c_107 {w0 : World} {S0 : Bs} {xs : (List DInode)} {v0 : Value} (h0 : kSl_30.ro w0 (FF w0 S0) xs [v0]) {b : (List Int)} {v1 : Value} (h1 : kSl_2.ro w0 (FF w0 S0) b [v1]) (hb : inodesFault xs = 0) :
    Calls Try.prog 107 #[v0, v1] w0 (TriPost w0 S0 (fun r l => l = [ownA kSl_2 (freeTo xs b) [r]])) := by
 obtain ⟨A0, c0, rfl, hl0, hm0, hb0, he0⟩ := ro_form h0
 obtain ⟨A1, c1, rfl, hl1, hm1, hb1, he1⟩ := ro_form h1
 refine FJ.enter (N := 33) Try.func107 rfl rfl (by simp) [(0, .slice A0 xs.length c0), (1, .slice A1 b.length c1)] (by simp) (l0 := []) trivial ?_
 refine FJ.seq (FJ.region (FJ.ql rfl (q_assign rfl .c) (FJ.nil (FJ.then_ ?_))))
 refine FJ.seq (FJ.region (FJ.ql rfl (q_move rfl (.t (.s .z))) ?_))
 refine FJ.call (goes_list rfl) rfl (by decide) rfl (c_call rfl Try.func103 rfl rfl (args1 (.t .z))) .n (fun w1 S1 hs tr => c_103 (tr.ctx h0) (by first | assumption | (exact ask_ok (by assumption)))) ?_
 rintro _ _ ⟨v3, rfl, rfl⟩
 refine FJ.cat (.c .n) ?_
 refine FJ.know (WS.oform .z) ?_
 rintro ⟨Ao5, co5, rfl, hlo5, hmo5, hbo5⟩
 refine FJ.ql rfl (q_move rfl (.t .z)) (FJ.ql rfl (q_extract (v := .slice Ao5 (sortI (usedL xs)).length co5) rfl (.t .z) rfl) (FJ.ql rfl (q_extract (v := .bool (decide (usedL xs).Nodup)) rfl (.t (.s .z)) rfl) (FJ.ql rfl (q_assign rfl (.t (.s .z))) (FJ.ql rfl (q_assign rfl (.t (.s .z))) ?_))))
 refine FJ.nil (FJ.then_ (FJ.seq (FJ.region (FJ.ql rfl (q_assign rfl .c) ?_))))
 refine FJ.nil (FJ.then_ (FJ.seq (FJ.seq (FJ.region ?_))))
 refine FJ.ql rfl (q_move rfl .c) (FJ.nil (FJ.then_ (FJ.block ?_)))
 refine FJ.add (c := ownA kSl_2 [] [.slice none 0 0]) (fun w S => own_nil w S none) ?_
 refine FJ.loopi (γ := Nat × (Option Addr) × Nat) (fun ⟨k, Agk0, cgk0⟩ => [(14, .int .i64 (k : Int)), (7, .slice Agk0 (placesTo (freeP xs b) k).length cgk0), (5, .slice Ao5 (sortI (usedL xs)).length co5), (4, .slice none 0 0), (1, .slice A1 b.length c1)]) (fun ⟨k, Agk0, cgk0⟩ => [ownA kSl_2 (placesTo (freeP xs b) k) [.slice Agk0 (placesTo (freeP xs b) k).length cgk0], ownA kSl_2 (sortI (usedL xs)) [.slice Ao5 (sortI (usedL xs)).length co5]]) (fun ⟨k, Agk0, cgk0⟩ => k ≤ 20) (fun ⟨k, Agk0, cgk0⟩ => 20 - k) (0, none, 0) (Nat.zero_le _) (.c .z (.c (.s .z) (.c (.s (.s (.s .z))) (.c (.s4 (.s4 (.s .z))) (.c (.s4 (.s4 (.s (.s (.s .z))))) .n))))) (fun _ h => h.sel (.c .z (.c .z .n))) ?_
 rintro ⟨k, Agk0, cgk0⟩ hk
 have hpl := placesTo_len (p := (freeP xs b)) (k := k)
 refine FJ.seq (FJ.region (FJ.ql rfl (q_lss rfl (.t .z) .c) (FJ.nil (FJ.then_ ?_))))
 refine FJ.seq ?_
 refine FJ.condP (.t .z) (fun b7 => ?_) (fun b7 => ?_)
 refine FJ.skip (FJ.then_ (FJ.seq (FJ.block (FJ.seq ?_))))
 refine FJ.region (FJ.ql rfl (q_move rfl (.t (.s .z))) (FJ.ql rfl (q_assign rfl (.t .z)) (FJ.nil (FJ.then_ ?_))))
 refine FJ.seq (FJ.region (FJ.ql rfl (q_move rfl (.t (.s4 (.s .z)))) (FJ.ql rfl (q_move rfl (.t (.s .z))) ?_)))
 refine FJ.call (goes_list rfl) rfl (by decide) rfl (c_call rfl Try.func144 rfl rfl (args2 (.t (.s .z)) (.t .z))) .n (fun w1 S1 hs tr => c_144 (tr.own (.s .z)) _) ?_
 rintro _ _ ⟨rfl, rfl⟩
 refine FJ.cat .n ?_
 refine FJ.ql rfl (q_not rfl (.t .z)) (FJ.ql rfl (q_move rfl (.t .z)) ?_)
 refine FJ.caseN .z (fun g8 => ?_) (fun g8 => ?_)
 refine FJ.q (goes_listg rfl rfl .z) rfl (by decide) rfl (q_move rfl (.t (.s4 (.s4 (.s4 .z))))) ?_
 refine FJ.q (goes_listg rfl rfl (.s .z)) rfl (by decide) rfl (q_move rfl (.t (.s4 (.s (.s .z))))) ?_
 refine FJ.call (goes_listg rfl rfl (.s (.s .z))) rfl (by decide) rfl (c_call rfl Try.func144 rfl rfl (args2 (.t (.s .z)) (.t .z))) .n (fun w1 S1 hs tr => c_144 (tr.ctx h1) _) ?_
 rintro _ _ ⟨rfl, rfl⟩
 refine FJ.cat .n ?_
 refine FJ.q (goes_listg rfl rfl (.s (.s (.s .z)))) rfl (by decide) rfl (q_not rfl (.t .z)) ?_
 refine FJ.ql rfl (q_pickT rfl (.t (.s4 .z)) (.t .z)) (FJ.nil (FJ.then_ ?_))
 refine FJ.condN (.t .z) (fun b9 => ?_) (fun b9 => ?_)
 refine FJ.region (FJ.ql rfl (q_move rfl (.t (.s4 (.s4 (.s4 (.s (.s .z))))))) (FJ.ql rfl (q_move rfl (.t (.s4 (.s4 (.s (.s (.s .z))))))) ?_))
 refine FJ.e (goes_list rfl) rfl (by decide) rfl (e_buildSliceL (ps := [(0, .int .i64 (k : Int))]) (cs := [.int .i64 (k : Int)]) rfl u_22 (inz inf_2) (by decide) (by intro act hact; simp only [List.map_toArray, List.map_cons, List.map_nil, (show Val _ _ _ from (.t .z)) act hact]) rfl rfl (by decide) rfl rfl) ?_
 rintro _ _ ⟨g10, rfl, rfl⟩
 refine FJ.add (c := ownA (kint .i64) (k : Int) [.int .i64 (k : Int)]) (fun _ _ => ⟨rfl, trivial⟩) ?_
 refine FJ.e (goes_list rfl) rfl (by decide) rfl (e_append1 rfl u_22 inf_2 rfl (.t (.s (.s .z))) (.t .z) (.c (.s (.s .z)) (.c (.s .z) (.c .z .n))) (by first | omega | (simp only [List.length_append, List.length_take, List.length_nil, List.length_cons]; omega)) (by first | omega | (simp only [List.length_append, List.length_take, List.length_nil, List.length_cons]; omega))) ?_
 rintro _ _ rfl
 refine FJ.ceq .z (placesTo_on (by first | exact decide_eq_true (by first | assumption | omega | (constructor <;> first | assumption | (rw [← count_0]; assumption; done) | (exact fun hm => absurd (sortI_mem.2 hm) (by assumption)))) | exact decide_eq_false (by first | assumption | omega | (rintro ⟨h1, h2⟩; first | contradiction | (exact absurd h2 (by assumption)) | (have := count_0.2 h1; contradiction) | (exact absurd (sortI_mem.1 (by assumption)) h1))))) ?_
 refine FJ.know (WS.oform .z) ?_
 rintro ⟨Ao12, co12, rfl, hlo12, hmo12, hbo12⟩
 refine FJ.er (.s16 (.s (.s .z))) (FJ.ql rfl (q_assign rfl (.t .z)) (FJ.nil (FJ.inBN (FJ.then_ ?_))))
 refine FJ.region ?_
 refine FJ.ql rfl (q_add (c := ((k + 1 : Nat) : Int)) rfl (.t (.s16 (.s (.s .z)))) .c (wr (by omega) (by omega) (by omega))) ?_
 refine FJ.er (.s16 (.s (.s (.s .z)))) (FJ.ql rfl (q_move rfl (.t .z)) (FJ.nil ?_))
 refine FJ.again ((k + 1), Ao12, co12) (by omega) (by first | omega | (dsimp only; omega)) (.c .z (.c (.s (.s .z)) (.c (.s16 (.s4 .z)) (.c (.s16 (.s4 (.s .z))) (.c (.s16 (.s4 (.s (.s .z)))) .n))))) (fun _ h => h.sel (.c .z (.c .z .n)))
 refine FJ.skip (FJ.inBN (FJ.then_ (FJ.region ?_)))
 refine FJ.ql rfl (q_add (c := ((k + 1 : Nat) : Int)) rfl (.t (.s4 (.s4 (.s4 (.s .z))))) .c (wr (by omega) (by omega) (by omega))) ?_
 refine FJ.er (.s4 (.s4 (.s4 (.s (.s .z))))) (FJ.ql rfl (q_move rfl (.t .z)) (FJ.nil ?_))
 have he13 : placesTo (freeP xs b) k = placesTo (freeP xs b) (k + 1) := (placesTo_off (by first | exact decide_eq_true (by first | assumption | omega | (constructor <;> first | assumption | (rw [← count_0]; assumption; done) | (exact fun hm => absurd (sortI_mem.2 hm) (by assumption)))) | exact decide_eq_false (by first | assumption | omega | (rintro ⟨h1, h2⟩; first | contradiction | (exact absurd h2 (by assumption)) | (have := count_0.2 h1; contradiction) | (exact absurd (sortI_mem.1 (by assumption)) h1)))))
 refine FJ.eq (.s4 (.s4 (.s4 (.s (.s (.s .z)))))) (congrArg (fun z_ => (.slice Agk0 (z_).length cgk0 : Value)) he13) ?_
 refine FJ.chEq .z (congrArg (fun z_ => (ownA kSl_2 (z_) [.slice Agk0 (z_).length cgk0] : Asn)) he13) ?_
 refine FJ.again ((k + 1), Agk0, cgk0) (by omega) (by first | omega | (dsimp only; omega)) (.c (.s .z) (.c .z (.c (.s16 .z) (.c (.s16 (.s .z)) (.c (.s16 (.s (.s .z))) .n))))) (fun _ h => h.sel (.c .z (.c .z .n)))
 refine FJ.skipl rfl rfl .z rfl rfl (by decide) rfl ?_
 refine FJ.skipl rfl rfl (.s .z) rfl rfl (by decide) rfl ?_
 refine FJ.skipl rfl rfl (.s (.s .z)) rfl rfl (by decide) rfl ?_
 refine FJ.skipl rfl rfl (.s (.s (.s .z))) rfl rfl (by decide) rfl ?_
 refine FJ.ql rfl (q_pickF rfl (.t (.s4 .z)) .c) (FJ.nil (FJ.then_ ?_))
 refine FJ.condF (.t .z) ?_
 refine FJ.skip (FJ.inBN (FJ.then_ (FJ.region ?_)))
 refine FJ.ql rfl (q_add (c := ((k + 1 : Nat) : Int)) rfl (.t (.s4 (.s4 (.s4 (.s .z))))) .c (wr (by omega) (by omega) (by omega))) ?_
 refine FJ.er (.s4 (.s4 (.s4 (.s (.s .z))))) (FJ.ql rfl (q_move rfl (.t .z)) (FJ.nil ?_))
 have he14 : placesTo (freeP xs b) k = placesTo (freeP xs b) (k + 1) := (placesTo_off (by first | exact decide_eq_true (by first | assumption | omega | (constructor <;> first | assumption | (rw [← count_0]; assumption; done) | (exact fun hm => absurd (sortI_mem.2 hm) (by assumption)))) | exact decide_eq_false (by first | assumption | omega | (rintro ⟨h1, h2⟩; first | contradiction | (exact absurd h2 (by assumption)) | (have := count_0.2 h1; contradiction) | (exact absurd (sortI_mem.1 (by assumption)) h1)))))
 refine FJ.eq (.s4 (.s4 (.s4 (.s (.s (.s .z)))))) (congrArg (fun z_ => (.slice Agk0 (z_).length cgk0 : Value)) he14) ?_
 refine FJ.chEq .z (congrArg (fun z_ => (ownA kSl_2 (z_) [.slice Agk0 (z_).length cgk0] : Asn)) he14) ?_
 refine FJ.again ((k + 1), Agk0, cgk0) (by omega) (by first | omega | (dsimp only; omega)) (.c (.s .z) (.c .z (.c (.s16 .z) (.c (.s16 (.s .z)) (.c (.s16 (.s (.s .z))) .n))))) (fun _ h => h.sel (.c .z (.c .z .n)))
 refine FJ.exit (FJ.thenE (FJ.thenE (FJ.inB (FJ.then_ ?_))))
 refine FJ.seq (FJ.region (FJ.ql rfl (q_move rfl (.t (.s (.s .z)))) (FJ.er (.s4 (.s .z)) (FJ.ql rfl (q_assign rfl (.t .z)) ?_))))
 refine FJ.nil (FJ.then_ (FJ.ret ?_))
 refine FJ.doneS (res1 rfl .z) (.c .z .n) ?_
 rw [show k = 20 by omega]; rfl

set_option maxHeartbeats 1000000 in
set_option maxRecDepth 20000 in
theorem c_111 {w0 : World} {S0 : Bs} {xs : (List DInode)} {v0 : Value} (h0 : kSl_30.ro w0 (FF w0 S0) xs [v0]) {b : (List Int)} {v1 : Value} (h1 : kSl_2.ro w0 (FF w0 S0) b [v1]) (n : Int) (hb : inodesFault xs = 0) :
    Calls Try.prog 111 #[v0, v1, .int .i64 n] w0 (TriPost w0 S0 (fun r l => ∃ v : Value, r = .tuple #[v, .int .i64 (pickOf xs b n).code] ∧ l = [ownA kSl_2 (pickOf xs b n).list [v]])) := by
 obtain ⟨A0, c0, rfl, hl0, hm0, hb0, he0⟩ := ro_form h0
 obtain ⟨A1, c1, rfl, hl1, hm1, hb1, he1⟩ := ro_form h1
 refine FJ.enter (N := 22) Try.func111 rfl rfl (by simp) [(0, .slice A0 xs.length c0), (1, .slice A1 b.length c1), (2, .int .i64 n)] (by simp) (l0 := []) trivial ?_
 refine FJ.seq (FJ.region (FJ.ql rfl (q_assign rfl .c) (FJ.ql rfl (q_assign rfl .c) (FJ.nil ?_))))
 refine FJ.then_ (FJ.seq (FJ.seq (FJ.region (FJ.ql rfl (q_move rfl (.t (.s4 .z))) ?_))))
 refine FJ.call (goes_list rfl) rfl (by decide) rfl (c_call rfl Try.func84 rfl rfl (args3 (.t .z) .c .c)) .n (fun w1 S1 hs tr => c_84 _ _ _) ?_
 rintro _ _ ⟨rfl, rfl⟩
 refine FJ.cat .n ?_
 refine FJ.ql rfl (q_not rfl (.t .z)) (FJ.nil (FJ.then_ ?_))
 refine FJ.condN (.t .z) (fun b3 => ?_) (fun b3 => ?_)
 refine FJ.seq (FJ.region (FJ.er (.s4 .z) (FJ.ql rfl (q_assign rfl .c) (FJ.er (.s4 .z) ?_))))
 refine FJ.ql rfl (q_assign rfl .c) (FJ.nil (FJ.then_ (FJ.ret (FJ.thenR ?_))))
 refine FJ.add (c := ownA kSl_2 [] [.slice none 0 0]) (fun w S => own_nil w S none) ?_
 refine FJ.doneS (res2 rfl (.s .z) .z) (.c .z .n) ?_
 first | (rw [pickOf_3 (by assumption)]; exact ⟨_, rfl, rfl⟩) | (rw [pickOf_8 (by assumption) (by assumption)]; exact ⟨_, rfl, rfl⟩) | (rw [pickOf_0 (by assumption) (by assumption)]; exact ⟨_, rfl, rfl⟩)
 refine FJ.skip (FJ.then_ (FJ.seq (FJ.region (FJ.ql rfl (q_move rfl (.t (.s4 (.s .z)))) ?_))))
 refine FJ.ql rfl (q_move rfl (.t (.s4 (.s (.s (.s .z)))))) ?_
 refine FJ.call (goes_list rfl) rfl (by decide) rfl (c_call rfl Try.func107 rfl rfl (args2 (.t (.s .z)) (.t .z))) .n (fun w1 S1 hs tr => c_107 (tr.ctx h0) (tr.ctx h1) (by first | assumption | (exact ask_ok (by assumption)))) ?_
 rintro _ _ rfl
 refine FJ.cat (.c .n) ?_
 refine FJ.know (WS.oform .z) ?_
 rintro ⟨Ao6, co6, rfl, hlo6, hmo6, hbo6⟩
 refine FJ.ql rfl (q_assign rfl (.t .z)) (FJ.nil (FJ.then_ (FJ.seq (FJ.seq ?_))))
 refine FJ.region (FJ.ql rfl (q_move rfl (.t .z)) ?_)
 refine FJ.call (goes_list rfl) rfl (by decide) rfl (c_call rfl Try.func145 rfl rfl (args1 (.t .z))) .n (fun w1 S1 hs tr => c_145 (tr.own .z)) ?_
 rintro _ _ ⟨rfl, rfl⟩
 refine FJ.cat .n ?_
 refine FJ.ql rfl (q_move rfl (.t (.s4 (.s4 (.s4 (.s .z)))))) (FJ.ql rfl (q_lss rfl (.t (.s .z)) (.t .z)) (FJ.nil (FJ.then_ ?_)))
 refine FJ.condP (.t .z) (fun b7 => ?_) (fun b7 => ?_)
 refine FJ.seq (FJ.region (FJ.er (.s4 (.s4 (.s4 .z))) (FJ.ql rfl (q_assign rfl .c) (FJ.er (.s4 (.s4 (.s4 .z))) ?_))))
 refine FJ.ql rfl (q_assign rfl .c) (FJ.nil (FJ.then_ (FJ.ret (FJ.thenR ?_))))
 refine FJ.add (c := ownA kSl_2 [] [.slice none 0 0]) (fun w S => own_nil w S none) ?_
 refine FJ.doneS (res2 rfl (.s .z) .z) (.c .z .n) ?_
 first | (rw [pickOf_3 (by assumption)]; exact ⟨_, rfl, rfl⟩) | (rw [pickOf_8 (by assumption) (by assumption)]; exact ⟨_, rfl, rfl⟩) | (rw [pickOf_0 (by assumption) (by assumption)]; exact ⟨_, rfl, rfl⟩)
 refine FJ.skip (FJ.then_ (FJ.seq (FJ.region (FJ.ql rfl (q_move rfl (.t (.s4 .z))) ?_))))
 refine FJ.ql rfl (q_move rfl (.t (.s16 .z))) ?_
 refine FJ.know (WS.ocap .z) ?_
 rintro ⟨-, hk9, -, -⟩
 have hm10 : (List.take (Int.toNat n) (freeTo xs b)).length = Int.toNat n := by rw [List.length_take]; omega
 refine FJ.eq .z (congrArg (Value.int .i64) (show n = (((List.take (Int.toNat n) (freeTo xs b)).length : Nat) : Int) by rw [hm10]; try omega)) ?_
 refine FJ.turns (c := ownA kSl_2 (List.take (Int.toNat n) (freeTo xs b)) [.slice Ao6 ((List.take (Int.toNat n) (freeTo xs b)).length) co6]) (.c .z .n) (own_take' (by omega)) ?_
 refine FJ.ql rfl (q_sliceTake (b := (List.take (Int.toNat n) (freeTo xs b)).length) rfl u_22 sz_2 (.t (.s .z)) (.t .z) (by omega)) ?_
 refine FJ.er (.s4 (.s4 (.s4 (.s (.s (.s .z)))))) (FJ.ql rfl (q_assign rfl (.t .z)) (FJ.er (.s4 (.s4 (.s4 (.s (.s (.s .z)))))) (FJ.ql rfl (q_assign rfl .c) (FJ.nil ?_))))
 refine FJ.then_ (FJ.ret ?_)
 refine FJ.doneS (res2 rfl (.s .z) .z) (.c .z .n) ?_
 first | (rw [pickOf_3 (by assumption)]; exact ⟨_, rfl, rfl⟩) | (rw [pickOf_8 (by assumption) (by assumption)]; exact ⟨_, rfl, rfl⟩) | (rw [pickOf_0 (by assumption) (by assumption)]; exact ⟨_, rfl, rfl⟩)

end Go.Proofs.Ytoaebcjjfojfeaa
