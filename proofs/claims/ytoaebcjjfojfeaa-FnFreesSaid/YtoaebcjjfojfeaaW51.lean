/- What is proved: contracts of functions, one a function. No condition. -/
import Derived.Test.YtoaebcjjfojfeaaW50
import Derived.Test.YtoaebcjjfojfeaaBase2
namespace Go.Proofs.Ytoaebcjjfojfeaa
open Go Go.RowKit
set_option linter.unusedVariables false
set_option linter.unusedSimpArgs false
set_option maxHeartbeats 1000000 in
set_option maxRecDepth 20000 in
theorem c_92 {w0 : World} {S0 : Bs} {g0 e0 s0 : Nat} {post0 : List Value} {cd : List UInt8} {Ac : Option Addr} {cc : Nat} (hcd : kSl_5.ro w0 (FF w0 S0) cd [.slice Ac cd.length cc]) {a : Int} (hs : Star [rowA g0 e0 s0 1 ((.slice Ac cd.length cc) :: (.int .i64 a) :: post0)] w0 S0) (ha : 0 ≤ a ∧ a ≤ 990000) :
    Calls Try.prog 92 #[.pointer (some ⟨g0, 0, none⟩)] w0 (TriPost w0 S0 (fun r l => ∃ (x : DInode) (v0_ v1_ : Value) (u : Int), (x.blocks.length ≤ 10 ∧ x.ents.length ≤ 5 ∧ (∀ e, e ∈ x.ents → e.name.size ≤ 4) ∧ (∀ b, b ∈ x.blocks → 0 ≤ b ∧ b ≤ 19) ∧ a ≤ u ∧ u ≤ a + 40) ∧ r = .agg #[.int .i64 x.kind, .int .i64 x.links, .int .i64 x.size, v0_, v1_] ∧ l = [ownA kSl_2 x.blocks [v0_], ownA kSl_130 x.ents [v1_], rowA g0 e0 s0 1 (.slice Ac cd.length cc :: .int .i64 u :: post0)])) := by
 obtain ⟨hlc, hmc, hbc⟩ := src_hl hcd
 refine FJ.enter (N := 64) Try.func92 rfl rfl (by simp) [(0, .pointer (some ⟨g0, 0, none⟩))] (by simp) hs ?_
 refine FJ.seq (FJ.region ?_)
 refine FJ.e (goes_list rfl) rfl (by decide) rfl (e_alloc rfl z_30 rfl rfl) ?_
 rintro _ _ ⟨g2, rfl, rfl⟩
 refine FJ.nil (FJ.then_ (FJ.seq (FJ.seq (FJ.region ?_))))
 refine FJ.ql rfl (q_move rfl (.t (.s .z))) ?_
 refine FJ.call (goes_list rfl) rfl (by decide) rfl (c_call rfl Try.func93 rfl rfl (args2 (.t .z) .c)) (.c (.s .z) .n) (fun w1 S1 hs tr => c_93 (tr.ctx hcd) _ hs (by omega) (by omega)) ?_
 rintro _ _ ⟨m3, h0m3, h1m3, rfl, rfl⟩
 refine FJ.cat (.c .n) ?_
 refine FJ.nil (FJ.then_ (FJ.block (FJ.seq (FJ.region ?_))))
 refine FJ.ql rfl (q_eql rfl (.t .z) .c) (FJ.ql rfl (q_assign rfl (.t .z)) (FJ.nil (FJ.then_ ?_)))
 refine FJ.condP (.t .z) (fun b4 => ?_) (fun b4 => ?_)
 refine FJ.seq (FJ.region ?_)
 refine FJ.ql rfl (q_build (ps := []) (cs := [.int .i64 0, .int .i64 0, .int .i64 0, .slice none 0 0, .slice none 0 0]) rfl bl_30 (by intro act hact; simp only [List.map_toArray, List.map_cons, List.map_nil]) rfl) ?_
 refine FJ.es (goes_list rfl) rfl (es_store (off := 0) (cs := [.int .i64 0, .int .i64 0, .int .i64 0, .slice none 0 0, .slice none 0 0]) rfl sz_30 (.t (.s4 (.s .z))) (.t .z) rfl (ones rfl) (.s .z) (Nat.le_of_ble_eq_true rfl) (.c .z (.c (.s .z) (.c (.s (.s .z)) (.c (.s (.s (.s .z))) (.c (.s (.s (.s (.s .z)))) .n)))))) ?_
 refine FJ.nil (FJ.then_ (FJ.ret (FJ.inBR (FJ.thenR ?_))))
 refine FJ.add (c := ownA kSl_2 [] [.slice none 0 0]) (fun w S => own_nil w S none) ?_
 refine FJ.add (c := ownA kSl_130 [] [.slice none 0 0]) (fun w S => own_nil w S none) ?_
 refine FJ.doneS (resC (cs := [.int .i64 0, .int .i64 0, .int .i64 0, .slice none 0 0, .slice none 0 0]) rfl (.s4 (.s .z)) ag_30 sz_30 (WS.rows0 (cs := [.int .i64 0, .int .i64 0, .int .i64 0, .slice none 0 0, .slice none 0 0]) (.s (.s .z)) (fun _ _ h => h))) (.c (.s .z) (.c .z (.c (.s .z) .n))) ?_
 exact ⟨⟨0, 0, 0, [], []⟩, _, _, _, ⟨by first | omega | (dsimp only; omega) | (simp only [List.length_append, List.length_cons, List.length_nil, List.length_replicate]; omega), by first | omega | (dsimp only; omega) | (simp only [List.length_append, List.length_cons, List.length_nil, List.length_replicate]; omega), by first | exact hEn | (intro e he; simp at he; done), by first | exact hBn | (intro b hb; simp at hb; done), by omega, by omega⟩, rfl, rfl⟩
 refine FJ.seq (FJ.seq (FJ.region (FJ.ql rfl (q_eql rfl (.t (.s (.s .z))) .c) (FJ.ql rfl (q_assign rfl (.t .z)) ?_))))
 refine FJ.nil (FJ.then_ ?_)
 refine FJ.condP (.t .z) (fun b7 => ?_) (fun b7 => ?_)
 refine FJ.skip (FJ.then_ ?_)
 refine FJ.condP (.t .z) (fun b8 => ?_) (fun b8 => ?_)
 refine FJ.seq (FJ.region ?_)
 refine FJ.ql rfl (q_build (ps := [(0, .int .i64 2)]) (cs := [.int .i64 2, .int .i64 0, .int .i64 0, .slice none 0 0, .slice none 0 0]) rfl bl_30 (by intro act hact; simp only [List.map_toArray, List.map_cons, List.map_nil, (show Val _ _ _ from .c) act hact]) rfl) ?_
 refine FJ.e (goes_list rfl) rfl (by decide) rfl (e_alloc rfl z_30 rfl rfl) ?_
 rintro _ _ ⟨g9, rfl, rfl⟩
 refine FJ.es (goes_list rfl) rfl (es_store (off := 0) (cs := [.int .i64 2, .int .i64 0, .int .i64 0, .slice none 0 0, .slice none 0 0]) rfl sz_30 (.t .z) (.t (.s .z)) rfl (ones rfl) .z (Nat.le_of_ble_eq_true rfl) (.c .z (.c (.s .z) (.c (.s (.s .z)) (.c (.s (.s (.s .z))) (.c (.s (.s (.s (.s .z)))) .n)))))) ?_
 refine FJ.nil (FJ.then_ (FJ.seq (FJ.region ?_)))
 refine FJ.e (goes_list rfl) rfl (by decide) rfl (e_buildSliceL (ps := [(0, .string (⟨#[97]⟩)), (1, .string (⟨#[97, 98]⟩)), (2, .string (⟨#[98]⟩)), (3, .string (⟨#[99]⟩)), (4, .string (⟨#[104, 97, 108, 108]⟩))]) (cs := [.string (⟨#[97]⟩), .string (⟨#[97, 98]⟩), .string (⟨#[98]⟩), .string (⟨#[99]⟩), .string (⟨#[104, 97, 108, 108]⟩)]) rfl u_141 (inz inf_9) (by decide) (by intro act hact; simp only [List.map_toArray, List.map_cons, List.map_nil, (show Val _ _ _ from .c) act hact, (show Val _ _ _ from .c) act hact, (show Val _ _ _ from .c) act hact, (show Val _ _ _ from .c) act hact, (show Val _ _ _ from .c) act hact]) rfl rfl (by decide) rfl rfl) ?_
 rintro _ _ ⟨g10, rfl, rfl⟩
 refine FJ.ql rfl (q_assign rfl (.t .z)) (FJ.nil (FJ.then_ (FJ.seq (FJ.seq ?_))))
 refine FJ.region (FJ.ql rfl (q_assign rfl .c) (FJ.nil (FJ.then_ (FJ.block ?_))))
 refine FJ.turns (c := ownA kSl_9 ([⟨#[97]⟩, ⟨#[97, 98]⟩, ⟨#[98]⟩, ⟨#[99]⟩, ⟨#[104, 97, 108, 108]⟩] : (List ByteArray)) [.slice (some ⟨g10, 0, none⟩) 5 5]) (.c .z .n) (fun w S h => lit_own (xs := ([⟨#[97]⟩, ⟨#[97, 98]⟩, ⟨#[98]⟩, ⟨#[99]⟩, ⟨#[104, 97, 108, 108]⟩] : (List ByteArray))) h rfl (by decide) (by omega) (by omega)) ?_
 refine FJ.add (c := ownA kSl_130 [] [.slice none 0 0]) (fun w S => own_nil w S none) ?_
 refine FJ.loopi (γ := Nat × (Option Addr) × Nat × Int × (List DEnt)) (fun ⟨j, Agj0, cgj0, z, E⟩ => [(5, .int .i64 (j : Int)), (4, .slice (some ⟨g10, 0, none⟩) 5 5), (3, .pointer (some ⟨g9, 0, none⟩)), (2, .pointer (some ⟨g2, 0, none⟩)), (0, .pointer (some ⟨g0, 0, none⟩))]) (fun ⟨j, Agj0, cgj0, z, E⟩ => [ownA kSl_130 E [.slice Agj0 E.length cgj0], ownA kSl_9 ([⟨#[97]⟩, ⟨#[97, 98]⟩, ⟨#[98]⟩, ⟨#[99]⟩, ⟨#[104, 97, 108, 108]⟩] : (List ByteArray)) [.slice (some ⟨g10, 0, none⟩) 5 5], rowA g9 30 5 1 [.int .i64 2, .int .i64 0, .int .i64 0, .slice none 0 0, .slice Agj0 E.length cgj0], rowA g0 e0 s0 1 ((.slice Ac cd.length cc) :: (.int .i64 z) :: post0), rowA g2 30 5 1 [.int .i64 0, .int .i64 0, .int .i64 0, .slice none 0 0, .slice none 0 0]]) (fun ⟨j, Agj0, cgj0, z, E⟩ => j ≤ 5 ∧ (a ≤ z ∧ z ≤ a + 1 + 2 * j) ∧ E.length ≤ j ∧ ∀ e, e ∈ E → e.name.size ≤ 4) (fun ⟨j, Agj0, cgj0, z, E⟩ => 5 - j) (0, none, 0, (a + 1), []) ⟨Nat.zero_le _, by omega, Nat.le_refl _, fun e he => absurd he (by simp)⟩ (.c .z (.c (.s .z) (.c (.s (.s (.s .z))) (.c (.s4 (.s4 (.s (.s (.s .z))))) (.c (.s4 (.s4 (.s4 .z))) .n))))) (fun _ h => h.sel (.c .z (.c .z (.c .z (.c .z (.c .z .n)))))) ?_
 rintro ⟨j, Agj0, cgj0, z, E⟩ ⟨hj, hz, hE, hEn⟩
 refine FJ.seq (FJ.seq (FJ.region (FJ.ql rfl (q_move rfl (.t .z)) (FJ.ql rfl (q_move rfl (.t (.s (.s .z)))) ?_))))
 refine FJ.ql rfl (q_len rfl u_141 (.t .z)) (FJ.ql rfl (q_lss rfl (.t (.s (.s .z))) (.t .z)) (FJ.nil (FJ.then_ ?_)))
 refine FJ.condP (.t .z) (fun b13 => ?_) (fun b13 => ?_)
 refine FJ.skip (FJ.then_ (FJ.seq (FJ.block (FJ.seq ?_))))
 refine FJ.region (FJ.ql rfl (q_move rfl (.t (.s4 (.s4 .z)))) ?_)
 refine FJ.call (goes_list rfl) rfl (by decide) rfl (c_call rfl Try.func110 rfl rfl (args2 (.t .z) .c)) (.c (.s (.s (.s .z))) .n) (fun w1 S1 hs tr => c_110 (tr.ctx hcd) _ hs (by omega) (by omega)) ?_
 rintro _ _ ⟨b14, rfl, rfl⟩
 refine FJ.cat (.c .n) ?_
 refine FJ.nil (FJ.then_ ?_)
 refine FJ.cond (.t .z) (fun b15 => ?_) (fun b15 => ?_)
 refine FJ.draw [ownA kSl_9 ([⟨#[97]⟩, ⟨#[97, 98]⟩, ⟨#[98]⟩, ⟨#[99]⟩, ⟨#[104, 97, 108, 108]⟩] : (List ByteArray)) [.slice (some ⟨g10, 0, none⟩) 5 5], rowA g9 30 5 1 [.int .i64 2, .int .i64 0, .int .i64 0, .slice none 0 0, .slice Agj0 E.length cgj0], rowA g2 30 5 1 [.int .i64 0, .int .i64 0, .int .i64 0, .slice none 0 0, .slice none 0 0]] 12 (by kernel_rfl) ?_
 refine FJ.sch [(0, true), (1, true), (2, true), (3, true), (4, true), (5, true), (6, true), (7, false), (8, true), (9, false), (10, false), (11, true), (12, false)] 0 #[true, true, true, true, true, true, true, true, true, true, true, true, true] (by rfl) (by kernel_rfl) ?_
 refine FJ.dq rfl rfl rfl (by decide) rfl (.s (.s .z)) (q_fieldAddr rfl (.t (.s4 (.s4 .z))) (fun _ => fa_30_4 _ _)) (FJ.dq rfl rfl rfl (by decide) rfl (.s (.s .z)) (q_load rfl ag_28 (.t .z) (WS.row (.s .z) rfl)) (FJ.dq rfl rfl rfl (by decide) rfl (.s (.s .z)) (q_move rfl (.t (.s4 (.s4 (.s .z))))) (FJ.dq rfl rfl rfl (by decide) rfl (.s (.s .z)) (q_move rfl (.t (.s4 (.s4 (.s .z))))) ?_)))
 refine FJ.dq rfl rfl rfl (by decide) rfl (.s (.s .z)) (q_indexAddr (j := j) rfl u_141 sz_9 (.t (.s .z)) (.t .z) rfl (by first | omega | (simp only [List.length_cons, List.length_nil]; omega))) ?_
 obtain ⟨x16, hx16⟩ := get_ex (xs := ([⟨#[97]⟩, ⟨#[97, 98]⟩, ⟨#[98]⟩, ⟨#[99]⟩, ⟨#[104, 97, 108, 108]⟩] : (List ByteArray))) (j := j) (by first | omega | (simp only [List.length_cons, List.length_nil]; omega))
 refine FJ.dq rfl rfl rfl (by decide) rfl (.s (.s .z)) (q_load rfl ag_9 (.t .z) (WS.oel .z hx16)) (FJ.dq rfl rfl rfl (by decide) rfl (.s (.s .z)) (q_move rfl (.t (.s16 .z))) ?_)
 refine FJ.call (goes_sch rfl rfl) rfl (by decide) rfl (c_call rfl Try.func93 rfl rfl (args2 (.t .z) .c)) (.c .z .n) (fun w1 S1 hs tr => c_93 (tr.ctx hcd) _ hs (by omega) (by omega)) ?_
 rintro _ _ ⟨m17, h0m17, h1m17, rfl, rfl⟩
 refine FJ.cat (.c .n) ?_
 refine FJ.sk (.s (.s .z)) ?_
 refine FJ.dq rfl rfl rfl (by decide) rfl (.s (.s .z)) (q_build (ps := [(0, .string x16), (1, .int .i64 m17)]) (cs := [.string x16, .int .i64 m17]) rfl bl_130 (by intro act hact; simp only [List.map_toArray, List.map_cons, List.map_nil, (show Val _ _ _ from (.t (.s (.s .z)))) act hact, (show Val _ _ _ from (.t .z)) act hact]) rfl) ?_
 refine FJ.e (goes_sch rfl rfl) rfl (by decide) rfl (e_buildSliceL (ps := [(0, .agg #[.string x16, .int .i64 m17])]) (cs := [.string x16, .int .i64 m17]) rfl u_28 (inz inf_130) (by decide) (by intro act hact; simp only [List.map_toArray, List.map_cons, List.map_nil, (show Val _ _ _ from (.t .z)) act hact]) rfl rfl (by decide) rfl rfl) ?_
 rintro _ _ ⟨g18, rfl, rfl⟩
 refine FJ.sk (.s (.s (.s .z))) ?_
 refine FJ.turns (c := ownA kT_130 (⟨x16, m17⟩ : DEnt) [.string x16, .int .i64 m17]) .n (fun w S h => kT_130_omk (⟨x16, m17⟩ : DEnt) h (by first | assumption | omega | (dsimp only; exact names_sz5 _ (List.mem_of_getElem? (by assumption))) | decide)) ?_
 refine FJ.e (goes_sch rfl rfl) rfl (by decide) rfl (e_append1 rfl u_28 inf_130 rfl (.t (.s4 (.s4 .z))) (.t .z) (.c (.s (.s (.s .z))) (.c (.s .z) (.c .z .n))) (by first | omega | (simp only [List.length_append, List.length_cons, List.length_nil, List.length_replicate]; omega)) (by first | omega | (simp only [List.length_append, List.length_cons, List.length_nil, List.length_replicate]; omega))) ?_
 rintro _ _ rfl
 refine FJ.know (WS.oform .z) ?_
 rintro ⟨Ao20, co20, rfl, hlo20, hmo20, hbo20⟩
 refine FJ.sk (.s (.s .z)) ?_
 refine FJ.dq rfl rfl rfl (by decide) rfl (.s (.s .z)) (q_fieldAddr rfl (.t (.s16 (.s (.s (.s .z))))) (fun _ => fa_30_4 _ _)) ?_
 refine FJ.es (goes_sch rfl rfl) rfl (es_store (off := 4) (cs := [.slice Ao20 (E ++ [(⟨x16, m17⟩ : DEnt)]).length co20]) rfl sz_28 (.t .z) (.t (.s .z)) rfl (ones rfl) (.s (.s (.s .z))) (Nat.le_of_ble_eq_true rfl) (.c (.s (.s (.s (.s .z)))) .n)) ?_
 refine FJ.sl rfl ?_
 refine FJ.schN ?_
 refine FJ.drawN (by kernel_rfl) ?_
 refine FJ.inBN (FJ.then_ (FJ.region (FJ.ql rfl (q_move rfl (.t (.s16 (.s (.s .z))))) ?_)))
 refine FJ.ql rfl (q_add (c := ((j + 1 : Nat) : Int)) rfl (.t .z) .c (wr (by omega) (by omega) (by omega))) ?_
 refine FJ.er (.s16 (.s4 .z)) (FJ.ql rfl (q_assign rfl (.t .z)) (FJ.nil ?_))
 refine FJ.again ((j + 1), Ao20, co20, ((z + 1) + 1), E ++ [(⟨x16, m17⟩ : DEnt)]) ⟨by omega, ⟨by omega, (by first | omega | (simp only [List.length_append, List.length_cons, List.length_nil]; omega)), (by first | exact hEn | exact fun e he => (List.mem_append.1 he).elim (hEn e) (fun he => by obtain rfl := List.mem_singleton.1 he; exact names_le4 _ (List.mem_of_getElem? (by assumption))))⟩⟩ (by first | omega | (dsimp only; omega)) (.c .z (.c (.s16 (.s4 (.s .z))) (.c (.s16 (.s4 (.s (.s .z)))) (.c (.s16 (.s4 (.s (.s (.s .z))))) (.c (.s16 (.s4 (.s4 .z))) .n))))) (fun _ h => h.sel (.c (.s .z) (.c (.s (.s .z)) (.c .z (.c .z (.c .z .n))))))
 refine FJ.skip (FJ.inBN (FJ.then_ (FJ.region (FJ.ql rfl (q_move rfl (.t (.s4 (.s (.s .z))))) ?_))))
 refine FJ.ql rfl (q_add (c := ((j + 1 : Nat) : Int)) rfl (.t .z) .c (wr (by omega) (by omega) (by omega))) ?_
 refine FJ.er (.s4 (.s4 .z)) (FJ.ql rfl (q_assign rfl (.t .z)) (FJ.nil ?_))
 refine FJ.again ((j + 1), Agj0, cgj0, (z + 1), E) ⟨by omega, ⟨by omega, (by first | omega | (simp only [List.length_append, List.length_cons, List.length_nil]; omega)), (by first | exact hEn | exact fun e he => (List.mem_append.1 he).elim (hEn e) (fun he => by obtain rfl := List.mem_singleton.1 he; exact names_le4 _ (List.mem_of_getElem? (by assumption))))⟩⟩ (by first | omega | (dsimp only; omega)) (.c .z (.c (.s4 (.s4 (.s .z))) (.c (.s4 (.s4 (.s (.s .z)))) (.c (.s4 (.s4 (.s (.s (.s .z))))) (.c (.s4 (.s4 (.s4 .z))) .n))))) (fun _ h => h.sel (.c (.s .z) (.c (.s .z) (.c (.s .z) (.c .z (.c .z .n))))))
 refine FJ.exit (FJ.thenE (FJ.thenE (FJ.inB (FJ.then_ ?_))))
 refine FJ.seq (FJ.region ?_)
 refine FJ.ql rfl (q_loadA (cs := [.int .i64 2, .int .i64 0, .int .i64 0, .slice none 0 0, .slice Agj0 E.length cgj0]) rfl ag_30 sz_30 (.t (.s4 (.s (.s .z)))) (WS.rows0 (.s (.s .z)) (fun i u h => by exact h))) ?_
 refine FJ.es (goes_list rfl) rfl (es_store (off := 0) (cs := [.int .i64 2, .int .i64 0, .int .i64 0, .slice none 0 0, .slice Agj0 E.length cgj0]) rfl sz_30 (.t (.s4 (.s4 .z))) (.t .z) rfl (ones rfl) (.s4 .z) (Nat.le_of_ble_eq_true rfl) (.c .z (.c (.s .z) (.c (.s (.s .z)) (.c (.s (.s (.s .z))) (.c (.s (.s (.s (.s .z)))) .n)))))) ?_
 refine FJ.nil (FJ.then_ (FJ.ret (FJ.inBR (FJ.thenR ?_))))
 refine FJ.add (c := ownA kSl_2 [] [.slice none 0 0]) (fun w S => own_nil w S none) ?_
 refine FJ.doneS (resC (cs := [.int .i64 2, .int .i64 0, .int .i64 0, .slice none 0 0, .slice Agj0 E.length cgj0]) rfl (.s4 (.s4 .z)) ag_30 sz_30 (WS.rows0 (cs := [.int .i64 2, .int .i64 0, .int .i64 0, .slice none 0 0, .slice Agj0 E.length cgj0]) (.s .z) (fun _ _ h => h))) (.c .z (.c (.s .z) (.c (.s (.s (.s .z))) .n))) ?_
 exact ⟨⟨2, 0, 0, [], E⟩, _, _, _, ⟨by first | omega | (dsimp only; omega) | (simp only [List.length_append, List.length_cons, List.length_nil, List.length_replicate]; omega), by first | omega | (dsimp only; omega) | (simp only [List.length_append, List.length_cons, List.length_nil, List.length_replicate]; omega), by first | exact hEn | (intro e he; simp at he; done), by first | exact hBn | (intro b hb; simp at hb; done), by omega, by omega⟩, rfl, rfl⟩
 exfalso; first | omega | contradiction
 refine FJ.region (FJ.ql rfl (q_eql rfl (.t (.s4 .z)) .c) (FJ.er (.s .z) (FJ.ql rfl (q_assign rfl (.t .z)) (FJ.nil ?_))))
 refine FJ.then_ ?_
 refine FJ.condP (.t .z) (fun b22 => ?_) (fun b22 => ?_)
 refine FJ.seq (FJ.region ?_)
 refine FJ.ql rfl (q_build (ps := [(0, .int .i64 2)]) (cs := [.int .i64 2, .int .i64 0, .int .i64 0, .slice none 0 0, .slice none 0 0]) rfl bl_30 (by intro act hact; simp only [List.map_toArray, List.map_cons, List.map_nil, (show Val _ _ _ from .c) act hact]) rfl) ?_
 refine FJ.e (goes_list rfl) rfl (by decide) rfl (e_alloc rfl z_30 rfl rfl) ?_
 rintro _ _ ⟨g23, rfl, rfl⟩
 refine FJ.es (goes_list rfl) rfl (es_store (off := 0) (cs := [.int .i64 2, .int .i64 0, .int .i64 0, .slice none 0 0, .slice none 0 0]) rfl sz_30 (.t .z) (.t (.s .z)) rfl (ones rfl) .z (Nat.le_of_ble_eq_true rfl) (.c .z (.c (.s .z) (.c (.s (.s .z)) (.c (.s (.s (.s .z))) (.c (.s (.s (.s (.s .z)))) .n)))))) ?_
 refine FJ.nil (FJ.then_ (FJ.seq (FJ.region ?_)))
 refine FJ.e (goes_list rfl) rfl (by decide) rfl (e_buildSliceL (ps := [(0, .string (⟨#[97]⟩)), (1, .string (⟨#[97, 98]⟩)), (2, .string (⟨#[98]⟩)), (3, .string (⟨#[99]⟩)), (4, .string (⟨#[104, 97, 108, 108]⟩))]) (cs := [.string (⟨#[97]⟩), .string (⟨#[97, 98]⟩), .string (⟨#[98]⟩), .string (⟨#[99]⟩), .string (⟨#[104, 97, 108, 108]⟩)]) rfl u_141 (inz inf_9) (by decide) (by intro act hact; simp only [List.map_toArray, List.map_cons, List.map_nil, (show Val _ _ _ from .c) act hact, (show Val _ _ _ from .c) act hact, (show Val _ _ _ from .c) act hact, (show Val _ _ _ from .c) act hact, (show Val _ _ _ from .c) act hact]) rfl rfl (by decide) rfl rfl) ?_
 rintro _ _ ⟨g24, rfl, rfl⟩
 refine FJ.ql rfl (q_assign rfl (.t .z)) (FJ.nil (FJ.then_ (FJ.seq (FJ.seq ?_))))
 refine FJ.region (FJ.ql rfl (q_assign rfl .c) (FJ.nil (FJ.then_ (FJ.block ?_))))
 refine FJ.turns (c := ownA kSl_9 ([⟨#[97]⟩, ⟨#[97, 98]⟩, ⟨#[98]⟩, ⟨#[99]⟩, ⟨#[104, 97, 108, 108]⟩] : (List ByteArray)) [.slice (some ⟨g24, 0, none⟩) 5 5]) (.c .z .n) (fun w S h => lit_own (xs := ([⟨#[97]⟩, ⟨#[97, 98]⟩, ⟨#[98]⟩, ⟨#[99]⟩, ⟨#[104, 97, 108, 108]⟩] : (List ByteArray))) h rfl (by decide) (by omega) (by omega)) ?_
 refine FJ.add (c := ownA kSl_130 [] [.slice none 0 0]) (fun w S => own_nil w S none) ?_
 refine FJ.loopi (γ := Nat × (Option Addr) × Nat × Int × (List DEnt)) (fun ⟨j, Agj0, cgj0, z, E⟩ => [(5, .int .i64 (j : Int)), (4, .slice (some ⟨g24, 0, none⟩) 5 5), (3, .pointer (some ⟨g23, 0, none⟩)), (2, .pointer (some ⟨g2, 0, none⟩)), (0, .pointer (some ⟨g0, 0, none⟩))]) (fun ⟨j, Agj0, cgj0, z, E⟩ => [ownA kSl_130 E [.slice Agj0 E.length cgj0], ownA kSl_9 ([⟨#[97]⟩, ⟨#[97, 98]⟩, ⟨#[98]⟩, ⟨#[99]⟩, ⟨#[104, 97, 108, 108]⟩] : (List ByteArray)) [.slice (some ⟨g24, 0, none⟩) 5 5], rowA g23 30 5 1 [.int .i64 2, .int .i64 0, .int .i64 0, .slice none 0 0, .slice Agj0 E.length cgj0], rowA g0 e0 s0 1 ((.slice Ac cd.length cc) :: (.int .i64 z) :: post0), rowA g2 30 5 1 [.int .i64 0, .int .i64 0, .int .i64 0, .slice none 0 0, .slice none 0 0]]) (fun ⟨j, Agj0, cgj0, z, E⟩ => j ≤ 5 ∧ (a ≤ z ∧ z ≤ a + 1 + 2 * j) ∧ E.length ≤ j ∧ ∀ e, e ∈ E → e.name.size ≤ 4) (fun ⟨j, Agj0, cgj0, z, E⟩ => 5 - j) (0, none, 0, (a + 1), []) ⟨Nat.zero_le _, by omega, Nat.le_refl _, fun e he => absurd he (by simp)⟩ (.c .z (.c (.s .z) (.c (.s (.s (.s .z))) (.c (.s4 (.s4 (.s4 .z))) (.c (.s4 (.s4 (.s4 (.s .z)))) .n))))) (fun _ h => h.sel (.c .z (.c .z (.c .z (.c .z (.c .z .n)))))) ?_
 rintro ⟨j, Agj0, cgj0, z, E⟩ ⟨hj, hz, hE, hEn⟩
 refine FJ.seq (FJ.seq (FJ.region (FJ.ql rfl (q_move rfl (.t .z)) (FJ.ql rfl (q_move rfl (.t (.s (.s .z)))) ?_))))
 refine FJ.ql rfl (q_len rfl u_141 (.t .z)) (FJ.ql rfl (q_lss rfl (.t (.s (.s .z))) (.t .z)) (FJ.nil (FJ.then_ ?_)))
 refine FJ.condP (.t .z) (fun b27 => ?_) (fun b27 => ?_)
 refine FJ.skip (FJ.then_ (FJ.seq (FJ.block (FJ.seq ?_))))
 refine FJ.region (FJ.ql rfl (q_move rfl (.t (.s4 (.s4 .z)))) ?_)
 refine FJ.call (goes_list rfl) rfl (by decide) rfl (c_call rfl Try.func110 rfl rfl (args2 (.t .z) .c)) (.c (.s (.s (.s .z))) .n) (fun w1 S1 hs tr => c_110 (tr.ctx hcd) _ hs (by omega) (by omega)) ?_
 rintro _ _ ⟨b28, rfl, rfl⟩
 refine FJ.cat (.c .n) ?_
 refine FJ.nil (FJ.then_ ?_)
 refine FJ.cond (.t .z) (fun b29 => ?_) (fun b29 => ?_)
 refine FJ.draw [ownA kSl_9 ([⟨#[97]⟩, ⟨#[97, 98]⟩, ⟨#[98]⟩, ⟨#[99]⟩, ⟨#[104, 97, 108, 108]⟩] : (List ByteArray)) [.slice (some ⟨g24, 0, none⟩) 5 5], rowA g23 30 5 1 [.int .i64 2, .int .i64 0, .int .i64 0, .slice none 0 0, .slice Agj0 E.length cgj0], rowA g2 30 5 1 [.int .i64 0, .int .i64 0, .int .i64 0, .slice none 0 0, .slice none 0 0]] 12 (by kernel_rfl) ?_
 refine FJ.sch [(0, true), (1, true), (2, true), (3, true), (4, true), (5, true), (6, true), (7, false), (8, true), (9, false), (10, false), (11, true), (12, false)] 0 #[true, true, true, true, true, true, true, true, true, true, true, true, true] (by rfl) (by kernel_rfl) ?_
 refine FJ.dq rfl rfl rfl (by decide) rfl (.s (.s .z)) (q_fieldAddr rfl (.t (.s4 (.s4 .z))) (fun _ => fa_30_4 _ _)) (FJ.dq rfl rfl rfl (by decide) rfl (.s (.s .z)) (q_load rfl ag_28 (.t .z) (WS.row (.s .z) rfl)) (FJ.dq rfl rfl rfl (by decide) rfl (.s (.s .z)) (q_move rfl (.t (.s4 (.s4 (.s .z))))) (FJ.dq rfl rfl rfl (by decide) rfl (.s (.s .z)) (q_move rfl (.t (.s4 (.s4 (.s .z))))) ?_)))
 refine FJ.dq rfl rfl rfl (by decide) rfl (.s (.s .z)) (q_indexAddr (j := j) rfl u_141 sz_9 (.t (.s .z)) (.t .z) rfl (by first | omega | (simp only [List.length_cons, List.length_nil]; omega))) ?_
 obtain ⟨x30, hx30⟩ := get_ex (xs := ([⟨#[97]⟩, ⟨#[97, 98]⟩, ⟨#[98]⟩, ⟨#[99]⟩, ⟨#[104, 97, 108, 108]⟩] : (List ByteArray))) (j := j) (by first | omega | (simp only [List.length_cons, List.length_nil]; omega))
 refine FJ.dq rfl rfl rfl (by decide) rfl (.s (.s .z)) (q_load rfl ag_9 (.t .z) (WS.oel .z hx30)) (FJ.dq rfl rfl rfl (by decide) rfl (.s (.s .z)) (q_move rfl (.t (.s16 .z))) ?_)
 refine FJ.call (goes_sch rfl rfl) rfl (by decide) rfl (c_call rfl Try.func93 rfl rfl (args2 (.t .z) .c)) (.c .z .n) (fun w1 S1 hs tr => c_93 (tr.ctx hcd) _ hs (by omega) (by omega)) ?_
 rintro _ _ ⟨m31, h0m31, h1m31, rfl, rfl⟩
 refine FJ.cat (.c .n) ?_
 refine FJ.sk (.s (.s .z)) ?_
 refine FJ.dq rfl rfl rfl (by decide) rfl (.s (.s .z)) (q_build (ps := [(0, .string x30), (1, .int .i64 m31)]) (cs := [.string x30, .int .i64 m31]) rfl bl_130 (by intro act hact; simp only [List.map_toArray, List.map_cons, List.map_nil, (show Val _ _ _ from (.t (.s (.s .z)))) act hact, (show Val _ _ _ from (.t .z)) act hact]) rfl) ?_
 refine FJ.e (goes_sch rfl rfl) rfl (by decide) rfl (e_buildSliceL (ps := [(0, .agg #[.string x30, .int .i64 m31])]) (cs := [.string x30, .int .i64 m31]) rfl u_28 (inz inf_130) (by decide) (by intro act hact; simp only [List.map_toArray, List.map_cons, List.map_nil, (show Val _ _ _ from (.t .z)) act hact]) rfl rfl (by decide) rfl rfl) ?_
 rintro _ _ ⟨g32, rfl, rfl⟩
 refine FJ.sk (.s (.s (.s .z))) ?_
 refine FJ.turns (c := ownA kT_130 (⟨x30, m31⟩ : DEnt) [.string x30, .int .i64 m31]) .n (fun w S h => kT_130_omk (⟨x30, m31⟩ : DEnt) h (by first | assumption | omega | (dsimp only; exact names_sz5 _ (List.mem_of_getElem? (by assumption))) | decide)) ?_
 refine FJ.e (goes_sch rfl rfl) rfl (by decide) rfl (e_append1 rfl u_28 inf_130 rfl (.t (.s4 (.s4 .z))) (.t .z) (.c (.s (.s (.s .z))) (.c (.s .z) (.c .z .n))) (by first | omega | (simp only [List.length_append, List.length_cons, List.length_nil, List.length_replicate]; omega)) (by first | omega | (simp only [List.length_append, List.length_cons, List.length_nil, List.length_replicate]; omega))) ?_
 rintro _ _ rfl
 refine FJ.know (WS.oform .z) ?_
 rintro ⟨Ao34, co34, rfl, hlo34, hmo34, hbo34⟩
 refine FJ.sk (.s (.s .z)) ?_
 refine FJ.dq rfl rfl rfl (by decide) rfl (.s (.s .z)) (q_fieldAddr rfl (.t (.s16 (.s (.s (.s .z))))) (fun _ => fa_30_4 _ _)) ?_
 refine FJ.es (goes_sch rfl rfl) rfl (es_store (off := 4) (cs := [.slice Ao34 (E ++ [(⟨x30, m31⟩ : DEnt)]).length co34]) rfl sz_28 (.t .z) (.t (.s .z)) rfl (ones rfl) (.s (.s (.s .z))) (Nat.le_of_ble_eq_true rfl) (.c (.s (.s (.s (.s .z)))) .n)) ?_
 refine FJ.sl rfl ?_
 refine FJ.schN ?_
 refine FJ.drawN (by kernel_rfl) ?_
 refine FJ.inBN (FJ.then_ (FJ.region (FJ.ql rfl (q_move rfl (.t (.s16 (.s (.s .z))))) ?_)))
 refine FJ.ql rfl (q_add (c := ((j + 1 : Nat) : Int)) rfl (.t .z) .c (wr (by omega) (by omega) (by omega))) ?_
 refine FJ.er (.s16 (.s4 .z)) (FJ.ql rfl (q_assign rfl (.t .z)) (FJ.nil ?_))
 refine FJ.again ((j + 1), Ao34, co34, ((z + 1) + 1), E ++ [(⟨x30, m31⟩ : DEnt)]) ⟨by omega, ⟨by omega, (by first | omega | (simp only [List.length_append, List.length_cons, List.length_nil]; omega)), (by first | exact hEn | exact fun e he => (List.mem_append.1 he).elim (hEn e) (fun he => by obtain rfl := List.mem_singleton.1 he; exact names_le4 _ (List.mem_of_getElem? (by assumption))))⟩⟩ (by first | omega | (dsimp only; omega)) (.c .z (.c (.s16 (.s4 (.s .z))) (.c (.s16 (.s4 (.s (.s .z)))) (.c (.s16 (.s4 (.s (.s (.s .z))))) (.c (.s16 (.s4 (.s4 .z))) .n))))) (fun _ h => h.sel (.c (.s .z) (.c (.s (.s .z)) (.c .z (.c .z (.c .z .n))))))
 refine FJ.skip (FJ.inBN (FJ.then_ (FJ.region (FJ.ql rfl (q_move rfl (.t (.s4 (.s (.s .z))))) ?_))))
 refine FJ.ql rfl (q_add (c := ((j + 1 : Nat) : Int)) rfl (.t .z) .c (wr (by omega) (by omega) (by omega))) ?_
 refine FJ.er (.s4 (.s4 .z)) (FJ.ql rfl (q_assign rfl (.t .z)) (FJ.nil ?_))
 refine FJ.again ((j + 1), Agj0, cgj0, (z + 1), E) ⟨by omega, ⟨by omega, (by first | omega | (simp only [List.length_append, List.length_cons, List.length_nil]; omega)), (by first | exact hEn | exact fun e he => (List.mem_append.1 he).elim (hEn e) (fun he => by obtain rfl := List.mem_singleton.1 he; exact names_le4 _ (List.mem_of_getElem? (by assumption))))⟩⟩ (by first | omega | (dsimp only; omega)) (.c .z (.c (.s4 (.s4 (.s .z))) (.c (.s4 (.s4 (.s (.s .z)))) (.c (.s4 (.s4 (.s (.s (.s .z))))) (.c (.s4 (.s4 (.s4 .z))) .n))))) (fun _ h => h.sel (.c (.s .z) (.c (.s .z) (.c (.s .z) (.c .z (.c .z .n))))))
 refine FJ.exit (FJ.thenE (FJ.thenE (FJ.inB (FJ.then_ ?_))))
 refine FJ.seq (FJ.region ?_)
 refine FJ.ql rfl (q_loadA (cs := [.int .i64 2, .int .i64 0, .int .i64 0, .slice none 0 0, .slice Agj0 E.length cgj0]) rfl ag_30 sz_30 (.t (.s4 (.s (.s .z)))) (WS.rows0 (.s (.s .z)) (fun i u h => by exact h))) ?_
 refine FJ.es (goes_list rfl) rfl (es_store (off := 0) (cs := [.int .i64 2, .int .i64 0, .int .i64 0, .slice none 0 0, .slice Agj0 E.length cgj0]) rfl sz_30 (.t (.s4 (.s4 .z))) (.t .z) rfl (ones rfl) (.s4 .z) (Nat.le_of_ble_eq_true rfl) (.c .z (.c (.s .z) (.c (.s (.s .z)) (.c (.s (.s (.s .z))) (.c (.s (.s (.s (.s .z)))) .n)))))) ?_
 refine FJ.nil (FJ.then_ (FJ.ret (FJ.inBR (FJ.thenR ?_))))
 refine FJ.add (c := ownA kSl_2 [] [.slice none 0 0]) (fun w S => own_nil w S none) ?_
 refine FJ.doneS (resC (cs := [.int .i64 2, .int .i64 0, .int .i64 0, .slice none 0 0, .slice Agj0 E.length cgj0]) rfl (.s4 (.s4 .z)) ag_30 sz_30 (WS.rows0 (cs := [.int .i64 2, .int .i64 0, .int .i64 0, .slice none 0 0, .slice Agj0 E.length cgj0]) (.s .z) (fun _ _ h => h))) (.c .z (.c (.s .z) (.c (.s (.s (.s .z))) .n))) ?_
 exact ⟨⟨2, 0, 0, [], E⟩, _, _, _, ⟨by first | omega | (dsimp only; omega) | (simp only [List.length_append, List.length_cons, List.length_nil, List.length_replicate]; omega), by first | omega | (dsimp only; omega) | (simp only [List.length_append, List.length_cons, List.length_nil, List.length_replicate]; omega), by first | exact hEn | (intro e he; simp at he; done), by first | exact hBn | (intro b hb; simp at hb; done), by omega, by omega⟩, rfl, rfl⟩
 refine FJ.skip (FJ.inBN (FJ.then_ (FJ.seq (FJ.region ?_))))
 refine FJ.ql rfl (q_move rfl (.t (.s4 (.s4 .z)))) ?_
 refine FJ.call (goes_list rfl) rfl (by decide) rfl (c_call rfl Try.func93 rfl rfl (args2 (.t .z) .c)) (.c .z .n) (fun w1 S1 hs tr => c_93 (tr.ctx hcd) _ hs (by omega) (by omega)) ?_
 rintro _ _ ⟨m36, h0m36, h1m36, rfl, rfl⟩
 refine FJ.cat (.c .n) ?_
 refine FJ.ql rfl (q_add (c := 1 + m36) rfl .c (.t .z) (wr (by omega) (by omega) (by omega))) ?_
 refine FJ.ql rfl (q_move rfl (.t (.s4 (.s4 (.s (.s (.s .z))))))) ?_
 refine FJ.call (goes_list rfl) rfl (by decide) rfl (c_call rfl Try.func93 rfl rfl (args2 (.t .z) .c)) (.c .z .n) (fun w1 S1 hs tr => c_93 (tr.ctx hcd) _ hs (by omega) (by omega)) ?_
 rintro _ _ ⟨m37, h0m37, h1m37, rfl, rfl⟩
 refine FJ.cat (.c .n) ?_
 refine FJ.ql rfl (q_build (ps := [(0, .int .i64 1), (1, .int .i64 (1 + m36)), (2, .int .i64 m37)]) (cs := [.int .i64 1, .int .i64 (1 + m36), .int .i64 m37, .slice none 0 0, .slice none 0 0]) rfl bl_30 (by intro act hact; simp only [List.map_toArray, List.map_cons, List.map_nil, (show Val _ _ _ from .c) act hact, (show Val _ _ _ from (.t (.s (.s .z)))) act hact, (show Val _ _ _ from (.t .z)) act hact]) rfl) ?_
 refine FJ.e (goes_list rfl) rfl (by decide) rfl (e_alloc rfl z_30 rfl rfl) ?_
 rintro _ _ ⟨g38, rfl, rfl⟩
 refine FJ.es (goes_list rfl) rfl (es_store (off := 0) (cs := [.int .i64 1, .int .i64 (1 + m36), .int .i64 m37, .slice none 0 0, .slice none 0 0]) rfl sz_30 (.t .z) (.t (.s .z)) rfl (ones rfl) .z (Nat.le_of_ble_eq_true rfl) (.c .z (.c (.s .z) (.c (.s (.s .z)) (.c (.s (.s (.s .z))) (.c (.s (.s (.s (.s .z)))) .n)))))) ?_
 refine FJ.nil (FJ.then_ (FJ.seq (FJ.seq (FJ.region ?_))))
 refine FJ.ql rfl (q_assign rfl .c) (FJ.nil (FJ.then_ (FJ.block ?_)))
 refine FJ.add (c := ownA kSl_2 [] [.slice none 0 0]) (fun w S => own_nil w S none) ?_
 refine FJ.loopi (γ := (Option Addr) × Nat × Int × Int × (List Int)) (fun ⟨Agq0, cgq0, j, z, B⟩ => [(7, .int .i64 j), (6, .pointer (some ⟨g38, 0, none⟩)), (2, .pointer (some ⟨g2, 0, none⟩)), (0, .pointer (some ⟨g0, 0, none⟩))]) (fun ⟨Agq0, cgq0, j, z, B⟩ => [ownA kSl_2 B [.slice Agq0 B.length cgq0], rowA g38 30 5 1 [.int .i64 1, .int .i64 (1 + m36), .int .i64 m37, .slice Agq0 B.length cgq0, .slice none 0 0], rowA g0 e0 s0 1 ((.slice Ac cd.length cc) :: (.int .i64 z) :: post0), rowA g2 30 5 1 [.int .i64 0, .int .i64 0, .int .i64 0, .slice none 0 0, .slice none 0 0]]) (fun ⟨Agq0, cgq0, j, z, B⟩ => (0 ≤ j ∧ j ≤ 10) ∧ (a ≤ z ∧ z ≤ a + 5 + j) ∧ (B.length : Int) = j ∧ ∀ b, b ∈ B → 0 ≤ b ∧ b ≤ 19) (fun ⟨Agq0, cgq0, j, z, B⟩ => (10 - j : Int).toNat) (none, 0, 0, (((a + 1) + 1) + 1), []) ⟨by omega, by omega, rfl, fun b hb => absurd hb (by simp)⟩ (.c .z (.c (.s .z) (.c (.s4 (.s4 (.s4 (.s (.s (.s .z)))))) (.c (.s16 .z) .n)))) (fun _ h => h.sel (.c .z (.c .z (.c .z (.c .z .n))))) ?_
 rintro ⟨Agq0, cgq0, j, z, B⟩ ⟨hj, hz, hB, hBn⟩
 refine FJ.seq (FJ.seq (FJ.region (FJ.ql rfl (q_move rfl (.t .z)) (FJ.ql rfl (q_fieldAddr rfl (.t (.s (.s .z))) (fun _ => fa_30_2 _ _)) ?_))))
 refine FJ.ql rfl (q_load rfl ag_2 (.t .z) (WS.row (.s .z) rfl)) ?_
 refine FJ.call (goes_list rfl) rfl (by decide) rfl (c_call rfl Try.func129 rfl rfl (args1 (.t .z))) .n (fun w1 S1 hs tr => c_129 _ (by omega) (by omega)) ?_
 rintro _ _ ⟨rfl, rfl⟩
 refine FJ.cat .n ?_
 refine FJ.ql rfl (q_lss rfl (.t (.s (.s (.s .z)))) (.t .z)) (FJ.nil (FJ.then_ ?_))
 refine FJ.condP (.t .z) (fun b40 => ?_) (fun b40 => ?_)
 refine FJ.skip (FJ.then_ (FJ.seq (FJ.block ?_)))
 refine FJ.sel (.c .z (.c (.s .z) (.c .z (.c .z .n)))) ?_
 refine FJ.draw [rowA g38 30 5 1 [.int .i64 1, .int .i64 (1 + m36), .int .i64 m37, .slice Agq0 B.length cgq0, .slice none 0 0], rowA g2 30 5 1 [.int .i64 0, .int .i64 0, .int .i64 0, .slice none 0 0, .slice none 0 0]] 11 (by kernel_rfl) ?_
 refine FJ.sch [(0, true), (1, true), (2, true), (4, true), (5, true), (3, false), (6, true), (7, true), (8, false), (9, false), (10, true), (11, false)] 0 #[true, true, true, true, true, true, true, true, true, true, true, true] (by rfl) (by kernel_rfl) ?_
 refine FJ.dq rfl rfl rfl (by decide) rfl (.s (.s .z)) (q_fieldAddr rfl (.t (.s4 (.s (.s .z)))) (fun _ => fa_30_3 _ _)) (FJ.dq rfl rfl rfl (by decide) rfl (.s (.s .z)) (q_load rfl ag_22 (.t .z) (WS.row .z rfl)) (FJ.dq rfl rfl rfl (by decide) rfl (.s (.s .z)) (q_move rfl (.t (.s4 (.s4 (.s (.s .z)))))) (FJ.dq rfl rfl rfl (by decide) rfl (.s (.s .z)) (q_move rfl (.t (.s4 (.s4 .z)))) ?_)))
 refine FJ.dq rfl rfl rfl (by decide) rfl (.s (.s .z)) (q_mul (c := 5 * j) rfl .c (.t .z) (wr (by omega) (by omega) (by omega))) ?_
 refine FJ.call (goes_sch rfl rfl) rfl (by decide) rfl (c_call rfl Try.func93 rfl rfl (args2 (.t (.s (.s .z))) .c)) (.c (.s .z) .n) (fun w1 S1 hs tr => c_93 (tr.ctx hcd) _ hs (by omega) (by omega)) ?_
 rintro _ _ ⟨m41, h0m41, h1m41, rfl, rfl⟩
 refine FJ.cat (.c .n) ?_
 refine FJ.sk (.s (.s .z)) ?_
 refine FJ.dq rfl rfl rfl (by decide) rfl (.s (.s .z)) (q_add (c := m41 + (5 * j)) rfl (.t .z) (.t (.s .z)) (wr (by omega) (by omega) (by omega))) ?_
 refine FJ.dq rfl rfl rfl (by decide) rfl (.s (.s .z)) (q_rem (c := Int.tmod (m41 + (5 * j)) 20) rfl (.t .z) .c (by omega) rfl) ?_
 refine FJ.e (goes_sch rfl rfl) rfl (by decide) rfl (e_buildSliceL (ps := [(0, .int .i64 (Int.tmod (m41 + (5 * j)) 20))]) (cs := [.int .i64 (Int.tmod (m41 + (5 * j)) 20)]) rfl u_22 (inz inf_2) (by decide) (by intro act hact; simp only [List.map_toArray, List.map_cons, List.map_nil, (show Val _ _ _ from (.t .z)) act hact]) rfl rfl (by decide) rfl rfl) ?_
 rintro _ _ ⟨g42, rfl, rfl⟩
 refine FJ.sk (.s (.s (.s .z))) ?_
 refine FJ.add (c := ownA (kint .i64) (Int.tmod (m41 + (5 * j)) 20) [.int .i64 (Int.tmod (m41 + (5 * j)) 20)]) (fun _ _ => ⟨rfl, trivial⟩) ?_
 refine FJ.e (goes_sch rfl rfl) rfl (by decide) rfl (e_append1 rfl u_22 inf_2 rfl (.t (.s4 (.s (.s (.s .z))))) (.t .z) (.c (.s (.s (.s .z))) (.c (.s .z) (.c .z .n))) (by first | omega | (simp only [List.length_append, List.length_cons, List.length_nil, List.length_replicate]; omega)) (by first | omega | (simp only [List.length_append, List.length_cons, List.length_nil, List.length_replicate]; omega))) ?_
 rintro _ _ rfl
 refine FJ.know (WS.oform .z) ?_
 rintro ⟨Ao44, co44, rfl, hlo44, hmo44, hbo44⟩
 refine FJ.sk (.s (.s .z)) ?_
 refine FJ.dq rfl rfl rfl (by decide) rfl (.s (.s .z)) (q_fieldAddr rfl (.t (.s16 .z)) (fun _ => fa_30_3 _ _)) ?_
 refine FJ.es (goes_sch rfl rfl) rfl (es_store (off := 3) (cs := [.slice Ao44 (B ++ [Int.tmod (m41 + (5 * j)) 20]).length co44]) rfl sz_22 (.t .z) (.t (.s .z)) rfl (ones rfl) (.s (.s .z)) (Nat.le_of_ble_eq_true rfl) (.c (.s (.s (.s .z))) .n)) ?_
 refine FJ.sl rfl ?_
 refine FJ.schN ?_
 refine FJ.drawN (by kernel_rfl) ?_
 refine FJ.inBN (FJ.then_ (FJ.region (FJ.ql rfl (q_move rfl (.t (.s16 .z))) ?_)))
 refine FJ.ql rfl (q_add (c := j + 1) rfl (.t .z) .c (wr (by omega) (by omega) (by omega))) ?_
 refine FJ.er (.s16 (.s (.s .z))) (FJ.ql rfl (q_assign rfl (.t .z)) (FJ.nil ?_))
 refine FJ.again (Ao44, co44, j + 1, (z + 1), B ++ [Int.tmod (m41 + (5 * j)) 20]) ⟨by omega, by omega, (by simp only [List.length_append, List.length_cons, List.length_nil]; omega), fun b hb => (List.mem_append.1 hb).elim (hBn b) (fun hb => by obtain rfl := List.mem_singleton.1 hb; first | (have ht := tmod_in (n := 20) (by assumption) (by omega); omega) | (refine ⟨(tmod_in (by omega) (by omega)).1, ?_⟩; have ht := fun x (hx : (0 : Int) ≤ x) => (tmod_in (x := x) (n := 20) hx (by omega)).2; exact Int.le_of_lt_add_one (ht _ (by omega))))⟩ (by first | omega | (dsimp only; omega)) (.c .z (.c (.s16 (.s (.s (.s .z)))) (.c (.s16 (.s4 .z)) (.c (.s16 (.s4 (.s .z))) .n)))) (fun _ h => h.sel (.c (.s .z) (.c .z (.c .z (.c .z .n)))))
 refine FJ.exit (FJ.thenE (FJ.thenE (FJ.inB (FJ.then_ ?_))))
 refine FJ.seq (FJ.region ?_)
 refine FJ.ql rfl (q_loadA (cs := [.int .i64 1, .int .i64 (1 + m36), .int .i64 m37, .slice Agq0 B.length cgq0, .slice none 0 0]) rfl ag_30 sz_30 (.t (.s4 (.s (.s .z)))) (WS.rows0 (.s .z) (fun i u h => by exact h))) ?_
 refine FJ.es (goes_list rfl) rfl (es_store (off := 0) (cs := [.int .i64 1, .int .i64 (1 + m36), .int .i64 m37, .slice Agq0 B.length cgq0, .slice none 0 0]) rfl sz_30 (.t (.s4 (.s4 .z))) (.t .z) rfl (ones rfl) (.s (.s (.s .z))) (Nat.le_of_ble_eq_true rfl) (.c .z (.c (.s .z) (.c (.s (.s .z)) (.c (.s (.s (.s .z))) (.c (.s (.s (.s (.s .z)))) .n)))))) ?_
 refine FJ.nil (FJ.then_ (FJ.ret ?_))
 refine FJ.add (c := ownA kSl_130 [] [.slice none 0 0]) (fun w S => own_nil w S none) ?_
 refine FJ.doneS (resC (cs := [.int .i64 1, .int .i64 (1 + m36), .int .i64 m37, .slice Agq0 B.length cgq0, .slice none 0 0]) rfl (.s4 (.s4 .z)) ag_30 sz_30 (WS.rows0 (cs := [.int .i64 1, .int .i64 (1 + m36), .int .i64 m37, .slice Agq0 B.length cgq0, .slice none 0 0]) (.s .z) (fun _ _ h => h))) (.c (.s (.s .z)) (.c .z (.c (.s (.s .z)) .n))) ?_
 exact ⟨⟨1, 1 + m36, m37, B, []⟩, _, _, _, ⟨by first | omega | (dsimp only; omega) | (simp only [List.length_append, List.length_cons, List.length_nil, List.length_replicate]; omega), by first | omega | (dsimp only; omega) | (simp only [List.length_append, List.length_cons, List.length_nil, List.length_replicate]; omega), by first | exact hEn | (intro e he; simp at he; done), by first | exact hBn | (intro b hb; simp at hb; done), by omega, by omega⟩, rfl, rfl⟩

set_option maxHeartbeats 1000000 in
set_option maxRecDepth 20000 in
theorem c_99 {w0 : World} {S0 : Bs} {g0 e0 s0 : Nat} {post0 : List Value} {cd : List UInt8} {Ac : Option Addr} {cc : Nat} (hcd : kSl_5.ro w0 (FF w0 S0) cd [.slice Ac cd.length cc]) {a : Int} (hs : Star [rowA g0 e0 s0 1 ((.slice Ac cd.length cc) :: (.int .i64 a) :: post0)] w0 S0) (ha : 0 ≤ a ∧ a ≤ 980000) :
    Calls Try.prog 99 #[.pointer (some ⟨g0, 0, none⟩)] w0 (TriPost w0 S0 (fun r l => ∃ (x : DInode) (v0_ v1_ : Value) (u : Int), (x.blocks.length ≤ 11 ∧ x.ents.length ≤ 6 ∧ a ≤ u ∧ u ≤ a + 60) ∧ r = .agg #[.int .i64 x.kind, .int .i64 x.links, .int .i64 x.size, v0_, v1_] ∧ l = [ownA kSl_2 x.blocks [v0_], ownA kSl_130 x.ents [v1_], rowA g0 e0 s0 1 (.slice Ac cd.length cc :: .int .i64 u :: post0)])) := by
 obtain ⟨hlc, hmc, hbc⟩ := src_hl hcd
 refine FJ.enter (N := 50) Try.func99 rfl rfl (by simp) [(0, .pointer (some ⟨g0, 0, none⟩))] (by simp) hs ?_
 refine FJ.seq (FJ.region ?_)
 refine FJ.e (goes_list rfl) rfl (by decide) rfl (e_alloc rfl z_30 rfl rfl) ?_
 rintro _ _ ⟨g2, rfl, rfl⟩
 refine FJ.nil (FJ.then_ (FJ.seq (FJ.region (FJ.ql rfl (q_move rfl (.t (.s .z))) ?_))))
 refine FJ.call (goes_list rfl) rfl (by decide) rfl (c_call rfl Try.func92 rfl rfl (args1 (.t .z))) (.c (.s .z) .n) (fun w1 S1 hs tr => c_92 (tr.ctx hcd) hs (by omega)) ?_
 rintro _ _ ⟨nd3, v5, v7, u4, hznd3, rfl, rfl⟩
 refine FJ.cat (.c (.c (.c .n))) ?_
 refine FJ.know (WS.oform .z) ?_
 rintro ⟨Ao9, co9, rfl, hlo9, hmo9, hbo9⟩
 refine FJ.know (WS.oform (.s .z)) ?_
 rintro ⟨Ao10, co10, rfl, hlo10, hmo10, hbo10⟩
 refine FJ.e (goes_list rfl) rfl (by decide) rfl (e_alloc rfl z_30 rfl rfl) ?_
 rintro _ _ ⟨g11, rfl, rfl⟩
 refine FJ.es (goes_list rfl) rfl (es_store (off := 0) (cs := [.int .i64 nd3.kind, .int .i64 nd3.links, .int .i64 nd3.size, .slice Ao9 nd3.blocks.length co9, .slice Ao10 nd3.ents.length co10]) rfl sz_30 (.t .z) (.t (.s .z)) rfl (ones rfl) .z (Nat.le_of_ble_eq_true rfl) (.c .z (.c (.s .z) (.c (.s (.s .z)) (.c (.s (.s (.s .z))) (.c (.s (.s (.s (.s .z)))) .n)))))) ?_
 refine FJ.nil (FJ.then_ (FJ.seq (FJ.seq (FJ.region ?_))))
 refine FJ.ql rfl (q_move rfl (.t (.s4 .z))) ?_
 refine FJ.call (goes_list rfl) rfl (by decide) rfl (c_call rfl Try.func93 rfl rfl (args2 (.t .z) .c)) (.c (.s (.s (.s .z))) .n) (fun w1 S1 hs tr => c_93 (tr.ctx hcd) _ hs (by omega) (by omega)) ?_
 rintro _ _ ⟨m12, h0m12, h1m12, rfl, rfl⟩
 refine FJ.cat (.c .n) ?_
 refine FJ.nil (FJ.then_ (FJ.block (FJ.seq (FJ.region ?_))))
 refine FJ.ql rfl (q_eql rfl (.t .z) .c) (FJ.ql rfl (q_assign rfl (.t .z)) (FJ.nil (FJ.then_ ?_)))
 refine FJ.condP (.t .z) (fun b13 => ?_) (fun b13 => ?_)
 refine FJ.region (FJ.ql rfl (q_move rfl (.t (.s4 (.s4 .z)))) ?_)
 refine FJ.e (goes_list rfl) rfl (by decide) rfl (e_buildSliceL (ps := [(0, .int .i64 (-1)), (1, .int .i64 3), (2, .int .i64 0), (3, .int .i64 1), (4, .int .i64 2)]) (cs := [.int .i64 (-1), .int .i64 3, .int .i64 0, .int .i64 1, .int .i64 2]) rfl u_22 (inz inf_2) (by decide) (by intro act hact; simp only [List.map_toArray, List.map_cons, List.map_nil, (show Val _ _ _ from .c) act hact, (show Val _ _ _ from .c) act hact, (show Val _ _ _ from .c) act hact, (show Val _ _ _ from .c) act hact, (show Val _ _ _ from .c) act hact]) rfl rfl (by decide) rfl rfl) ?_
 rintro _ _ ⟨g14, rfl, rfl⟩
 refine FJ.turns (c := ownA kSl_2 ([(-1), 3, 0, 1, 2] : (List Int)) [.slice (some ⟨g14, 0, none⟩) 5 5]) (.c .z .n) (fun w S h => lit_own (xs := ([(-1), 3, 0, 1, 2] : (List Int))) h rfl (by simp) (by omega) (by omega)) ?_
 refine FJ.call (goes_list rfl) rfl (by decide) rfl (c_call rfl Try.func94 rfl rfl (args2 (.t (.s .z)) (.t .z))) (.c (.s .z) .n) (fun w1 S1 hs tr => c_94 (tr.ctx hcd) (tr.own .z) hs (by omega) (by simp)) ?_
 rintro _ _ ⟨m16, hm16, rfl, rfl⟩
 refine FJ.cat (.c .n) ?_
 simp only [List.mem_cons, List.not_mem_nil, or_false] at hm16
 refine FJ.ql rfl (q_fieldAddr rfl (.t (.s4 (.s (.s (.s .z))))) (fun _ => fa_30_0 _ _)) ?_
 refine FJ.es (goes_list rfl) rfl (es_store (off := 0) (cs := [.int .i64 m16]) rfl sz_2 (.t .z) (.t (.s .z)) rfl (ones rfl) (.s (.s .z)) (Nat.le_of_ble_eq_true rfl) (.c .z .n)) ?_
 refine FJ.nil (FJ.inBN (FJ.then_ (FJ.seq (FJ.region ?_))))
 refine FJ.ql rfl (q_loadA (cs := [.int .i64 m16, .int .i64 nd3.links, .int .i64 nd3.size, .slice Ao9 nd3.blocks.length co9, .slice Ao10 nd3.ents.length co10]) rfl ag_30 sz_30 (.t (.s4 (.s4 .z))) (WS.rows0 .z (fun i u h => by exact h))) ?_
 refine FJ.es (goes_list rfl) rfl (es_store (off := 0) (cs := [.int .i64 m16, .int .i64 nd3.links, .int .i64 nd3.size, .slice Ao9 nd3.blocks.length co9, .slice Ao10 nd3.ents.length co10]) rfl sz_30 (.t (.s4 (.s4 (.s4 .z)))) (.t .z) rfl (ones rfl) (.s4 (.s .z)) (Nat.le_of_ble_eq_true rfl) (.c .z (.c (.s .z) (.c (.s (.s .z)) (.c (.s (.s (.s .z))) (.c (.s (.s (.s (.s .z)))) .n)))))) ?_
 refine FJ.nil (FJ.then_ (FJ.ret ?_))
 refine FJ.doneS (resC (cs := [.int .i64 m16, .int .i64 nd3.links, .int .i64 nd3.size, .slice Ao9 nd3.blocks.length co9, .slice Ao10 nd3.ents.length co10]) rfl (.s4 (.s4 (.s4 .z))) ag_30 sz_30 (WS.rows0 (cs := [.int .i64 m16, .int .i64 nd3.links, .int .i64 nd3.size, .slice Ao9 nd3.blocks.length co9, .slice Ao10 nd3.ents.length co10]) .z (fun _ _ h => h))) (.c (.s4 .z) (.c (.s4 .z) (.c (.s (.s .z)) .n))) ?_
 exact ⟨⟨m16, nd3.links, nd3.size, nd3.blocks, nd3.ents⟩, _, _, _, ⟨by first | omega | (dsimp only; omega) | (simp only [List.length_append, List.length_cons, List.length_nil, List.length_replicate]; omega), by first | omega | (dsimp only; omega) | (simp only [List.length_append, List.length_cons, List.length_nil, List.length_replicate]; omega), by omega, by omega⟩, rfl, rfl⟩
 refine FJ.seq (FJ.region (FJ.ql rfl (q_eql rfl (.t (.s (.s .z))) .c) (FJ.ql rfl (q_assign rfl (.t .z)) (FJ.nil ?_))))
 refine FJ.then_ ?_
 refine FJ.condP (.t .z) (fun b17 => ?_) (fun b17 => ?_)
 refine FJ.region (FJ.ql rfl (q_move rfl (.t (.s4 (.s4 (.s (.s .z)))))) ?_)
 refine FJ.e (goes_list rfl) rfl (by decide) rfl (e_buildSliceL (ps := [(0, .int .i64 0), (1, .int .i64 61), (2, .int .i64 1)]) (cs := [.int .i64 0, .int .i64 61, .int .i64 1]) rfl u_22 (inz inf_2) (by decide) (by intro act hact; simp only [List.map_toArray, List.map_cons, List.map_nil, (show Val _ _ _ from .c) act hact, (show Val _ _ _ from .c) act hact, (show Val _ _ _ from .c) act hact]) rfl rfl (by decide) rfl rfl) ?_
 rintro _ _ ⟨g18, rfl, rfl⟩
 refine FJ.turns (c := ownA kSl_2 ([0, 61, 1] : (List Int)) [.slice (some ⟨g18, 0, none⟩) 3 3]) (.c .z .n) (fun w S h => lit_own (xs := ([0, 61, 1] : (List Int))) h rfl (by simp) (by omega) (by omega)) ?_
 refine FJ.call (goes_list rfl) rfl (by decide) rfl (c_call rfl Try.func94 rfl rfl (args2 (.t (.s .z)) (.t .z))) (.c (.s .z) .n) (fun w1 S1 hs tr => c_94 (tr.ctx hcd) (tr.own .z) hs (by omega) (by simp)) ?_
 rintro _ _ ⟨m20, hm20, rfl, rfl⟩
 refine FJ.cat (.c .n) ?_
 simp only [List.mem_cons, List.not_mem_nil, or_false] at hm20
 refine FJ.ql rfl (q_fieldAddr rfl (.t (.s4 (.s4 (.s .z)))) (fun _ => fa_30_1 _ _)) ?_
 refine FJ.es (goes_list rfl) rfl (es_store (off := 1) (cs := [.int .i64 m20]) rfl sz_2 (.t .z) (.t (.s .z)) rfl (ones rfl) (.s (.s .z)) (Nat.le_of_ble_eq_true rfl) (.c (.s .z) .n)) ?_
 refine FJ.nil (FJ.inBN (FJ.then_ (FJ.seq (FJ.region ?_))))
 refine FJ.ql rfl (q_loadA (cs := [.int .i64 nd3.kind, .int .i64 m20, .int .i64 nd3.size, .slice Ao9 nd3.blocks.length co9, .slice Ao10 nd3.ents.length co10]) rfl ag_30 sz_30 (.t (.s4 (.s4 (.s (.s .z))))) (WS.rows0 .z (fun i u h => by exact h))) ?_
 refine FJ.es (goes_list rfl) rfl (es_store (off := 0) (cs := [.int .i64 nd3.kind, .int .i64 m20, .int .i64 nd3.size, .slice Ao9 nd3.blocks.length co9, .slice Ao10 nd3.ents.length co10]) rfl sz_30 (.t (.s4 (.s4 (.s4 (.s (.s .z)))))) (.t .z) rfl (ones rfl) (.s4 (.s .z)) (Nat.le_of_ble_eq_true rfl) (.c .z (.c (.s .z) (.c (.s (.s .z)) (.c (.s (.s (.s .z))) (.c (.s (.s (.s (.s .z)))) .n)))))) ?_
 refine FJ.nil (FJ.then_ (FJ.ret ?_))
 refine FJ.doneS (resC (cs := [.int .i64 nd3.kind, .int .i64 m20, .int .i64 nd3.size, .slice Ao9 nd3.blocks.length co9, .slice Ao10 nd3.ents.length co10]) rfl (.s4 (.s4 (.s4 (.s (.s .z))))) ag_30 sz_30 (WS.rows0 (cs := [.int .i64 nd3.kind, .int .i64 m20, .int .i64 nd3.size, .slice Ao9 nd3.blocks.length co9, .slice Ao10 nd3.ents.length co10]) .z (fun _ _ h => h))) (.c (.s4 .z) (.c (.s4 .z) (.c (.s (.s .z)) .n))) ?_
 exact ⟨⟨nd3.kind, m20, nd3.size, nd3.blocks, nd3.ents⟩, _, _, _, ⟨by first | omega | (dsimp only; omega) | (simp only [List.length_append, List.length_cons, List.length_nil, List.length_replicate]; omega), by first | omega | (dsimp only; omega) | (simp only [List.length_append, List.length_cons, List.length_nil, List.length_replicate]; omega), by omega, by omega⟩, rfl, rfl⟩
 refine FJ.seq (FJ.region (FJ.ql rfl (q_eql rfl (.t (.s4 .z)) .c) (FJ.ql rfl (q_assign rfl (.t .z)) (FJ.nil ?_))))
 refine FJ.then_ ?_
 refine FJ.condP (.t .z) (fun b21 => ?_) (fun b21 => ?_)
 refine FJ.region (FJ.ql rfl (q_move rfl (.t (.s4 (.s4 (.s4 .z))))) ?_)
 refine FJ.e (goes_list rfl) rfl (by decide) rfl (e_buildSliceL (ps := [(0, .int .i64 (-1)), (1, .int .i64 33), (2, .int .i64 8)]) (cs := [.int .i64 (-1), .int .i64 33, .int .i64 8]) rfl u_22 (inz inf_2) (by decide) (by intro act hact; simp only [List.map_toArray, List.map_cons, List.map_nil, (show Val _ _ _ from .c) act hact, (show Val _ _ _ from .c) act hact, (show Val _ _ _ from .c) act hact]) rfl rfl (by decide) rfl rfl) ?_
 rintro _ _ ⟨g22, rfl, rfl⟩
 refine FJ.turns (c := ownA kSl_2 ([(-1), 33, 8] : (List Int)) [.slice (some ⟨g22, 0, none⟩) 3 3]) (.c .z .n) (fun w S h => lit_own (xs := ([(-1), 33, 8] : (List Int))) h rfl (by simp) (by omega) (by omega)) ?_
 refine FJ.call (goes_list rfl) rfl (by decide) rfl (c_call rfl Try.func94 rfl rfl (args2 (.t (.s .z)) (.t .z))) (.c (.s .z) .n) (fun w1 S1 hs tr => c_94 (tr.ctx hcd) (tr.own .z) hs (by omega) (by simp)) ?_
 rintro _ _ ⟨m24, hm24, rfl, rfl⟩
 refine FJ.cat (.c .n) ?_
 simp only [List.mem_cons, List.not_mem_nil, or_false] at hm24
 refine FJ.ql rfl (q_fieldAddr rfl (.t (.s4 (.s4 (.s (.s (.s .z)))))) (fun _ => fa_30_2 _ _)) ?_
 refine FJ.es (goes_list rfl) rfl (es_store (off := 2) (cs := [.int .i64 m24]) rfl sz_2 (.t .z) (.t (.s .z)) rfl (ones rfl) (.s (.s .z)) (Nat.le_of_ble_eq_true rfl) (.c (.s (.s .z)) .n)) ?_
 refine FJ.nil (FJ.inBN (FJ.then_ (FJ.seq (FJ.region ?_))))
 refine FJ.ql rfl (q_loadA (cs := [.int .i64 nd3.kind, .int .i64 nd3.links, .int .i64 m24, .slice Ao9 nd3.blocks.length co9, .slice Ao10 nd3.ents.length co10]) rfl ag_30 sz_30 (.t (.s4 (.s4 (.s4 .z)))) (WS.rows0 .z (fun i u h => by exact h))) ?_
 refine FJ.es (goes_list rfl) rfl (es_store (off := 0) (cs := [.int .i64 nd3.kind, .int .i64 nd3.links, .int .i64 m24, .slice Ao9 nd3.blocks.length co9, .slice Ao10 nd3.ents.length co10]) rfl sz_30 (.t (.s16 .z)) (.t .z) rfl (ones rfl) (.s4 (.s .z)) (Nat.le_of_ble_eq_true rfl) (.c .z (.c (.s .z) (.c (.s (.s .z)) (.c (.s (.s (.s .z))) (.c (.s (.s (.s (.s .z)))) .n)))))) ?_
 refine FJ.nil (FJ.then_ (FJ.ret ?_))
 refine FJ.doneS (resC (cs := [.int .i64 nd3.kind, .int .i64 nd3.links, .int .i64 m24, .slice Ao9 nd3.blocks.length co9, .slice Ao10 nd3.ents.length co10]) rfl (.s16 .z) ag_30 sz_30 (WS.rows0 (cs := [.int .i64 nd3.kind, .int .i64 nd3.links, .int .i64 m24, .slice Ao9 nd3.blocks.length co9, .slice Ao10 nd3.ents.length co10]) .z (fun _ _ h => h))) (.c (.s4 .z) (.c (.s4 .z) (.c (.s (.s .z)) .n))) ?_
 exact ⟨⟨nd3.kind, nd3.links, m24, nd3.blocks, nd3.ents⟩, _, _, _, ⟨by first | omega | (dsimp only; omega) | (simp only [List.length_append, List.length_cons, List.length_nil, List.length_replicate]; omega), by first | omega | (dsimp only; omega) | (simp only [List.length_append, List.length_cons, List.length_nil, List.length_replicate]; omega), by omega, by omega⟩, rfl, rfl⟩
 refine FJ.seq (FJ.region (FJ.ql rfl (q_eql rfl (.t (.s4 (.s (.s .z)))) .c) (FJ.ql rfl (q_assign rfl (.t .z)) (FJ.nil ?_))))
 refine FJ.then_ ?_
 refine FJ.condP (.t .z) (fun b25 => ?_) (fun b25 => ?_)
 refine FJ.sel (.c .z (.c (.s .z) (.c (.s .z) (.c .z (.c .z .n))))) ?_
 refine FJ.draw [rowA g11 30 5 1 [.int .i64 nd3.kind, .int .i64 nd3.links, .int .i64 nd3.size, .slice Ao9 nd3.blocks.length co9, .slice Ao10 nd3.ents.length co10], rowA g2 30 5 1 [.int .i64 0, .int .i64 0, .int .i64 0, .slice none 0 0, .slice none 0 0]] 8 (by kernel_rfl) ?_
 refine FJ.sch [(0, true), (1, true), (2, true), (3, false), (4, false), (5, false), (6, false), (7, true), (8, false)] 0 #[true, true, true, true, true, true, true, true, true] (by rfl) (by kernel_rfl) ?_
 refine FJ.dq rfl rfl rfl (by decide) rfl (.s (.s (.s .z))) (q_fieldAddr rfl (.t (.s4 (.s4 (.s (.s .z))))) (fun _ => fa_30_3 _ _)) (FJ.dq rfl rfl rfl (by decide) rfl (.s (.s (.s .z))) (q_load rfl ag_22 (.t .z) (WS.row .z rfl)) (FJ.dq rfl rfl rfl (by decide) rfl (.s (.s (.s .z))) (q_move rfl (.t (.s16 .z))) ?_))
 refine FJ.e (goes_sch rfl rfl) rfl (by decide) rfl (e_buildSliceL (ps := [(0, .int .i64 0), (1, .int .i64 20), (2, .int .i64 (-1))]) (cs := [.int .i64 0, .int .i64 20, .int .i64 (-1)]) rfl u_22 (inz inf_2) (by decide) (by intro act hact; simp only [List.map_toArray, List.map_cons, List.map_nil, (show Val _ _ _ from .c) act hact, (show Val _ _ _ from .c) act hact, (show Val _ _ _ from .c) act hact]) rfl rfl (by decide) rfl rfl) ?_
 rintro _ _ ⟨g26, rfl, rfl⟩
 refine FJ.sk (.s4 .z) ?_
 refine FJ.turns (c := ownA kSl_2 ([0, 20, (-1)] : (List Int)) [.slice (some ⟨g26, 0, none⟩) 3 3]) (.c .z .n) (fun w S h => lit_own (xs := ([0, 20, (-1)] : (List Int))) h rfl (by simp) (by omega) (by omega)) ?_
 refine FJ.call (goes_sch rfl rfl) rfl (by decide) rfl (c_call rfl Try.func94 rfl rfl (args2 (.t (.s .z)) (.t .z))) (.c (.s .z) .n) (fun w1 S1 hs tr => c_94 (tr.ctx hcd) (tr.own .z) hs (by omega) (by simp)) ?_
 rintro _ _ ⟨m28, hm28, rfl, rfl⟩
 refine FJ.cat (.c .n) ?_
 simp only [List.mem_cons, List.not_mem_nil, or_false] at hm28
 refine FJ.sk (.s4 .z) ?_
 refine FJ.e (goes_sch rfl rfl) rfl (by decide) rfl (e_buildSliceL (ps := [(0, .int .i64 m28)]) (cs := [.int .i64 m28]) rfl u_22 (inz inf_2) (by decide) (by intro act hact; simp only [List.map_toArray, List.map_cons, List.map_nil, (show Val _ _ _ from (.t .z)) act hact]) rfl rfl (by decide) rfl rfl) ?_
 rintro _ _ ⟨g29, rfl, rfl⟩
 refine FJ.sk (.s4 (.s .z)) ?_
 refine FJ.add (c := ownA (kint .i64) m28 [.int .i64 m28]) (fun _ _ => ⟨rfl, trivial⟩) ?_
 refine FJ.e (goes_sch rfl rfl) rfl (by decide) rfl (e_append1 rfl u_22 inf_2 rfl (.t (.s4 .z)) (.t .z) (.c (.s4 .z) (.c (.s .z) (.c .z .n))) (by first | omega | (simp only [List.length_append, List.length_cons, List.length_nil, List.length_replicate]; omega)) (by first | omega | (simp only [List.length_append, List.length_cons, List.length_nil, List.length_replicate]; omega))) ?_
 rintro _ _ rfl
 refine FJ.know (WS.oform .z) ?_
 rintro ⟨Ao31, co31, rfl, hlo31, hmo31, hbo31⟩
 refine FJ.sk (.s4 .z) ?_
 refine FJ.dq rfl rfl rfl (by decide) rfl (.s4 .z) (q_fieldAddr rfl (.t (.s16 (.s .z))) (fun _ => fa_30_3 _ _)) ?_
 refine FJ.es (goes_sch rfl rfl) rfl (es_store (off := 3) (cs := [.slice Ao31 (nd3.blocks ++ [m28]).length co31]) rfl sz_22 (.t .z) (.t (.s .z)) rfl (ones rfl) (.s4 .z) (Nat.le_of_ble_eq_true rfl) (.c (.s (.s (.s .z))) .n)) ?_
 refine FJ.sl rfl ?_
 refine FJ.schN ?_
 refine FJ.drawN (by kernel_rfl) ?_
 refine FJ.inBN (FJ.then_ (FJ.seq (FJ.region ?_)))
 refine FJ.ql rfl (q_loadA (cs := [.int .i64 nd3.kind, .int .i64 nd3.links, .int .i64 nd3.size, .slice Ao31 (nd3.blocks ++ [m28]).length co31, .slice Ao10 nd3.ents.length co10]) rfl ag_30 sz_30 (.t (.s16 (.s (.s .z)))) (WS.rows0 .z (fun i u h => by exact h))) ?_
 refine FJ.es (goes_list rfl) rfl (es_store (off := 0) (cs := [.int .i64 nd3.kind, .int .i64 nd3.links, .int .i64 nd3.size, .slice Ao31 (nd3.blocks ++ [m28]).length co31, .slice Ao10 nd3.ents.length co10]) rfl sz_30 (.t (.s16 (.s4 (.s (.s .z))))) (.t .z) rfl (ones rfl) (.s4 (.s .z)) (Nat.le_of_ble_eq_true rfl) (.c .z (.c (.s .z) (.c (.s (.s .z)) (.c (.s (.s (.s .z))) (.c (.s (.s (.s (.s .z)))) .n)))))) ?_
 refine FJ.nil (FJ.then_ (FJ.ret ?_))
 refine FJ.doneS (resC (cs := [.int .i64 nd3.kind, .int .i64 nd3.links, .int .i64 nd3.size, .slice Ao31 (nd3.blocks ++ [m28]).length co31, .slice Ao10 nd3.ents.length co10]) rfl (.s16 (.s4 (.s (.s .z)))) ag_30 sz_30 (WS.rows0 (cs := [.int .i64 nd3.kind, .int .i64 nd3.links, .int .i64 nd3.size, .slice Ao31 (nd3.blocks ++ [m28]).length co31, .slice Ao10 nd3.ents.length co10]) .z (fun _ _ h => h))) (.c (.s (.s .z)) (.c (.s4 .z) (.c (.s (.s .z)) .n))) ?_
 exact ⟨⟨nd3.kind, nd3.links, nd3.size, nd3.blocks ++ [m28], nd3.ents⟩, _, _, _, ⟨by first | omega | (dsimp only; omega) | (simp only [List.length_append, List.length_cons, List.length_nil, List.length_replicate]; omega), by first | omega | (dsimp only; omega) | (simp only [List.length_append, List.length_cons, List.length_nil, List.length_replicate]; omega), by omega, by omega⟩, rfl, rfl⟩
 refine FJ.seq (FJ.region (FJ.ql rfl (q_eql rfl (.t (.s4 (.s4 .z))) .c) (FJ.ql rfl (q_assign rfl (.t .z)) (FJ.nil ?_))))
 refine FJ.then_ ?_
 refine FJ.condP (.t .z) (fun b32 => ?_) (fun b32 => ?_)
 refine FJ.sel (.c .z (.c (.s .z) (.c (.s .z) (.c .z (.c .z .n))))) ?_
 refine FJ.draw [rowA g11 30 5 1 [.int .i64 nd3.kind, .int .i64 nd3.links, .int .i64 nd3.size, .slice Ao9 nd3.blocks.length co9, .slice Ao10 nd3.ents.length co10], rowA g2 30 5 1 [.int .i64 0, .int .i64 0, .int .i64 0, .slice none 0 0, .slice none 0 0]] 11 (by kernel_rfl) ?_
 refine FJ.sch [(0, true), (1, true), (2, true), (4, true)] 8 #[true, true, true, false, true, false, false, false, false, false, false, false] (by rfl) (by kernel_rfl) ?_
 refine FJ.dq rfl rfl rfl (by decide) rfl (.s (.s (.s .z))) (q_fieldAddr rfl (.t (.s4 (.s4 (.s4 .z)))) (fun _ => fa_30_4 _ _)) (FJ.dq rfl rfl rfl (by decide) rfl (.s (.s (.s .z))) (q_load rfl ag_28 (.t .z) (WS.row .z rfl)) (FJ.dq rfl rfl rfl (by decide) rfl (.s (.s (.s .z))) (q_move rfl (.t (.s16 (.s (.s .z))))) (FJ.dq rfl rfl rfl (by decide) rfl (.s (.s (.s .z))) (q_move rfl (.t (.s16 (.s (.s (.s .z)))))) (FJ.schN ?_))))
 refine FJ.fork2 (i := 3) (j := 5) (by kernel_rfl) ?_ ?_
 refine FJ.call (goes_sch rfl rfl) rfl (by decide) rfl (c_call rfl Try.func134 rfl rfl (args1 (.t (.s .z)))) (.c .z .n) (fun w1 S1 hs tr => c_134 (tr.ctx hcd) hs (by omega)) ?_
 rintro _ _ ⟨t33, hft33, rfl, rfl⟩
 refine FJ.cat (.c .n) ?_
 have hzt33 := (name_4 hft33).1
 refine FJ.sk (.s (.s (.s .z))) ?_
 refine FJ.schN ?_
 refine FJ.sch [(5, false), (6, false), (7, true), (8, false), (9, false), (10, true), (11, false)] 0 #[true, true, true, true, true, true, true, true, true, true, true, true] (by rfl) (by kernel_rfl) ?_
 refine FJ.e (goes_sch rfl rfl) rfl (by decide) rfl (e_buildSliceL (ps := [(0, .int .i64 0), (1, .int .i64 10)]) (cs := [.int .i64 0, .int .i64 10]) rfl u_22 (inz inf_2) (by decide) (by intro act hact; simp only [List.map_toArray, List.map_cons, List.map_nil, (show Val _ _ _ from .c) act hact, (show Val _ _ _ from .c) act hact]) rfl rfl (by decide) rfl rfl) ?_
 rintro _ _ ⟨g35, rfl, rfl⟩
 refine FJ.sk (.s4 .z) ?_
 refine FJ.turns (c := ownA kSl_2 ([0, 10] : (List Int)) [.slice (some ⟨g35, 0, none⟩) 2 2]) (.c .z .n) (fun w S h => lit_own (xs := ([0, 10] : (List Int))) h rfl (by simp) (by omega) (by omega)) ?_
 refine FJ.call (goes_sch rfl rfl) rfl (by decide) rfl (c_call rfl Try.func94 rfl rfl (args2 (.t (.s (.s .z))) (.t .z))) (.c (.s .z) .n) (fun w1 S1 hs tr => c_94 (tr.ctx hcd) (tr.own .z) hs (by omega) (by simp)) ?_
 rintro _ _ ⟨m37, hm37, rfl, rfl⟩
 refine FJ.cat (.c .n) ?_
 simp only [List.mem_cons, List.not_mem_nil, or_false] at hm37
 refine FJ.sk (.s4 .z) ?_
 refine FJ.dq rfl rfl rfl (by decide) rfl (.s4 .z) (q_build (ps := [(0, .string t33), (1, .int .i64 m37)]) (cs := [.string t33, .int .i64 m37]) rfl bl_130 (by intro act hact; simp only [List.map_toArray, List.map_cons, List.map_nil, (show Val _ _ _ from (.t (.s (.s .z)))) act hact, (show Val _ _ _ from (.t .z)) act hact]) rfl) ?_
 refine FJ.e (goes_sch rfl rfl) rfl (by decide) rfl (e_buildSliceL (ps := [(0, .agg #[.string t33, .int .i64 m37])]) (cs := [.string t33, .int .i64 m37]) rfl u_28 (inz inf_130) (by decide) (by intro act hact; simp only [List.map_toArray, List.map_cons, List.map_nil, (show Val _ _ _ from (.t .z)) act hact]) rfl rfl (by decide) rfl rfl) ?_
 rintro _ _ ⟨g38, rfl, rfl⟩
 refine FJ.sk (.s4 (.s .z)) ?_
 refine FJ.turns (c := ownA kT_130 (⟨t33, m37⟩ : DEnt) [.string t33, .int .i64 m37]) .n (fun w S h => kT_130_omk (⟨t33, m37⟩ : DEnt) h (by first | assumption | omega | (dsimp only; omega))) ?_
 refine FJ.e (goes_sch rfl rfl) rfl (by decide) rfl (e_append1 rfl u_28 inf_130 rfl (.t (.s4 (.s (.s (.s .z))))) (.t .z) (.c (.s4 (.s .z)) (.c (.s .z) (.c .z .n))) (by first | omega | (simp only [List.length_append, List.length_cons, List.length_nil, List.length_replicate]; omega)) (by first | omega | (simp only [List.length_append, List.length_cons, List.length_nil, List.length_replicate]; omega))) ?_
 rintro _ _ rfl
 refine FJ.know (WS.oform .z) ?_
 rintro ⟨Ao40, co40, rfl, hlo40, hmo40, hbo40⟩
 refine FJ.sk (.s4 .z) ?_
 refine FJ.dq rfl rfl rfl (by decide) rfl (.s4 .z) (q_fieldAddr rfl (.t (.s16 (.s4 (.s (.s .z))))) (fun _ => fa_30_4 _ _)) ?_
 refine FJ.es (goes_sch rfl rfl) rfl (es_store (off := 4) (cs := [.slice Ao40 (nd3.ents ++ [(⟨t33, m37⟩ : DEnt)]).length co40]) rfl sz_28 (.t .z) (.t (.s .z)) rfl (ones rfl) (.s4 .z) (Nat.le_of_ble_eq_true rfl) (.c (.s (.s (.s (.s .z)))) .n)) ?_
 refine FJ.sl rfl ?_
 refine FJ.schN ?_
 refine FJ.drawN (by kernel_rfl) ?_
 refine FJ.inBN (FJ.then_ (FJ.seq (FJ.region ?_)))
 refine FJ.ql rfl (q_loadA (cs := [.int .i64 nd3.kind, .int .i64 nd3.links, .int .i64 nd3.size, .slice Ao9 nd3.blocks.length co9, .slice Ao40 (nd3.ents ++ [(⟨t33, m37⟩ : DEnt)]).length co40]) rfl ag_30 sz_30 (.t (.s16 (.s4 (.s (.s (.s .z)))))) (WS.rows0 .z (fun i u h => by exact h))) ?_
 refine FJ.es (goes_list rfl) rfl (es_store (off := 0) (cs := [.int .i64 nd3.kind, .int .i64 nd3.links, .int .i64 nd3.size, .slice Ao9 nd3.blocks.length co9, .slice Ao40 (nd3.ents ++ [(⟨t33, m37⟩ : DEnt)]).length co40]) rfl sz_30 (.t (.s16 (.s4 (.s4 (.s (.s (.s .z))))))) (.t .z) rfl (ones rfl) (.s4 (.s .z)) (Nat.le_of_ble_eq_true rfl) (.c .z (.c (.s .z) (.c (.s (.s .z)) (.c (.s (.s (.s .z))) (.c (.s (.s (.s (.s .z)))) .n)))))) ?_
 refine FJ.nil (FJ.then_ (FJ.ret ?_))
 refine FJ.doneS (resC (cs := [.int .i64 nd3.kind, .int .i64 nd3.links, .int .i64 nd3.size, .slice Ao9 nd3.blocks.length co9, .slice Ao40 (nd3.ents ++ [(⟨t33, m37⟩ : DEnt)]).length co40]) rfl (.s16 (.s4 (.s4 (.s (.s (.s .z)))))) ag_30 sz_30 (WS.rows0 (cs := [.int .i64 nd3.kind, .int .i64 nd3.links, .int .i64 nd3.size, .slice Ao9 nd3.blocks.length co9, .slice Ao40 (nd3.ents ++ [(⟨t33, m37⟩ : DEnt)]).length co40]) .z (fun _ _ h => h))) (.c (.s4 (.s .z)) (.c (.s (.s .z)) (.c (.s (.s .z)) .n))) ?_
 exact ⟨⟨nd3.kind, nd3.links, nd3.size, nd3.blocks, nd3.ents ++ [(⟨t33, m37⟩ : DEnt)]⟩, _, _, _, ⟨by first | omega | (dsimp only; omega) | (simp only [List.length_append, List.length_cons, List.length_nil, List.length_replicate]; omega), by first | omega | (dsimp only; omega) | (simp only [List.length_append, List.length_cons, List.length_nil, List.length_replicate]; omega), by omega, by omega⟩, rfl, rfl⟩
 refine FJ.e (goes_sch rfl rfl) rfl (by decide) rfl (e_buildSliceL (ps := [(0, .int .i64 0), (1, .int .i64 10)]) (cs := [.int .i64 0, .int .i64 10]) rfl u_22 (inz inf_2) (by decide) (by intro act hact; simp only [List.map_toArray, List.map_cons, List.map_nil, (show Val _ _ _ from .c) act hact, (show Val _ _ _ from .c) act hact]) rfl rfl (by decide) rfl rfl) ?_
 rintro _ _ ⟨g41, rfl, rfl⟩
 refine FJ.sk (.s4 .z) ?_
 refine FJ.schN ?_
 refine FJ.sch [(3, false), (6, false), (7, true), (8, false), (9, false), (10, true), (11, false)] 0 #[true, true, true, true, true, true, true, true, true, true, true, true] (by rfl) (by kernel_rfl) ?_
 refine FJ.call (goes_sch rfl rfl) rfl (by decide) rfl (c_call rfl Try.func134 rfl rfl (args1 (.t (.s (.s .z))))) (.c (.s .z) .n) (fun w1 S1 hs tr => c_134 (tr.ctx hcd) hs (by omega)) ?_
 rintro _ _ ⟨t42, hft42, rfl, rfl⟩
 refine FJ.cat (.c .n) ?_
 have hzt42 := (name_4 hft42).1
 refine FJ.sk (.s4 .z) ?_
 refine FJ.turns (c := ownA kSl_2 ([0, 10] : (List Int)) [.slice (some ⟨g41, 0, none⟩) 2 2]) (.c (.s .z) .n) (fun w S h => lit_own (xs := ([0, 10] : (List Int))) h rfl (by simp) (by omega) (by omega)) ?_
 refine FJ.call (goes_sch rfl rfl) rfl (by decide) rfl (c_call rfl Try.func94 rfl rfl (args2 (.t (.s (.s .z))) (.t (.s .z)))) (.c (.s .z) .n) (fun w1 S1 hs tr => c_94 (tr.ctx hcd) (tr.own .z) hs (by omega) (by simp)) ?_
 rintro _ _ ⟨m45, hm45, rfl, rfl⟩
 refine FJ.cat (.c .n) ?_
 simp only [List.mem_cons, List.not_mem_nil, or_false] at hm45
 refine FJ.sk (.s4 .z) ?_
 refine FJ.dq rfl rfl rfl (by decide) rfl (.s4 .z) (q_build (ps := [(0, .string t42), (1, .int .i64 m45)]) (cs := [.string t42, .int .i64 m45]) rfl bl_130 (by intro act hact; simp only [List.map_toArray, List.map_cons, List.map_nil, (show Val _ _ _ from (.t (.s .z))) act hact, (show Val _ _ _ from (.t .z)) act hact]) rfl) ?_
 refine FJ.e (goes_sch rfl rfl) rfl (by decide) rfl (e_buildSliceL (ps := [(0, .agg #[.string t42, .int .i64 m45])]) (cs := [.string t42, .int .i64 m45]) rfl u_28 (inz inf_130) (by decide) (by intro act hact; simp only [List.map_toArray, List.map_cons, List.map_nil, (show Val _ _ _ from (.t .z)) act hact]) rfl rfl (by decide) rfl rfl) ?_
 rintro _ _ ⟨g46, rfl, rfl⟩
 refine FJ.sk (.s4 (.s .z)) ?_
 refine FJ.turns (c := ownA kT_130 (⟨t42, m45⟩ : DEnt) [.string t42, .int .i64 m45]) .n (fun w S h => kT_130_omk (⟨t42, m45⟩ : DEnt) h (by first | assumption | omega | (dsimp only; omega))) ?_
 refine FJ.e (goes_sch rfl rfl) rfl (by decide) rfl (e_append1 rfl u_28 inf_130 rfl (.t (.s4 (.s (.s (.s .z))))) (.t .z) (.c (.s4 (.s .z)) (.c (.s .z) (.c .z .n))) (by first | omega | (simp only [List.length_append, List.length_cons, List.length_nil, List.length_replicate]; omega)) (by first | omega | (simp only [List.length_append, List.length_cons, List.length_nil, List.length_replicate]; omega))) ?_
 rintro _ _ rfl
 refine FJ.know (WS.oform .z) ?_
 rintro ⟨Ao48, co48, rfl, hlo48, hmo48, hbo48⟩
 refine FJ.sk (.s4 .z) ?_
 refine FJ.dq rfl rfl rfl (by decide) rfl (.s4 .z) (q_fieldAddr rfl (.t (.s16 (.s4 (.s (.s .z))))) (fun _ => fa_30_4 _ _)) ?_
 refine FJ.es (goes_sch rfl rfl) rfl (es_store (off := 4) (cs := [.slice Ao48 (nd3.ents ++ [(⟨t42, m45⟩ : DEnt)]).length co48]) rfl sz_28 (.t .z) (.t (.s .z)) rfl (ones rfl) (.s4 .z) (Nat.le_of_ble_eq_true rfl) (.c (.s (.s (.s (.s .z)))) .n)) ?_
 refine FJ.sl rfl ?_
 refine FJ.schN ?_
 refine FJ.drawN (by kernel_rfl) ?_
 refine FJ.inBN (FJ.then_ (FJ.seq (FJ.region ?_)))
 refine FJ.ql rfl (q_loadA (cs := [.int .i64 nd3.kind, .int .i64 nd3.links, .int .i64 nd3.size, .slice Ao9 nd3.blocks.length co9, .slice Ao48 (nd3.ents ++ [(⟨t42, m45⟩ : DEnt)]).length co48]) rfl ag_30 sz_30 (.t (.s16 (.s4 (.s (.s (.s .z)))))) (WS.rows0 .z (fun i u h => by exact h))) ?_
 refine FJ.es (goes_list rfl) rfl (es_store (off := 0) (cs := [.int .i64 nd3.kind, .int .i64 nd3.links, .int .i64 nd3.size, .slice Ao9 nd3.blocks.length co9, .slice Ao48 (nd3.ents ++ [(⟨t42, m45⟩ : DEnt)]).length co48]) rfl sz_30 (.t (.s16 (.s4 (.s4 (.s (.s (.s .z))))))) (.t .z) rfl (ones rfl) (.s4 (.s .z)) (Nat.le_of_ble_eq_true rfl) (.c .z (.c (.s .z) (.c (.s (.s .z)) (.c (.s (.s (.s .z))) (.c (.s (.s (.s (.s .z)))) .n)))))) ?_
 refine FJ.nil (FJ.then_ (FJ.ret ?_))
 refine FJ.doneS (resC (cs := [.int .i64 nd3.kind, .int .i64 nd3.links, .int .i64 nd3.size, .slice Ao9 nd3.blocks.length co9, .slice Ao48 (nd3.ents ++ [(⟨t42, m45⟩ : DEnt)]).length co48]) rfl (.s16 (.s4 (.s4 (.s (.s (.s .z)))))) ag_30 sz_30 (WS.rows0 (cs := [.int .i64 nd3.kind, .int .i64 nd3.links, .int .i64 nd3.size, .slice Ao9 nd3.blocks.length co9, .slice Ao48 (nd3.ents ++ [(⟨t42, m45⟩ : DEnt)]).length co48]) .z (fun _ _ h => h))) (.c (.s4 (.s .z)) (.c (.s (.s .z)) (.c (.s (.s .z)) .n))) ?_
 exact ⟨⟨nd3.kind, nd3.links, nd3.size, nd3.blocks, nd3.ents ++ [(⟨t42, m45⟩ : DEnt)]⟩, _, _, _, ⟨by first | omega | (dsimp only; omega) | (simp only [List.length_append, List.length_cons, List.length_nil, List.length_replicate]; omega), by first | omega | (dsimp only; omega) | (simp only [List.length_append, List.length_cons, List.length_nil, List.length_replicate]; omega), by omega, by omega⟩, rfl, rfl⟩
 refine FJ.skip (FJ.inBN (FJ.then_ (FJ.seq (FJ.region ?_))))
 refine FJ.ql rfl (q_loadA (cs := [.int .i64 nd3.kind, .int .i64 nd3.links, .int .i64 nd3.size, .slice Ao9 nd3.blocks.length co9, .slice Ao10 nd3.ents.length co10]) rfl ag_30 sz_30 (.t (.s4 (.s4 (.s4 .z)))) (WS.rows0 (.s .z) (fun i u h => by exact h))) ?_
 refine FJ.es (goes_list rfl) rfl (es_store (off := 0) (cs := [.int .i64 nd3.kind, .int .i64 nd3.links, .int .i64 nd3.size, .slice Ao9 nd3.blocks.length co9, .slice Ao10 nd3.ents.length co10]) rfl sz_30 (.t (.s16 .z)) (.t .z) rfl (ones rfl) (.s4 .z) (Nat.le_of_ble_eq_true rfl) (.c .z (.c (.s .z) (.c (.s (.s .z)) (.c (.s (.s (.s .z))) (.c (.s (.s (.s (.s .z)))) .n)))))) ?_
 refine FJ.nil (FJ.then_ (FJ.ret ?_))
 refine FJ.doneS (resC (cs := [.int .i64 nd3.kind, .int .i64 nd3.links, .int .i64 nd3.size, .slice Ao9 nd3.blocks.length co9, .slice Ao10 nd3.ents.length co10]) rfl (.s16 .z) ag_30 sz_30 (WS.rows0 (cs := [.int .i64 nd3.kind, .int .i64 nd3.links, .int .i64 nd3.size, .slice Ao9 nd3.blocks.length co9, .slice Ao10 nd3.ents.length co10]) .z (fun _ _ h => h))) (.c (.s (.s (.s .z))) (.c (.s (.s (.s .z))) (.c (.s .z) .n))) ?_
 exact ⟨⟨nd3.kind, nd3.links, nd3.size, nd3.blocks, nd3.ents⟩, _, _, _, ⟨by first | omega | (dsimp only; omega) | (simp only [List.length_append, List.length_cons, List.length_nil, List.length_replicate]; omega), by first | omega | (dsimp only; omega) | (simp only [List.length_append, List.length_cons, List.length_nil, List.length_replicate]; omega), by omega, by omega⟩, rfl, rfl⟩

end Go.Proofs.Ytoaebcjjfojfeaa
