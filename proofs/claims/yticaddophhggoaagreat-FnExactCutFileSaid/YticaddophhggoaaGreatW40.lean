/- What is proved: contracts of functions, one a function. No condition. -/
import Derived.Test.YticaddophhggoaaGreatW32
import Derived.Test.YticaddophhggoaaGreatBase2
namespace Go.Proofs.YticaddophhggoaaGreat
open Go Go.RowKit
set_option linter.unusedVariables false
set_option linter.unusedSimpArgs false
set_option maxHeartbeats 1000000 in
set_option maxRecDepth 20000 in
theorem c_57 {w0 : World} {S0 : Bs} {f : DFs} {ad0 : Addr} (h0 : PtrRo kT_31 w0 (FF w0 S0) ad0 f) (a : Int) {b : (List Int)} {v2 : Value} (h2 : kSl_2.ro w0 (FF w0 S0) b [v2])  :
    Calls Tryz.prog 57 #[.pointer (some ad0), .int .i64 a, v2] w0 (TriPost w0 S0 (fun r l => r = .int .i64 (wcode f a b) ∧ l = [])) := by
 obtain ⟨ec0, hF0, hr0, hc0⟩ := id h0
 obtain ⟨u0_0, u0_1, rfl, h0_0, h0_1⟩ := kT_31_ro hr0
 obtain ⟨A0_0, c0_0, rfl, hl0_0, hm0_0, hb0_0, he0_0⟩ := ro_form h0_0
 obtain ⟨A0_1, c0_1, rfl, hl0_1, hm0_1, hb0_1, he0_1⟩ := ro_form h0_1
 obtain ⟨A2, c2, rfl, hl2, hm2, hb2, he2⟩ := ro_form h2
 refine FJ.enter (N := 16) Tryz.func57 rfl rfl (by simp) [(0, .pointer (some ad0)), (1, .int .i64 a), (2, .slice A2 b.length c2)] (by simp) (l0 := []) trivial ?_
 refine FJ.seq (FJ.region (FJ.ql rfl (q_assign rfl .c) (FJ.nil (FJ.then_ ?_))))
 refine FJ.seq (FJ.seq (FJ.region (FJ.ql rfl (q_move rfl (.t (.s .z))) (FJ.ql rfl (q_move rfl (.t (.s (.s (.s .z))))) ?_))))
 refine FJ.call (goes_list rfl) rfl (by decide) rfl (c_call rfl Tryz.func113 rfl rfl (args2 (.t (.s .z)) (.t .z))) .n (fun w1 S1 hs tr => c_113 (tr.ctxP h0) _) ?_
 rintro _ _ ⟨rfl, rfl⟩
 refine FJ.cat .n ?_
 refine FJ.ql rfl (q_assign rfl (.t .z)) (FJ.nil (FJ.then_ (FJ.seq (FJ.region ?_))))
 refine FJ.ql rfl (q_move rfl (.t .z)) (FJ.ql rfl (q_neq rfl (.t .z) .c) (FJ.nil (FJ.then_ ?_)))
 refine FJ.condN (.t .z) (fun b4 => ?_) (fun b4 => ?_)
 refine FJ.seq (FJ.region (FJ.ql rfl (q_move rfl (.t (.s (.s .z)))) (FJ.er (.s4 (.s (.s (.s .z)))) (FJ.ql rfl (q_assign rfl (.t .z)) ?_))))
 refine FJ.nil (FJ.then_ (FJ.ret (FJ.thenR ?_)))
 refine FJ.doneS (res1 rfl .z) .n ?_
 exact ⟨by first | (rw [wcode_f (by assumption)]; done) | (rw [wcode_b (by assumption)]; done), rfl⟩
 refine FJ.skip (FJ.then_ (FJ.seq (FJ.region (FJ.ql rfl (q_move rfl (.t (.s4 (.s4 (.s .z))))) ?_))))
 refine FJ.call (goes_list rfl) rfl (by decide) rfl (c_call rfl Tryz.func114 rfl rfl (args1 (.t .z))) .n (fun w1 S1 hs tr => c_114 (tr.ctx h2)) ?_
 rintro _ _ ⟨rfl, rfl⟩
 refine FJ.cat .n ?_
 refine FJ.er (.s4 (.s4 .z)) (FJ.ql rfl (q_assign rfl (.t .z)) (FJ.nil (FJ.then_ (FJ.ret ?_))))
 refine FJ.doneS (res1 rfl .z) .n ?_
 exact ⟨by first | (rw [wcode_f (by assumption)]; done) | (rw [wcode_b (by assumption)]; done), rfl⟩

set_option maxHeartbeats 1000000 in
set_option maxRecDepth 20000 in
theorem c_64 {w0 : World} {S0 : Bs} {f : DFs} {v0_0 : Value} {v0_1 : Value} (c : Int) (hs : Star [ownA kSl_73 f.inodes [v0_0], ownA kSl_26 f.data [v0_1]] w0 S0)  :
    Calls Tryz.prog 64 #[.agg #[v0_0, v0_1], .int .i64 c] w0 (TriPost w0 S0 (RA_33 (fsR f c))) := by
 refine FJ.enter (N := 11) Tryz.func64 rfl rfl (by simp) [(0, .agg #[v0_0, v0_1]), (1, .int .i64 c)] (by simp) hs ?_
 refine FJ.know (WS.oform .z) ?_
 rintro ⟨Ao1, co1, rfl, hlo1, hmo1, hbo1⟩
 refine FJ.know (WS.oform (.s .z)) ?_
 rintro ⟨Ao2, co2, rfl, hlo2, hmo2, hbo2⟩
 refine FJ.seq (FJ.region ?_)
 refine FJ.e (goes_list rfl) rfl (by decide) rfl (e_box (cs := [.slice Ao1 f.inodes.length co1, .slice Ao2 f.data.length co2]) (n := 2) rfl (.t .z) rfl rfl) ?_
 rintro _ _ ⟨g3, rfl, rfl⟩
 refine FJ.e (goes_list rfl) rfl (by decide) rfl (e_alloc rfl z_33 rfl rfl) ?_
 rintro _ _ ⟨g4, rfl, rfl⟩
 refine FJ.nil (FJ.then_ (FJ.seq (FJ.seq (FJ.region ?_))))
 refine FJ.ql rfl (q_move rfl (.t (.s (.s (.s .z))))) (FJ.ql rfl (q_neq rfl (.t .z) .c) (FJ.nil (FJ.then_ ?_)))
 refine FJ.condN (.t .z) (fun b5 => ?_) (fun b5 => ?_)
 refine FJ.seq (FJ.region (FJ.ql rfl (q_move rfl (.t (.s4 (.s .z)))) ?_))
 refine FJ.ql rfl (q_build (ps := [(0, .int .i64 c)]) (cs := [.int .i64 c, .slice none 0 0, .slice none 0 0]) rfl bl_33 (by intro act hact; simp only [List.map_toArray, List.map_cons, List.map_nil, (show Val _ _ _ from (.t .z)) act hact]) rfl) ?_
 refine FJ.es (goes_list rfl) rfl (es_store (off := 0) (cs := [.int .i64 c, .slice none 0 0, .slice none 0 0]) rfl sz_33 (.t (.s4 .z)) (.t .z) rfl (ones rfl) .z (Nat.le_of_ble_eq_true rfl) (.c .z (.c (.s .z) (.c (.s (.s .z)) .n)))) ?_
 refine FJ.nil (FJ.then_ (FJ.ret (FJ.thenR ?_)))
 refine FJ.add (c := ownA kSl_73 [] [.slice none 0 0]) (fun w S => own_nil w S none) ?_
 refine FJ.add (c := ownA kSl_26 [] [.slice none 0 0]) (fun w S => own_nil w S none) ?_
 refine FJ.doneS (resC (cs := [.int .i64 c, .slice none 0 0, .slice none 0 0]) rfl (.s4 .z) ag_33 sz_33 (WS.rows0 (cs := [.int .i64 c, .slice none 0 0, .slice none 0 0]) (.s (.s .z)) (fun _ _ h => h))) (.c (.s .z) (.c .z .n)) ?_
 first | (rw [fsR_c (by assumption)]; exact ⟨_, _, rfl, rfl⟩) | (rw [fsR_0 (by omega)]; exact ⟨_, _, rfl, rfl⟩)
 refine FJ.skip (FJ.then_ (FJ.seq (FJ.region ?_)))
 refine FJ.ql rfl (q_loadA (cs := [.slice Ao1 f.inodes.length co1, .slice Ao2 f.data.length co2]) rfl ag_31 sz_31 (.t (.s (.s (.s .z)))) (WS.rows0 (.s .z) (fun i u h => by exact h))) ?_
 refine FJ.ql rfl (q_build (ps := [(1, .agg #[.slice Ao1 f.inodes.length co1, .slice Ao2 f.data.length co2])]) (cs := [.int .i64 0, .slice Ao1 f.inodes.length co1, .slice Ao2 f.data.length co2]) rfl bl_33 (by intro act hact; simp only [List.map_toArray, List.map_cons, List.map_nil, (show Val _ _ _ from (.t .z)) act hact]) rfl) ?_
 refine FJ.es (goes_list rfl) rfl (es_store (off := 0) (cs := [.int .i64 0, .slice Ao1 f.inodes.length co1, .slice Ao2 f.data.length co2]) rfl sz_33 (.t (.s4 .z)) (.t .z) rfl (ones rfl) .z (Nat.le_of_ble_eq_true rfl) (.c .z (.c (.s .z) (.c (.s (.s .z)) .n)))) ?_
 refine FJ.nil (FJ.then_ (FJ.ret ?_))
 refine FJ.doneS (resC (cs := [.int .i64 0, .slice Ao1 f.inodes.length co1, .slice Ao2 f.data.length co2]) rfl (.s4 .z) ag_33 sz_33 (WS.rows0 (cs := [.int .i64 0, .slice Ao1 f.inodes.length co1, .slice Ao2 f.data.length co2]) .z (fun _ _ h => h))) (.c (.s (.s .z)) (.c (.s (.s .z)) .n)) ?_
 first | (rw [fsR_c (by assumption)]; exact ⟨_, _, rfl, rfl⟩) | (rw [fsR_0 (by omega)]; exact ⟨_, _, rfl, rfl⟩)

set_option maxHeartbeats 1000000 in
set_option maxRecDepth 20000 in
theorem c_65 {w0 : World} {S0 : Bs} {f : DFs} {ad0 : Addr} {v0_0 : Value} {v0_1 : Value} (h0 : PtrRo (kraw 2 (by decide)) w0 (FF w0 S0) ad0 [v0_0, v0_1]) (a : Int) {L : (List UInt8)} {v2 : Value} (h2 : kSl_5.ro w0 (FF w0 S0) L [v2]) {b : (List Int)} {v3 : Value} (h3 : kSl_2.ro w0 (FF w0 S0) b [v3]) (hs : Star [ownA kSl_73 f.inodes [v0_0], ownA kSl_26 f.data [v0_1]] w0 S0) (hI : inodesFault f.inodes = 0) (hd : f.data.length = 20) (hp : placeIn f.inodes.length a) (hL : L.length ≤ 32) :
    Calls Tryz.prog 65 #[.pointer (some ad0), .int .i64 a, v2, v3] w0 (TriPost w0 S0 (fun r l => r = .int .i64 (pickB f L b).code ∧ l = [ownA kSl_73 (setQ f a L b).inodes [v0_0], ownA kSl_26 (setQ f a L b).data [v0_1]])) := by
 obtain ⟨ec0, hF0, ⟨rfl, -, -⟩, hc0⟩ := id h0
 obtain ⟨A2, c2, rfl, hl2, hm2, hb2, he2⟩ := ro_form h2
 obtain ⟨A3, c3, rfl, hl3, hm3, hb3, he3⟩ := ro_form h3
 obtain ⟨hp1a, hp2a⟩ := hp
 have hB := blocks_in hI a
 refine FJ.enter (N := 74) Tryz.func65 rfl rfl (by simp) [(0, .pointer (some ad0)), (1, .int .i64 a), (2, .slice A2 L.length c2), (3, .slice A3 b.length c3)] (by simp) hs ?_
 refine FJ.know (WS.oform .z) ?_
 rintro ⟨Ao3, co3, rfl, hlo3, hmo3, hbo3⟩
 refine FJ.know (WS.oform (.s .z)) ?_
 rintro ⟨Ao4, co4, rfl, hlo4, hmo4, hbo4⟩
 refine FJ.seq (FJ.region (FJ.ql rfl (q_assign rfl .c) (FJ.nil (FJ.then_ ?_))))
 refine FJ.seq ?_
 refine FJ.draw [] 13 (by kernel_rfl) ?_
 refine FJ.sch [(0, true), (1, true), (2, true), (3, true), (4, true), (5, true), (6, false), (7, false), (8, false), (9, true), (10, true), (11, true), (12, true), (13, false)] 0 #[true, true, true, true, true, true, true, true, true, true, true, true, true, true] (by rfl) (by kernel_rfl) ?_
 refine FJ.dq rfl rfl rfl (by decide) rfl (.s (.s .z)) (q_move rfl (.t (.s .z))) (FJ.dq rfl rfl rfl (by decide) rfl (.s (.s .z)) (q_nilCheck rfl (.t .z)) (FJ.dq rfl rfl rfl (by decide) rfl (.s (.s .z)) (q_fieldAddr rfl (.t .z) (fun _ => fa_31_0 _ _)) (FJ.dq rfl rfl rfl (by decide) rfl (.s (.s .z)) (q_load rfl ag_29 (.t .z) (WS.el hF0 hc0 rfl)) (FJ.dq rfl rfl rfl (by decide) rfl (.s (.s .z)) (q_move rfl (.t (.s4 (.s4 .z)))) ?_))))
 refine FJ.dq rfl rfl rfl (by decide) rfl (.s (.s .z)) (q_move rfl (.t (.s4 (.s4 .z)))) ?_
 refine FJ.call (goes_sch rfl rfl) rfl (by decide) rfl (c_call rfl Tryz.func125 rfl rfl (args1 (.t .z))) .n (fun w1 S1 hs tr => c_125 (tr.ctx h2)) ?_
 rintro _ _ ⟨rfl, rfl⟩
 refine FJ.cat .n ?_
 refine FJ.sk (.s (.s .z)) ?_
 refine FJ.call (goes_sch rfl rfl) rfl (by decide) rfl (c_call rfl Tryz.func124 rfl rfl (args1 (.t .z))) .n (fun w1 S1 hs tr => c_124 _ (by omega) (by omega)) ?_
 rintro _ _ ⟨rfl, rfl⟩
 refine FJ.cat .n ?_
 refine FJ.sk (.s (.s .z)) ?_
 refine FJ.call (goes_sch rfl rfl) rfl (by decide) rfl (c_call rfl Tryz.func123 rfl rfl (args3 (.t (.s4 .z)) (.t (.s (.s (.s .z)))) (.t .z))) .n (fun w1 S1 hs tr => c_123 (tr.own .z) (tr.ctx h3) _ (by first | assumption | (exact ask_ok (by assumption)))) ?_
 rintro _ _ ⟨v5, rfl, rfl⟩
 refine FJ.cat (.c .n) ?_
 refine FJ.know (WS.oform .z) ?_
 rintro ⟨Ao7, co7, rfl, hlo7, hmo7, hbo7⟩
 refine FJ.sk (.s (.s (.s .z))) ?_
 refine FJ.dq rfl rfl rfl (by decide) rfl (.s (.s (.s .z))) (q_move rfl (.t .z)) (FJ.dq rfl rfl rfl (by decide) rfl (.s (.s (.s .z))) (q_extract (v := .slice Ao7 ((pickOf f.inodes b (((L.length : Int) + 7) / 8)).list).length co7) rfl (.t .z) rfl) (FJ.dq rfl rfl rfl (by decide) rfl (.s (.s (.s .z))) (q_extract (v := .int .i64 ((pickOf f.inodes b (((L.length : Int) + 7) / 8)).code)) rfl (.t (.s .z)) rfl) (FJ.dq rfl rfl rfl (by decide) rfl (.s (.s (.s .z))) (q_assign rfl (.t (.s .z))) ?_)))
 refine FJ.q (goes_sch rfl rfl) rfl (by decide) rfl (q_assign rfl (.t (.s .z))) ?_
 refine FJ.sl rfl ?_
 refine FJ.schN ?_
 refine FJ.drawN (by kernel_rfl) ?_
 refine FJ.then_ (FJ.seq (FJ.seq (FJ.region (FJ.ql rfl (q_move rfl (.t .z)) ?_))))
 refine FJ.ql rfl (q_neq rfl (.t .z) .c) (FJ.nil (FJ.then_ ?_))
 refine FJ.condN (.t .z) (fun b8 => ?_) (fun b8 => ?_)
 have hp1 : pickOf f.inodes b (((L.length : Int) + 7) / 8) = (pickB f L b) := rfl
 have he9 : (pickOf f.inodes b (((L.length : Int) + 7) / 8)) = (pickB f L b) := hp1
 refine FJ.eq .z (congrArg (fun z_ : RInts => (.bool (!decide (z_.code = 0)) : Value)) he9) ?_
 refine FJ.eq (.s .z) (congrArg (fun z_ : RInts => (.int .i64 (z_.code) : Value)) he9) ?_
 refine FJ.eq (.s (.s .z)) (congrArg (fun z_ : RInts => (.int .i64 (z_.code) : Value)) he9) ?_
 refine FJ.eq (.s (.s (.s .z))) (congrArg (fun z_ : RInts => (.slice Ao7 (z_.list).length co7 : Value)) he9) ?_
 refine FJ.eq (.s4 .z) (congrArg (fun z_ : RInts => (.int .i64 (z_.code) : Value)) he9) ?_
 refine FJ.eq (.s4 (.s .z)) (congrArg (fun z_ : RInts => (.slice Ao7 (z_.list).length co7 : Value)) he9) ?_
 refine FJ.chEq .z (congrArg (fun z_ : RInts => (ownA kSl_2 (z_.list) [.slice Ao7 (z_.list).length co7] : Asn)) he9) ?_
 rw [hp1] at b8
 have hpn : ¬ (pickB f L b).code = 0 := b8
 refine FJ.seq (FJ.region (FJ.ql rfl (q_move rfl (.t (.s (.s (.s .z))))) (FJ.er (.s16 (.s .z)) (FJ.ql rfl (q_assign rfl (.t .z)) ?_))))
 refine FJ.nil (FJ.then_ (FJ.ret (FJ.thenR ?_)))
 refine FJ.doneS (res1 rfl .z) (.c (.s .z) (.c (.s .z) .n)) ?_
 first | (rw [setQ_f hpn]; exact ⟨rfl, rfl⟩) | (rw [setQ_0 hpc, hpc]; exact ⟨rfl, rfl⟩)
 have hp1 : pickOf f.inodes b (((L.length : Int) + 7) / 8) = (pickB f L b) := rfl
 have he10 : (pickOf f.inodes b (((L.length : Int) + 7) / 8)) = (pickB f L b) := hp1
 refine FJ.eq .z (congrArg (fun z_ : RInts => (.bool (!decide (z_.code = 0)) : Value)) he10) ?_
 refine FJ.eq (.s .z) (congrArg (fun z_ : RInts => (.int .i64 (z_.code) : Value)) he10) ?_
 refine FJ.eq (.s (.s .z)) (congrArg (fun z_ : RInts => (.int .i64 (z_.code) : Value)) he10) ?_
 refine FJ.eq (.s (.s (.s .z))) (congrArg (fun z_ : RInts => (.slice Ao7 (z_.list).length co7 : Value)) he10) ?_
 refine FJ.eq (.s4 .z) (congrArg (fun z_ : RInts => (.int .i64 (z_.code) : Value)) he10) ?_
 refine FJ.eq (.s4 (.s .z)) (congrArg (fun z_ : RInts => (.slice Ao7 (z_.list).length co7 : Value)) he10) ?_
 refine FJ.chEq .z (congrArg (fun z_ : RInts => (ownA kSl_2 (z_.list) [.slice Ao7 (z_.list).length co7] : Asn)) he10) ?_
 rw [hp1] at b8
 have hpc : (pickB f L b).code = 0 := b8
 have hpi := pick_in hpc
 have hpl : ((pickB f L b).list.length : Int) = ((L.length : Int) + 7) / 8 := hpi.2
 refine FJ.skip (FJ.then_ (FJ.seq (FJ.region (FJ.ql rfl (q_move rfl (.t (.s16 (.s .z)))) ?_))))
 refine FJ.ql rfl (q_move rfl (.t (.s16 (.s (.s (.s .z)))))) ?_
 refine FJ.call (goes_list rfl) rfl (by decide) rfl (c_call rfl Tryz.func126 rfl rfl (args2 (.t (.s .z)) (.t .z))) (.c (.s .z) (.c (.s .z) .n)) (fun w1 S1 hs tr => c_126 (f := f) (tr.ctxP h0) _ hs (by first | assumption | (constructor <;> omega)) (by assumption) (by assumption)) ?_
 rintro _ _ ⟨rfl, rfl⟩
 refine FJ.cat (.c (.c .n)) ?_
 refine FJ.ceq (x' := f.inodes) .z rfl ?_
 refine FJ.ceq (x' := dropAll f a) (.s .z) rfl ?_
 refine FJ.nil (FJ.then_ (FJ.seq (FJ.seq (FJ.region ?_))))
 refine FJ.ql rfl (q_move rfl (.t (.s4 (.s .z)))) (FJ.ql rfl (q_len rfl u_27 (.t .z)) (FJ.ql rfl (q_move rfl .c) (FJ.nil (FJ.then_ ?_))))
 refine FJ.block ?_
 refine FJ.ceq (x' := setD (dropAll f a) (pickB f L b).list L 0) .z rfl ?_
 refine FJ.loopi (γ := Nat) (fun k => [(35, .int .i64 (k : Int)), (34, .int .i64 (((pickB f L b).list).length : Int)), (33, .slice Ao7 ((pickB f L b).list).length co7), (9, .slice Ao7 ((pickB f L b).list).length co7), (8, .int .i64 0), (0, .pointer (some ad0)), (1, .int .i64 a), (2, .slice A2 L.length c2)]) (fun k => [ownA kSl_26 (setD (dropAll f a) (pickB f L b).list L k) [.slice Ao4 f.data.length co4], ownA kSl_73 f.inodes [.slice Ao3 f.inodes.length co3], ownA kSl_2 ((pickB f L b).list) [.slice Ao7 ((pickB f L b).list).length co7]]) (fun k => k ≤ (pickB f L b).list.length) (fun k => (pickB f L b).list.length - k) 0 (Nat.zero_le _) (.c .z (.c (.s .z) (.c (.s (.s .z)) (.c (.s4 (.s4 .z)) (.c (.s16 (.s4 (.s (.s .z)))) (.c (.s16 (.s4 (.s (.s (.s .z))))) (.c (.s16 (.s4 (.s4 .z))) (.c (.s16 (.s4 (.s4 (.s .z)))) .n)))))))) (fun _ h => h.sel (.c .z (.c .z (.c .z .n)))) ?_
 rintro k hk
 have hsl := (setD_len (data := dropAll f a) (bs := (pickB f L b).list) (L := L) k).trans (dropB_len _)
 refine FJ.seq (FJ.region (FJ.ql rfl (q_lss rfl (.t .z) (.t (.s .z))) (FJ.nil (FJ.then_ ?_))))
 refine FJ.seq ?_
 refine FJ.condP (.t .z) (fun b11 => ?_) (fun b11 => ?_)
 refine FJ.skip (FJ.then_ (FJ.seq (FJ.block (FJ.seq ?_))))
 refine FJ.region (FJ.ql rfl (q_move rfl (.t (.s .z))) ?_)
 refine FJ.know (WS.oad (.s (.s .z)) (by omega)) ?_
 rintro ⟨ad12, rfl⟩
 refine FJ.ql rfl (q_indexAddr (j := k) rfl u_27 sz_2 (.t (.s4 .z)) (.t (.s (.s .z))) rfl (by first | omega | (rw [hdl]; omega) | (rw [hsl]; omega))) ?_
 obtain ⟨x13, hx13⟩ := get_ex (xs := (pickB f L b).list) (j := k) (by first | omega | (rw [hdl]; omega) | (rw [hsl]; omega))
 have pbx13 := hpi.1 _ (List.mem_of_getElem? hx13)
 refine FJ.ql rfl (q_load rfl ag_2 (.t .z) (WS.oel (.s (.s .z)) hx13)) (FJ.ql rfl (q_assign rfl (.t (.s (.s .z)))) (FJ.ql rfl (q_assign rfl (.t (.s .z))) (FJ.nil (FJ.then_ ?_))))
 refine FJ.seq (FJ.region (FJ.ql rfl (q_move rfl (.t (.s .z))) ?_))
 refine FJ.ql rfl (q_add (c := ((k + 1 : Nat) : Int)) rfl (.t .z) .c (wr (by omega) (by omega) (by omega))) ?_
 refine FJ.ql rfl (q_mul (c := (((k + 1) * 8 : Nat) : Int)) rfl (.t .z) .c (wr (by omega) (by omega) (by omega))) ?_
 refine FJ.ql rfl (q_move rfl (.t (.s16 .z))) (FJ.ql rfl (q_len rfl u_26 (.t .z)) ?_)
 have hm14 := minI_spec (((k + 1) * 8 : Nat) : Int) (L.length : Int)
 refine FJ.ql rfl (q_min rfl (.t (.s (.s .z))) (.t .z)) (FJ.ql rfl (q_assign rfl (.t .z)) (FJ.nil (FJ.then_ ?_)))
 refine FJ.draw [ownA kSl_2 ((pickB f L b).list) [.slice (some ad12) ((pickB f L b).list).length co7]] 12 (by kernel_rfl) ?_
 refine FJ.sch [(0, true), (1, true), (2, true), (3, true), (4, true), (5, true), (6, true), (7, true), (8, true), (9, true), (10, false), (11, true), (12, false)] 0 #[true, true, true, true, true, true, true, true, true, true, true, true, true] (by rfl) (by kernel_rfl) ?_
 refine FJ.dq rfl rfl rfl (by decide) rfl (.s (.s .z)) (q_move rfl (.t (.s16 (.s (.s .z))))) (FJ.dq rfl rfl rfl (by decide) rfl (.s (.s .z)) (q_nilCheck rfl (.t .z)) (FJ.dq rfl rfl rfl (by decide) rfl (.s (.s .z)) (q_fieldAddr rfl (.t .z) (fun _ => fa_31_1 _ _)) (FJ.dq rfl rfl rfl (by decide) rfl (.s (.s .z)) (q_load rfl ag_23 (.t .z) (WS.el hF0 hc0 rfl)) (FJ.dq rfl rfl rfl (by decide) rfl (.s (.s .z)) (q_move rfl (.t (.s4 (.s4 (.s (.s (.s .z))))))) ?_))))
 refine FJ.dq rfl rfl rfl (by decide) rfl (.s (.s .z)) (q_move rfl (.t (.s16 (.s4 (.s4 (.s .z)))))) (FJ.dq rfl rfl rfl (by decide) rfl (.s (.s .z)) (q_move rfl (.t (.s4 (.s4 (.s4 (.s (.s .z))))))) ?_)
 refine FJ.dq rfl rfl rfl (by decide) rfl (.s (.s .z)) (q_mul (c := ((k * 8 : Nat) : Int)) rfl (.t .z) .c (wr (by omega) (by omega) (by omega))) ?_
 refine FJ.dq rfl rfl rfl (by decide) rfl (.s (.s .z)) (q_move rfl (.t (.s4 (.s4 .z)))) ?_
 refine FJ.eq .z (congrArg (Value.int .i64) (show minI (((k + 1) * 8 : Nat) : Int) (L.length : Int) = ((Int.toNat (minI (((k + 1) * 8 : Nat) : Int) (L.length : Int)) : Nat) : Int) by omega)) ?_
 obtain ⟨As15, hAs15⟩ : ∃ A' : Option Addr, A' = (if c2 = k * 8 then A2 else Option.map (fun z => Addr.add z ((k * 8) * 1)) A2) := ⟨_, rfl⟩
 have hs15 := ro_sub (a := k * 8) (b := Int.toNat (minI (((k + 1) * 8 : Nat) : Int) (L.length : Int))) hAs15 h2 (by omega) (by omega)
 have ls15 := subL_len (xs := L) (a := k * 8) (b := Int.toNat (minI (((k + 1) * 8 : Nat) : Int) (L.length : Int))) (by omega)
 refine FJ.dq rfl rfl rfl (by decide) rfl (.s (.s .z)) (q_sliceL (a := k * 8) (b := Int.toNat (minI (((k + 1) * 8 : Nat) : Int) (L.length : Int))) rfl u_26 sz_5 (.t (.s (.s (.s .z)))) hAs15 (.inr ⟨_, _, rfl, (.t (.s .z))⟩) (.inr ⟨_, _, rfl, (.t .z)⟩) (by omega) (by omega) (by omega)) ?_
 refine FJ.call (goes_sch rfl rfl) rfl (by decide) rfl (c_call rfl Tryz.func127 rfl rfl (args1 (.t .z))) .n (fun w1 S1 hs tr => c_127 (tr.ctx hs15)) ?_
 rintro _ _ rfl
 refine FJ.cat (.c .n) ?_
 refine FJ.know (WS.oform .z) ?_
 rintro ⟨Ao18, co18, rfl, hlo18, hmo18, hbo18⟩
 refine FJ.sk (.s (.s (.s .z))) ?_
 refine FJ.know (WS.oad (.s .z) (by omega)) ?_
 rintro ⟨ad19, rfl⟩
 refine FJ.dq rfl rfl rfl (by decide) rfl (.s (.s (.s .z))) (q_indexAddr (j := Int.toNat x13) rfl u_23 sz_26 (.t (.s4 (.s (.s (.s .z))))) (.t (.s4 (.s (.s .z)))) (by omega) (by first | omega | (rw [hdl]; omega) | (rw [hsl]; omega))) ?_
 refine FJ.es (goes_sch rfl rfl) rfl (es_set (j := Int.toNat x13) rfl sz_26 (.t .z) (.t (.s .z)) rfl (.c (.s .z) (.c .z .n)) (by first | omega | (rw [hdl]; omega) | (rw [hsl]; omega))) ?_
 refine FJ.ceq .z (by first | exact setD_s hx13 | rw [share_eq, setD_s hx13] | rw [share_eq', setD_s hx13]) ?_
 refine FJ.sl rfl ?_
 refine FJ.schN ?_
 refine FJ.drawN (by kernel_rfl) ?_
 refine FJ.inBN (FJ.then_ (FJ.region ?_))
 refine FJ.ql rfl (q_add (c := ((k + 1 : Nat) : Int)) rfl (.t (.s16 (.s4 (.s4 (.s .z))))) .c (wr (by omega) (by omega) (by omega))) ?_
 refine FJ.er (.s16 (.s4 (.s4 (.s (.s .z))))) (FJ.ql rfl (q_move rfl (.t .z)) (FJ.nil ?_))
 refine FJ.again (k + 1) (by omega) (by first | omega | (dsimp only; omega)) (.c .z (.c (.s16 (.s4 (.s4 (.s (.s (.s .z)))))) (.c (.s16 (.s4 (.s4 (.s4 .z)))) (.c (.s16 (.s4 (.s4 (.s4 (.s .z))))) (.c (.s16 (.s4 (.s4 (.s4 (.s (.s .z)))))) (.c (.s16 (.s4 (.s4 (.s4 (.s (.s (.s .z))))))) (.c (.s16 (.s16 .z)) (.c (.s16 (.s16 (.s .z))) .n)))))))) (fun _ h => h.sel (.c .z (.c .z (.c .z .n))))
 refine FJ.exit (FJ.thenE (FJ.thenE (FJ.inB (FJ.then_ ?_))))
 refine FJ.seq (FJ.region (FJ.ql rfl (q_move rfl (.t (.s4 (.s (.s .z))))) (FJ.ql rfl (q_nilCheck rfl (.t .z)) (FJ.ql rfl (q_fieldAddr rfl (.t .z) (fun _ => fa_31_0 _ _)) ?_))))
 refine FJ.ql rfl (q_load rfl ag_29 (.t .z) (WS.el hF0 hc0 rfl)) (FJ.ql rfl (q_move rfl (.t (.s4 (.s4 (.s (.s (.s .z))))))) ?_)
 refine FJ.open (.c (.s .z) .n) own_raw ?_
 rintro fc20 hlfc20
 obtain ⟨y21, hy21⟩ := get_ex (xs := f.inodes) (j := Int.toNat a) (by first | omega | (rw [hdl]; omega) | (rw [hsl]; omega))
 obtain ⟨c22, hc22⟩ := get_ex (xs := fc20) (j := Int.toNat a) (by rw [hlfc20]; exact (List.getElem?_eq_some_iff.1 hy21).1)
 refine FJ.turn (.s .z) (seq_split hy21 hc22) ?_
 refine FJ.open (.c .z .n) kT_73_op ?_
 rintro ⟨v23, v24⟩ rfl
 refine FJ.know (WS.oform .z) ?_
 rintro ⟨Ao27, co27, rfl, hlo27, hmo27, hbo27⟩
 refine FJ.know (WS.oform (.s .z)) ?_
 rintro ⟨Ao28, co28, rfl, hlo28, hmo28, hbo28⟩
 have nby21 := blocks_at (a := a) hy21 (by omega)
 have hby21 : ∀ b, b ∈ y21.blocks → 0 ≤ b ∧ b ≤ 19 := by rw [← nby21]; exact hB
 refine FJ.know (WS.oad (.s4 .z) (by omega)) ?_
 rintro ⟨ad29, rfl⟩
 refine FJ.ql rfl (q_indexAddr (j := Int.toNat a) rfl u_29 sz_73 (.t (.s .z)) (.t .z) (by omega) (by first | omega | (rw [hdl]; omega) | (rw [hsl]; omega))) ?_
 refine FJ.ql rfl (q_assign rfl (.t .z)) (FJ.nil (FJ.then_ (FJ.seq (FJ.region ?_))))
 refine FJ.ql rfl (q_move rfl (.t .z)) (FJ.ql rfl (q_move rfl (.t (.s .z))) (FJ.ql rfl (q_move rfl (.t (.s4 (.s4 (.s4 (.s .z)))))) (FJ.ql rfl (q_move rfl (.t (.s16 (.s (.s .z))))) ?_)))
 refine FJ.call (goes_list rfl) rfl (by decide) rfl (c_call rfl Tryz.func125 rfl rfl (args1 (.t .z))) .n (fun w1 S1 hs tr => c_125 (tr.ctx h2)) ?_
 rintro _ _ ⟨rfl, rfl⟩
 refine FJ.cat .n ?_
 refine FJ.ql rfl (q_nilCheck rfl (.t (.s4 .z))) (FJ.ql rfl (q_fieldAddr rfl (.t .z) (fun _ => fa_73_3 _ _)) ?_)
 refine FJ.es (goes_list rfl) rfl (es_raw (j := Int.toNat a) (off := 3) (cs := [.slice Ao7 ((pickB f L b).list).length co7]) rfl sz_27 (.t .z) (add_add _ _ _) (.t (.s4 .z)) rfl (ones rfl) (.s4 .z) hc22 (Nat.le_of_ble_eq_true rfl)) ?_
 refine FJ.ceq (x' := List.set fc20 (Int.toNat a) [.int .i64 y21.kind, .int .i64 y21.links, .int .i64 y21.size, .slice Ao7 ((pickB f L b).list).length co7, .slice Ao28 y21.ents.length co28]) .z rfl ?_
 refine FJ.ql rfl (q_nilCheck rfl (.t (.s4 (.s .z)))) (FJ.ql rfl (q_fieldAddr rfl (.t .z) (fun _ => fa_73_2 _ _)) ?_)
 refine FJ.es (goes_list rfl) rfl (es_raw (j := Int.toNat a) (off := 2) (cs := [.int .i64 (L.length : Int)]) rfl sz_2 (.t .z) (add_add _ _ _) (.t (.s4 .z)) rfl (ones rfl) .z (set_get hc22) (Nat.le_of_ble_eq_true rfl)) ?_
 refine FJ.ceq (x' := List.set fc20 (Int.toNat a) [.int .i64 y21.kind, .int .i64 y21.links, .int .i64 (L.length : Int), .slice Ao7 ((pickB f L b).list).length co7, .slice Ao28 y21.ents.length co28]) .z (List.set_set ..) ?_
 refine FJ.nil (FJ.then_ (FJ.seq (FJ.region (FJ.er (.s16 (.s4 (.s .z))) ?_))))
 refine FJ.ql rfl (q_assign rfl .c) (FJ.nil (FJ.then_ (FJ.ret ?_)))
 refine FJ.turns (c := ownA kT_73 (⟨y21.kind, y21.links, (L.length : Int), (pickB f L b).list, y21.ents⟩ : DInode) [.int .i64 y21.kind, .int .i64 y21.links, .int .i64 (L.length : Int), .slice Ao7 ((pickB f L b).list).length co7, .slice Ao28 y21.ents.length co28]) (.c (.s4 (.s (.s .z))) (.c (.s (.s .z)) .n)) (fun w S h => kT_73_omk (⟨y21.kind, y21.links, (L.length : Int), (pickB f L b).list, y21.ents⟩ : DInode) h) ?_
 refine FJ.turns (c := ownA kSl_73 (List.set f.inodes (Int.toNat a) (⟨y21.kind, y21.links, (L.length : Int), (pickB f L b).list, y21.ents⟩ : DInode)) [.slice (some ad29) f.inodes.length co3]) (.c (.s .z) (.c .z (.c (.s .z) (.c (.s .z) .n)))) (own_unfocus (K := kT_73) hlfc20 (List.getElem?_eq_some_iff.1 hy21).1 rfl) ?_
 have he32 : List.set f.inodes (Int.toNat a) (⟨y21.kind, y21.links, (L.length : Int), (pickB f L b).list, y21.ents⟩ : DInode) = withB f.inodes a (L.length : Int) (pickB f L b).list := (withB_at hy21 (by omega))
 refine FJ.chEq .z (congrArg (fun z_ => (ownA kSl_73 (z_) [.slice (some ad29) f.inodes.length co3] : Asn)) he32) ?_
 refine FJ.ceq (x' := setD (dropAll f a) (pickB f L b).list L (pickB f L b).list.length) (.s (.s .z)) (by rw [show k = (pickB f L b).list.length by omega]) ?_
 refine FJ.doneS (res1 rfl .z) (.c (.s .z) (.c .z .n)) ?_
 first | (rw [setQ_f hpn]; exact ⟨rfl, rfl⟩) | (rw [setQ_0 hpc, hpc]; exact ⟨rfl, rfl⟩)

set_option maxHeartbeats 1000000 in
set_option maxRecDepth 20000 in
theorem c_58 {w0 : World} {S0 : Bs} {f : DFs} {cs0 : List Value} (h0 : kT_31.ro w0 (FF w0 S0) f cs0) (a : Int) {L : (List UInt8)} {v2 : Value} (h2 : kSl_5.ro w0 (FF w0 S0) L [v2]) {b : (List Int)} {v3 : Value} (h3 : kSl_2.ro w0 (FF w0 S0) b [v3]) (ht : treeFault f = 0) (hp : placeIn f.inodes.length a) (hbz : busyFault b = 0) :
    Calls Tryz.prog 58 #[.agg cs0.toArray, .int .i64 a, v2, v3] w0 (TriPost w0 S0 (RA_33 (setG f a L b))) := by
 obtain ⟨u0_0, u0_1, rfl, h0_0, h0_1⟩ := kT_31_ro h0
 obtain ⟨A0_0, c0_0, rfl, hl0_0, hm0_0, hb0_0, he0_0⟩ := ro_form h0_0
 obtain ⟨A0_1, c0_1, rfl, hl0_1, hm0_1, hb0_1, he0_1⟩ := ro_form h0_1
 obtain ⟨A2, c2, rfl, hl2, hm2, hb2, he2⟩ := ro_form h2
 obtain ⟨A3, c3, rfl, hl3, hm3, hb3, he3⟩ := ro_form h3
 have hI := treeI ht
 have hd := data_20 ht
 obtain ⟨hp1a, hp2a⟩ := hp
 have hB := blocks_in hI a
 have hpk : pickR f.inodes b (((L.length : Int) + 7) / 8) = pickB f L b := pickR_0 (ask_0 hI hbz)
 refine FJ.enter (N := 104) Tryz.func58 rfl rfl (by simp) [(0, .agg #[.slice A0_0 f.inodes.length c0_0, .slice A0_1 f.data.length c0_1]), (1, .int .i64 a), (2, .slice A2 L.length c2), (3, .slice A3 b.length c3)] (by simp) (l0 := []) trivial ?_
 refine FJ.seq (FJ.region ?_)
 refine FJ.e (goes_list rfl) rfl (by decide) rfl (e_box (cs := [.slice A0_0 f.inodes.length c0_0, .slice A0_1 f.data.length c0_1]) (n := 2) rfl (.t .z) rfl rfl) ?_
 rintro _ _ ⟨g5, rfl, rfl⟩
 refine FJ.e (goes_list rfl) rfl (by decide) rfl (e_alloc rfl z_33 rfl rfl) ?_
 rintro _ _ ⟨g6, rfl, rfl⟩
 refine FJ.nil (FJ.then_ (FJ.seq (FJ.seq (FJ.region ?_))))
 refine FJ.ql rfl (q_move rfl (.t (.s4 .z))) (FJ.ql rfl (q_len rfl u_26 (.t .z)) ?_)
 refine FJ.call (goes_list rfl) rfl (by decide) rfl (c_call rfl Tryz.func75 rfl rfl (args1 (.t .z))) .n (fun w1 S1 hs tr => c_75 _) ?_
 rintro _ _ ⟨rfl, rfl⟩
 refine FJ.cat .n ?_
 refine FJ.ql rfl (q_not rfl (.t .z)) (FJ.nil (FJ.then_ ?_))
 refine FJ.condN (.t .z) (fun b7 => ?_) (fun b7 => ?_)
 refine FJ.seq (FJ.region ?_)
 refine FJ.ql rfl (q_build (ps := [(0, .int .i64 2)]) (cs := [.int .i64 2, .slice none 0 0, .slice none 0 0]) rfl bl_33 (by intro act hact; simp only [List.map_toArray, List.map_cons, List.map_nil, (show Val _ _ _ from .c) act hact]) rfl) ?_
 refine FJ.es (goes_list rfl) rfl (es_store (off := 0) (cs := [.int .i64 2, .slice none 0 0, .slice none 0 0]) rfl sz_33 (.t (.s4 (.s .z))) (.t .z) rfl (ones rfl) .z (Nat.le_of_ble_eq_true rfl) (.c .z (.c (.s .z) (.c (.s (.s .z)) .n)))) ?_
 refine FJ.nil (FJ.then_ (FJ.ret (FJ.thenR ?_)))
 refine FJ.add (c := ownA kSl_73 [] [.slice none 0 0]) (fun w S => own_nil w S none) ?_
 refine FJ.add (c := ownA kSl_26 [] [.slice none 0 0]) (fun w S => own_nil w S none) ?_
 refine FJ.doneS (resC (cs := [.int .i64 2, .slice none 0 0, .slice none 0 0]) rfl (.s4 (.s .z)) ag_33 sz_33 (WS.rows0 (cs := [.int .i64 2, .slice none 0 0, .slice none 0 0]) (.s (.s .z)) (fun _ _ h => h))) (.c (.s .z) (.c .z .n)) ?_
 first | (rw [setG_2 (by omega)]; exact ⟨_, _, rfl, rfl⟩) | (rw [setG_p (by omega) hpn]; exact ⟨_, _, rfl, rfl⟩) | (rw [setG_0 (by omega) hpc]; exact ⟨_, _, rfl, rfl⟩)
 refine FJ.skip (FJ.then_ (FJ.seq ?_))
 refine FJ.draw [rowA g6 33 3 1 [.int .i64 0, .slice none 0 0, .slice none 0 0], rowA g5 31 2 1 [.slice A0_0 f.inodes.length c0_0, .slice A0_1 f.data.length c0_1]] 8 (by kernel_rfl) ?_
 refine FJ.sch [(0, true), (1, true), (2, true), (3, true), (4, true)] 4 #[true, true, true, true, true, false, false, false, false] (by rfl) (by kernel_rfl) ?_
 refine FJ.dq rfl rfl rfl (by decide) rfl .z (q_fieldAddr rfl (.t (.s4 (.s .z))) (fun _ => fa_31_0 _ _)) (FJ.dq rfl rfl rfl (by decide) rfl .z (q_load rfl ag_29 (.t .z) (WS.row (.s .z) rfl)) (FJ.dq rfl rfl rfl (by decide) rfl .z (q_move rfl (.t (.s4 (.s4 (.s (.s (.s .z))))))) (FJ.dq rfl rfl rfl (by decide) rfl .z (q_move rfl (.t (.s4 (.s4 (.s (.s (.s .z))))))) (FJ.dq rfl rfl rfl (by decide) rfl .z (q_len rfl u_26 (.t .z)) ?_))))
 refine FJ.schN ?_
 refine FJ.fork2 (i := 5) (j := 7) (by kernel_rfl) ?_ ?_
 refine FJ.call (goes_sch rfl rfl) rfl (by decide) rfl (c_call rfl Tryz.func116 rfl rfl (args1 (.t .z))) .n (fun w1 S1 hs tr => c_116 _ (by omega) (by omega)) ?_
 rintro _ _ ⟨rfl, rfl⟩
 refine FJ.cat .n ?_
 refine FJ.sk .z ?_
 refine FJ.schN ?_
 refine FJ.sch [] 3 #[true, true, true, true, true, true, false, false, false] (by rfl) (by kernel_rfl) ?_
 refine FJ.schN ?_
 refine FJ.fork2 (i := 6) (j := 7) (by kernel_rfl) ?_ ?_
 refine FJ.call (goes_sch rfl rfl) rfl (by decide) rfl (c_call rfl Tryz.func115 rfl rfl (args3 (.t (.s4 .z)) (.t (.s (.s (.s .z)))) (.t .z))) .n (fun w1 S1 hs tr => c_115 (tr.ctx h0_0) (tr.ctx h3) _) ?_
 rintro _ _ ⟨v10, rfl, rfl⟩
 refine FJ.cat (.c .n) ?_
 refine FJ.know (WS.oform .z) ?_
 rintro ⟨Ao12, co12, rfl, hlo12, hmo12, hbo12⟩
 refine FJ.sk (.s .z) ?_
 refine FJ.schN ?_
 refine FJ.sch [(7, false), (8, false)] 0 #[true, true, true, true, true, true, true, true, true] (by rfl) (by kernel_rfl) ?_
 refine FJ.e (goes_sch rfl rfl) rfl (by decide) rfl (e_alloc rfl z_143 rfl rfl) ?_
 rintro _ _ ⟨g13, rfl, rfl⟩
 refine FJ.sk (.s (.s .z)) ?_
 refine FJ.es (goes_sch rfl rfl) rfl (es_store (off := 0) (cs := [.int .i64 ((pickR f.inodes b (((L.length : Int) + 7) / 8)).code), .slice Ao12 ((pickR f.inodes b (((L.length : Int) + 7) / 8)).list).length co12]) rfl sz_143 (.t .z) (.t (.s .z)) rfl (ones rfl) .z (Nat.le_of_ble_eq_true rfl) (.c .z (.c (.s .z) .n))) ?_
 refine FJ.sl rfl ?_
 refine FJ.schN ?_
 refine FJ.drawN (by kernel_rfl) ?_
 refine FJ.then_ (FJ.seq (FJ.seq (FJ.region (FJ.ql rfl (q_fieldAddr rfl (.t .z) (fun _ => fa_143_0 _ _)) ?_))))
 refine FJ.ql rfl (q_load rfl ag_2 (.t .z) (WS.row .z rfl)) (FJ.ql rfl (q_neq rfl (.t .z) .c) (FJ.nil (FJ.then_ ?_)))
 refine FJ.condN (.t .z) (fun b14 => ?_) (fun b14 => ?_)
 rw [hpk] at b14
 have he15 : (pickR f.inodes b (((L.length : Int) + 7) / 8)) = (pickB f L b) := hpk
 refine FJ.eq .z (congrArg (fun z_ : RInts => (.bool (!decide (z_.code = 0)) : Value)) he15) ?_
 refine FJ.eq (.s .z) (congrArg (fun z_ : RInts => (.int .i64 (z_.code) : Value)) he15) ?_
 refine FJ.eq (.s4 .z) (congrArg (fun z_ : RInts => (.agg #[.int .i64 (z_.code), .slice Ao12 (z_.list).length co12] : Value)) he15) ?_
 refine FJ.chEq .z (congrArg (fun z_ : RInts => (rowA g13 143 2 1 [.int .i64 (z_.code), .slice Ao12 (z_.list).length co12] : Asn)) he15) ?_
 refine FJ.chEq (.s .z) (congrArg (fun z_ : RInts => (ownA kSl_2 (z_.list) [.slice Ao12 (z_.list).length co12] : Asn)) he15) ?_
 have hpn : ¬ (pickB f L b).code = 0 := b14
 refine FJ.seq (FJ.region (FJ.ql rfl (q_fieldAddr rfl (.t (.s4 .z)) (fun _ => fa_143_0 _ _)) (FJ.ql rfl (q_load rfl ag_2 (.t .z) (WS.row (.s .z) rfl)) ?_)))
 refine FJ.ql rfl (q_build (ps := [(0, .int .i64 ((pickB f L b).code))]) (cs := [.int .i64 ((pickB f L b).code), .slice none 0 0, .slice none 0 0]) rfl bl_33 (by intro act hact; simp only [List.map_toArray, List.map_cons, List.map_nil, (show Val _ _ _ from (.t .z)) act hact]) rfl) ?_
 refine FJ.es (goes_list rfl) rfl (es_store (off := 0) (cs := [.int .i64 ((pickB f L b).code), .slice none 0 0, .slice none 0 0]) rfl sz_33 (.t (.s16 (.s (.s .z)))) (.t .z) rfl (ones rfl) (.s (.s .z)) (Nat.le_of_ble_eq_true rfl) (.c .z (.c (.s .z) (.c (.s (.s .z)) .n)))) ?_
 refine FJ.nil (FJ.then_ (FJ.ret (FJ.thenR ?_)))
 refine FJ.add (c := ownA kSl_73 [] [.slice none 0 0]) (fun w S => own_nil w S none) ?_
 refine FJ.add (c := ownA kSl_26 [] [.slice none 0 0]) (fun w S => own_nil w S none) ?_
 refine FJ.doneS (resC (cs := [.int .i64 ((pickB f L b).code), .slice none 0 0, .slice none 0 0]) rfl (.s16 (.s (.s .z))) ag_33 sz_33 (WS.rows0 (cs := [.int .i64 ((pickB f L b).code), .slice none 0 0, .slice none 0 0]) (.s (.s .z)) (fun _ _ h => h))) (.c (.s .z) (.c .z .n)) ?_
 first | (rw [setG_2 (by omega)]; exact ⟨_, _, rfl, rfl⟩) | (rw [setG_p (by omega) hpn]; exact ⟨_, _, rfl, rfl⟩) | (rw [setG_0 (by omega) hpc]; exact ⟨_, _, rfl, rfl⟩)
 rw [hpk] at b14
 have he18 : (pickR f.inodes b (((L.length : Int) + 7) / 8)) = (pickB f L b) := hpk
 refine FJ.eq .z (congrArg (fun z_ : RInts => (.bool (!decide (z_.code = 0)) : Value)) he18) ?_
 refine FJ.eq (.s .z) (congrArg (fun z_ : RInts => (.int .i64 (z_.code) : Value)) he18) ?_
 refine FJ.eq (.s4 .z) (congrArg (fun z_ : RInts => (.agg #[.int .i64 (z_.code), .slice Ao12 (z_.list).length co12] : Value)) he18) ?_
 refine FJ.chEq .z (congrArg (fun z_ : RInts => (rowA g13 143 2 1 [.int .i64 (z_.code), .slice Ao12 (z_.list).length co12] : Asn)) he18) ?_
 refine FJ.chEq (.s .z) (congrArg (fun z_ : RInts => (ownA kSl_2 (z_.list) [.slice Ao12 (z_.list).length co12] : Asn)) he18) ?_
 have hpc : (pickB f L b).code = 0 := b14
 have hpi := pick_in hpc
 have hpl : ((pickB f L b).list.length : Int) = ((L.length : Int) + 7) / 8 := hpi.2
 refine FJ.skip (FJ.then_ (FJ.seq (FJ.region ?_)))
 refine FJ.ql rfl (q_loadA (cs := [.slice A0_0 f.inodes.length c0_0, .slice A0_1 f.data.length c0_1]) rfl ag_31 sz_31 (.t (.s16 .z)) (WS.rows0 (.s (.s (.s .z))) (fun i u h => by exact h))) ?_
 refine FJ.call (goes_list rfl) rfl (by decide) rfl (c_call rfl Tryz.func72 rfl rfl (args1 (.t .z))) .n (fun w1 S1 hs tr => c_72 (kT_31_mk f (tr.ctx h0_0) (tr.ctx h0_1))) ?_
 rintro _ _ ⟨v19, v21, rfl, rfl⟩
 refine FJ.cat (.c (.c .n)) ?_
 refine FJ.know (WS.oform .z) ?_
 rintro ⟨Ao23, co23, rfl, hlo23, hmo23, hbo23⟩
 refine FJ.know (WS.oform (.s .z)) ?_
 rintro ⟨Ao24, co24, rfl, hlo24, hmo24, hbo24⟩
 refine FJ.e (goes_list rfl) rfl (by decide) rfl (e_alloc rfl z_31 rfl rfl) ?_
 rintro _ _ ⟨g25, rfl, rfl⟩
 refine FJ.es (goes_list rfl) rfl (es_store (off := 0) (cs := [.slice Ao23 f.inodes.length co23, .slice Ao24 f.data.length co24]) rfl sz_31 (.t .z) (.t (.s .z)) rfl (ones rfl) .z (Nat.le_of_ble_eq_true rfl) (.c .z (.c (.s .z) .n))) ?_
 refine FJ.nil (FJ.then_ (FJ.seq (FJ.region (FJ.ql rfl (q_fieldAddr rfl (.t .z) (fun _ => fa_31_0 _ _)) ?_))))
 refine FJ.ql rfl (q_load rfl ag_29 (.t .z) (WS.row .z rfl)) (FJ.ql rfl (q_move rfl (.t (.s16 (.s4 (.s (.s (.s .z))))))) ?_)
 refine FJ.open (.c (.s .z) .n) own_raw ?_
 rintro fc26 hlfc26
 obtain ⟨y27, hy27⟩ := get_ex (xs := f.inodes) (j := Int.toNat a) (by first | omega | (rw [hdl]; omega) | (rw [hsl]; omega))
 obtain ⟨c28, hc28⟩ := get_ex (xs := fc26) (j := Int.toNat a) (by rw [hlfc26]; exact (List.getElem?_eq_some_iff.1 hy27).1)
 refine FJ.turn (.s .z) (seq_split hy27 hc28) ?_
 refine FJ.open (.c .z .n) kT_73_op ?_
 rintro ⟨v29, v30⟩ rfl
 refine FJ.know (WS.oform .z) ?_
 rintro ⟨Ao33, co33, rfl, hlo33, hmo33, hbo33⟩
 refine FJ.know (WS.oform (.s .z)) ?_
 rintro ⟨Ao34, co34, rfl, hlo34, hmo34, hbo34⟩
 have nby27 := blocks_at (a := a) hy27 (by omega)
 have hby27 : ∀ b, b ∈ y27.blocks → 0 ≤ b ∧ b ≤ 19 := by rw [← nby27]; exact hB
 refine FJ.know (WS.oad (.s4 .z) (by omega)) ?_
 rintro ⟨ad35, rfl⟩
 refine FJ.ql rfl (q_indexAddr (j := Int.toNat a) rfl u_29 sz_73 (.t (.s .z)) (.t .z) (by omega) (by first | omega | (rw [hdl]; omega) | (rw [hsl]; omega))) ?_
 refine FJ.ql rfl (q_assign rfl (.t .z)) (FJ.nil (FJ.then_ (FJ.seq (FJ.seq ?_))))
 refine FJ.region (FJ.ql rfl (q_assign rfl .c) (FJ.nil (FJ.then_ (FJ.block ?_))))
 refine FJ.ceq (x' := dropB f.data y27.blocks 0) (.s4 (.s (.s .z))) rfl ?_
 refine FJ.loopi (γ := Nat) (fun k => [(12, .int .i64 (k : Int)), (11, .pointer (some (Addr.add ad35 ((Int.toNat a) * 5)))), (10, .pointer (some ⟨g25, 0, none⟩)), (9, .pointer (some ⟨g13, 0, none⟩)), (8, .pointer (some ⟨g6, 0, none⟩)), (2, .slice A2 L.length c2)]) (fun k => [ownA kSl_26 (dropB f.data y27.blocks k) [.slice Ao24 f.data.length co24], ownA kSl_2 y27.blocks [.slice Ao33 y27.blocks.length co33], ownA kSl_151 y27.ents [.slice Ao34 y27.ents.length co34], seqC kT_73 (List.take (Int.toNat a) f.inodes) (List.take (Int.toNat a) fc26), seqC kT_73 (List.drop (Int.toNat a + 1) f.inodes) (List.drop (Int.toNat a + 1) fc26), ownA (kslice 73 72 (kraw kT_73.sz kT_73.pos)) fc26 [.slice (some ad35) f.inodes.length co23], rowA g25 31 2 1 [.slice (some ad35) f.inodes.length co23, .slice Ao24 f.data.length co24], ownA kSl_2 ((pickB f L b).list) [.slice Ao12 ((pickB f L b).list).length co12], rowA g13 143 2 1 [.int .i64 ((pickB f L b).code), .slice Ao12 ((pickB f L b).list).length co12], rowA g6 33 3 1 [.int .i64 0, .slice none 0 0, .slice none 0 0], rowA g5 31 2 1 [.slice A0_0 f.inodes.length c0_0, .slice A0_1 f.data.length c0_1]]) (fun k => k ≤ y27.blocks.length) (fun k => y27.blocks.length - k) 0 (Nat.zero_le _) (.c .z (.c (.s .z) (.c (.s4 (.s (.s .z))) (.c (.s4 (.s4 (.s4 (.s .z)))) (.c (.s16 (.s4 (.s4 .z))) (.c (.s16 (.s4 (.s4 (.s4 .z)))) .n)))))) (fun _ h => h.sel (.c .z (.c .z (.c .z (.c .z (.c .z (.c .z (.c .z (.c .z (.c .z (.c .z (.c .z .n)))))))))))) ?_
 rintro k hk
 have hdl := dropB_len (data := f.data) (bs := y27.blocks) k
 refine FJ.seq (FJ.seq (FJ.region (FJ.ql rfl (q_move rfl (.t .z)) (FJ.ql rfl (q_move rfl (.t (.s (.s .z)))) ?_))))
 refine FJ.ql rfl (q_nilCheck rfl (.t .z)) (FJ.ql rfl (q_fieldAddr rfl (.t .z) (fun _ => fa_73_3 _ _)) (FJ.ql rfl (q_load rfl ag_27 (.t .z) (WS.raw (.s4 (.s .z)) hc28 rfl)) (FJ.ql rfl (q_len rfl u_27 (.t .z)) (FJ.ql rfl (q_lss rfl (.t (.s4 (.s .z))) (.t .z)) ?_))))
 refine FJ.nil (FJ.then_ ?_)
 refine FJ.condP (.t .z) (fun b37 => ?_) (fun b37 => ?_)
 refine FJ.skip (FJ.then_ (FJ.seq (FJ.block ?_)))
 refine FJ.draw [ownA kSl_26 (dropB f.data y27.blocks k) [.slice Ao24 f.data.length co24], ownA kSl_2 y27.blocks [.slice Ao33 y27.blocks.length co33], ownA kSl_151 y27.ents [.slice Ao34 y27.ents.length co34], seqC kT_73 (List.take (Int.toNat a) f.inodes) (List.take (Int.toNat a) fc26), seqC kT_73 (List.drop (Int.toNat a + 1) f.inodes) (List.drop (Int.toNat a + 1) fc26), ownA (kslice 73 72 (kraw kT_73.sz kT_73.pos)) fc26 [.slice (some ad35) f.inodes.length co23], rowA g25 31 2 1 [.slice (some ad35) f.inodes.length co23, .slice Ao24 f.data.length co24], ownA kSl_2 ((pickB f L b).list) [.slice Ao12 ((pickB f L b).list).length co12], rowA g13 143 2 1 [.int .i64 ((pickB f L b).code), .slice Ao12 ((pickB f L b).list).length co12], rowA g6 33 3 1 [.int .i64 0, .slice none 0 0, .slice none 0 0], rowA g5 31 2 1 [.slice A0_0 f.inodes.length c0_0, .slice A0_1 f.data.length c0_1]] 10 (by kernel_rfl) ?_
 refine FJ.sch [(0, true), (1, true), (2, true), (3, true), (4, true), (5, true), (6, true), (7, true), (8, true), (9, true), (10, false)] 0 #[true, true, true, true, true, true, true, true, true, true, true] (by rfl) (by kernel_rfl) ?_
 refine FJ.dq rfl rfl rfl (by decide) rfl .z (q_fieldAddr rfl (.t (.s4 (.s4 (.s .z)))) (fun _ => fa_31_1 _ _)) (FJ.dq rfl rfl rfl (by decide) rfl .z (q_load rfl ag_23 (.t .z) (WS.row (.s4 (.s (.s .z))) rfl)) (FJ.dq rfl rfl rfl (by decide) rfl .z (q_move rfl (.t (.s4 (.s4 (.s (.s .z)))))) (FJ.dq rfl rfl rfl (by decide) rfl .z (q_nilCheck rfl (.t .z)) (FJ.dq rfl rfl rfl (by decide) rfl .z (q_fieldAddr rfl (.t .z) (fun _ => fa_73_3 _ _)) ?_))))
 refine FJ.dq rfl rfl rfl (by decide) rfl .z (q_load rfl ag_27 (.t .z) (WS.raw (.s4 (.s .z)) hc28 rfl)) (FJ.dq rfl rfl rfl (by decide) rfl .z (q_move rfl (.t (.s4 (.s4 (.s4 (.s .z)))))) ?_)
 refine FJ.know (WS.oad (.s .z) (by omega)) ?_
 rintro ⟨ad38, rfl⟩
 refine FJ.dq rfl rfl rfl (by decide) rfl .z (q_indexAddr (j := k) rfl u_27 sz_2 (.t (.s .z)) (.t .z) rfl (by first | omega | (rw [hdl]; omega) | (rw [hsl]; omega))) ?_
 obtain ⟨x39, hx39⟩ := get_ex (xs := y27.blocks) (j := k) (by first | omega | (rw [hdl]; omega) | (rw [hsl]; omega))
 have pbx39 := hby27 _ (List.mem_of_getElem? hx39)
 refine FJ.dq rfl rfl rfl (by decide) rfl .z (q_load rfl ag_2 (.t .z) (WS.oel (.s .z) hx39)) ?_
 refine FJ.know (WS.oad .z (by omega)) ?_
 rintro ⟨ad40, rfl⟩
 refine FJ.dq rfl rfl rfl (by decide) rfl .z (q_indexAddr (j := Int.toNat x39) rfl u_23 sz_26 (.t (.s4 (.s (.s (.s .z))))) (.t .z) (by omega) (by first | omega | (rw [hdl]; omega) | (rw [hsl]; omega))) ?_
 refine FJ.add (c := ownA kSl_5 [] [.slice none 0 0]) (fun w S => own_nil w S none) ?_
 refine FJ.es (goes_sch rfl rfl) rfl (es_set (j := Int.toNat x39) rfl sz_26 (.t .z) .c rfl (.c (.s .z) (.c .z .n)) (by first | omega | (rw [hdl]; omega) | (rw [hsl]; omega))) ?_
 refine FJ.ceq .z (dropB_s hx39) ?_
 refine FJ.sl rfl ?_
 refine FJ.schN ?_
 refine FJ.drawN (by kernel_rfl) ?_
 refine FJ.inBN (FJ.then_ (FJ.region (FJ.ql rfl (q_move rfl (.t (.s16 (.s .z)))) ?_)))
 refine FJ.ql rfl (q_add (c := ((k + 1 : Nat) : Int)) rfl (.t .z) .c (wr (by omega) (by omega) (by omega))) ?_
 refine FJ.er (.s16 (.s (.s (.s .z)))) (FJ.ql rfl (q_assign rfl (.t .z)) (FJ.nil ?_))
 refine FJ.again (k + 1) (by omega) (by first | omega | (dsimp only; omega)) (.c .z (.c (.s16 (.s4 .z)) (.c (.s16 (.s4 (.s .z))) (.c (.s16 (.s4 (.s (.s .z)))) (.c (.s16 (.s4 (.s (.s (.s .z))))) (.c (.s16 (.s4 (.s4 .z))) .n)))))) (fun _ h => h.sel (.c .z (.c .z (.c .z (.c .z (.c .z (.c .z (.c .z (.c .z (.c .z (.c .z (.c .z .n))))))))))))
 refine FJ.exit (FJ.thenE (FJ.thenE (FJ.inB (FJ.then_ ?_))))
 refine FJ.seq (FJ.region (FJ.ql rfl (q_move rfl (.t (.s4 (.s4 .z)))) (FJ.ql rfl (q_fieldAddr rfl (.t (.s4 (.s4 (.s (.s (.s .z)))))) (fun _ => fa_143_1 _ _)) (FJ.ql rfl (q_load rfl ag_27 (.t .z) (WS.row (.s4 (.s4 .z)) rfl)) ?_))))
 refine FJ.ql rfl (q_nilCheck rfl (.t (.s (.s .z)))) (FJ.ql rfl (q_fieldAddr rfl (.t .z) (fun _ => fa_73_3 _ _)) ?_)
 refine FJ.es (goes_list rfl) rfl (es_raw (j := Int.toNat a) (off := 3) (cs := [.slice Ao12 ((pickB f L b).list).length co12]) rfl sz_27 (.t .z) (add_add _ _ _) (.t (.s (.s .z))) rfl (ones rfl) (.s4 (.s .z)) hc28 (Nat.le_of_ble_eq_true rfl)) ?_
 refine FJ.ceq (x' := List.set fc26 (Int.toNat a) [.int .i64 y27.kind, .int .i64 y27.links, .int .i64 y27.size, .slice Ao12 ((pickB f L b).list).length co12, .slice Ao34 y27.ents.length co34]) .z rfl ?_
 refine FJ.nil (FJ.then_ (FJ.seq (FJ.region (FJ.ql rfl (q_move rfl (.t (.s4 (.s4 (.s4 (.s .z)))))) ?_))))
 refine FJ.ql rfl (q_move rfl (.t (.s16 (.s (.s .z))))) (FJ.ql rfl (q_len rfl u_26 (.t .z)) (FJ.ql rfl (q_nilCheck rfl (.t (.s (.s .z)))) (FJ.ql rfl (q_fieldAddr rfl (.t .z) (fun _ => fa_73_2 _ _)) ?_)))
 refine FJ.es (goes_list rfl) rfl (es_raw (j := Int.toNat a) (off := 2) (cs := [.int .i64 (L.length : Int)]) rfl sz_2 (.t .z) (add_add _ _ _) (.t (.s (.s .z))) rfl (ones rfl) .z (set_get hc28) (Nat.le_of_ble_eq_true rfl)) ?_
 refine FJ.ceq (x' := List.set fc26 (Int.toNat a) [.int .i64 y27.kind, .int .i64 y27.links, .int .i64 (L.length : Int), .slice Ao12 ((pickB f L b).list).length co12, .slice Ao34 y27.ents.length co34]) .z (List.set_set ..) ?_
 refine FJ.nil (FJ.then_ (FJ.seq (FJ.seq (FJ.region ?_))))
 refine FJ.ql rfl (q_assign rfl .c) (FJ.nil (FJ.then_ (FJ.block ?_)))
 refine FJ.ceq (x' := dropAll f a) (.s .z) (by unfold dropAll; rw [nby27, show k = y27.blocks.length by omega]) ?_
 refine FJ.ceq (x' := setD (dropAll f a) (pickB f L b).list L 0) .z rfl ?_
 refine FJ.loopi (γ := Nat) (fun q => [(13, .int .i64 (q : Int)), (11, .pointer (some (Addr.add ad35 ((Int.toNat a) * 5)))), (10, .pointer (some ⟨g25, 0, none⟩)), (8, .pointer (some ⟨g6, 0, none⟩)), (2, .slice A2 L.length c2)]) (fun q => [ownA kSl_26 (setD (dropAll f a) (pickB f L b).list L q) [.slice Ao24 f.data.length co24], ownA (kslice 73 72 (kraw kT_73.sz kT_73.pos)) (List.set fc26 (Int.toNat a) [.int .i64 y27.kind, .int .i64 y27.links, .int .i64 (L.length : Int), .slice Ao12 ((pickB f L b).list).length co12, .slice Ao34 y27.ents.length co34]) [.slice (some ad35) f.inodes.length co23], ownA kSl_2 y27.blocks [.slice Ao33 y27.blocks.length co33], ownA kSl_151 y27.ents [.slice Ao34 y27.ents.length co34], seqC kT_73 (List.take (Int.toNat a) f.inodes) (List.take (Int.toNat a) fc26), seqC kT_73 (List.drop (Int.toNat a + 1) f.inodes) (List.drop (Int.toNat a + 1) fc26), rowA g25 31 2 1 [.slice (some ad35) f.inodes.length co23, .slice Ao24 f.data.length co24], ownA kSl_2 ((pickB f L b).list) [.slice Ao12 ((pickB f L b).list).length co12], rowA g13 143 2 1 [.int .i64 ((pickB f L b).code), .slice Ao12 ((pickB f L b).list).length co12], rowA g6 33 3 1 [.int .i64 0, .slice none 0 0, .slice none 0 0], rowA g5 31 2 1 [.slice A0_0 f.inodes.length c0_0, .slice A0_1 f.data.length c0_1]]) (fun q => q ≤ (pickB f L b).list.length) (fun q => (pickB f L b).list.length - q) 0 (Nat.zero_le _) (.c .z (.c (.s16 (.s (.s (.s .z)))) (.c (.s16 (.s4 .z)) (.c (.s16 (.s4 (.s (.s .z)))) (.c (.s16 (.s4 (.s (.s (.s .z))))) .n))))) (fun _ h => h.sel (.c .z (.c .z (.c .z (.c .z (.c .z (.c .z (.c .z (.c .z (.c .z (.c .z (.c .z .n)))))))))))) ?_
 rintro q hq
 have hsl := (setD_len (data := dropAll f a) (bs := (pickB f L b).list) (L := L) q).trans (dropB_len _)
 refine FJ.seq (FJ.seq (FJ.region (FJ.ql rfl (q_move rfl (.t .z)) (FJ.ql rfl (q_move rfl (.t (.s (.s .z)))) ?_))))
 refine FJ.ql rfl (q_nilCheck rfl (.t .z)) (FJ.ql rfl (q_fieldAddr rfl (.t .z) (fun _ => fa_73_3 _ _)) (FJ.ql rfl (q_load rfl ag_27 (.t .z) (WS.raw (.s .z) (set_get hc28) rfl)) (FJ.ql rfl (q_len rfl u_27 (.t .z)) (FJ.ql rfl (q_lss rfl (.t (.s4 (.s .z))) (.t .z)) ?_))))
 refine FJ.nil (FJ.then_ ?_)
 refine FJ.condP (.t .z) (fun b42 => ?_) (fun b42 => ?_)
 refine FJ.skip (FJ.then_ (FJ.seq (FJ.block (FJ.seq ?_))))
 refine FJ.region (FJ.ql rfl (q_move rfl (.t (.s4 (.s4 .z)))) (FJ.ql rfl (q_nilCheck rfl (.t .z)) (FJ.ql rfl (q_fieldAddr rfl (.t .z) (fun _ => fa_73_2 _ _)) (FJ.ql rfl (q_load rfl ag_2 (.t .z) (WS.raw (.s .z) (set_get hc28) rfl)) ?_))))
 refine FJ.ql rfl (q_move rfl (.t (.s4 (.s4 (.s (.s (.s .z))))))) ?_
 refine FJ.ql rfl (q_add (c := ((q + 1 : Nat) : Int)) rfl (.t .z) .c (wr (by omega) (by omega) (by omega))) ?_
 refine FJ.ql rfl (q_mul (c := (((q + 1) * 8 : Nat) : Int)) rfl (.t .z) .c (wr (by omega) (by omega) (by omega))) ?_
 refine FJ.call (goes_list rfl) rfl (by decide) rfl (c_call rfl Tryz.func90 rfl rfl (args2 (.t (.s (.s (.s .z)))) (.t .z))) .n (fun w1 S1 hs tr => c_90 _ _) ?_
 rintro _ _ ⟨rfl, rfl⟩
 refine FJ.cat .n ?_
 have hm43 := minI_spec (L.length : Int) (((q + 1) * 8 : Nat) : Int)
 refine FJ.ql rfl (q_assign rfl (.t .z)) (FJ.nil (FJ.then_ ?_))
 refine FJ.sel (.c .z (.c (.s (.s .z)) (.c .z (.c .z (.c .z (.c .z (.c .z (.c .z (.c .z (.c .z (.c .z .n))))))))))) ?_
 refine FJ.draw [ownA (kslice 73 72 (kraw kT_73.sz kT_73.pos)) (List.set fc26 (Int.toNat a) [.int .i64 y27.kind, .int .i64 y27.links, .int .i64 (L.length : Int), .slice Ao12 ((pickB f L b).list).length co12, .slice Ao34 y27.ents.length co34]) [.slice (some ad35) f.inodes.length co23], ownA kSl_2 y27.blocks [.slice Ao33 y27.blocks.length co33], seqC kT_73 (List.take (Int.toNat a) f.inodes) (List.take (Int.toNat a) fc26), seqC kT_73 (List.drop (Int.toNat a + 1) f.inodes) (List.drop (Int.toNat a + 1) fc26), rowA g25 31 2 1 [.slice (some ad35) f.inodes.length co23, .slice Ao24 f.data.length co24], ownA kSl_2 ((pickB f L b).list) [.slice Ao12 ((pickB f L b).list).length co12], rowA g13 143 2 1 [.int .i64 ((pickB f L b).code), .slice Ao12 ((pickB f L b).list).length co12], rowA g6 33 3 1 [.int .i64 0, .slice none 0 0, .slice none 0 0], rowA g5 31 2 1 [.slice A0_0 f.inodes.length c0_0, .slice A0_1 f.data.length c0_1]] 17 (by kernel_rfl) ?_
 refine FJ.sch [(0, true), (1, true), (2, true), (3, true), (4, true), (5, true), (6, true), (7, true), (8, true), (10, true), (11, true), (12, true), (13, true), (14, true), (9, false), (15, false), (16, true), (17, false)] 0 #[true, true, true, true, true, true, true, true, true, true, true, true, true, true, true, true, true, true] (by rfl) (by kernel_rfl) ?_
 refine FJ.dq rfl rfl rfl (by decide) rfl (.s (.s .z)) (q_fieldAddr rfl (.t (.s16 (.s (.s .z)))) (fun _ => fa_31_1 _ _)) (FJ.dq rfl rfl rfl (by decide) rfl (.s (.s .z)) (q_load rfl ag_23 (.t .z) (WS.row (.s4 .z) rfl)) (FJ.dq rfl rfl rfl (by decide) rfl (.s (.s .z)) (q_move rfl (.t (.s16 (.s (.s (.s .z)))))) (FJ.dq rfl rfl rfl (by decide) rfl (.s (.s .z)) (q_nilCheck rfl (.t .z)) (FJ.dq rfl rfl rfl (by decide) rfl (.s (.s .z)) (q_fieldAddr rfl (.t .z) (fun _ => fa_73_3 _ _)) ?_))))
 refine FJ.dq rfl rfl rfl (by decide) rfl (.s (.s .z)) (q_load rfl ag_27 (.t .z) (WS.raw .z (set_get hc28) rfl)) (FJ.dq rfl rfl rfl (by decide) rfl (.s (.s .z)) (q_move rfl (.t (.s16 (.s4 (.s (.s .z)))))) ?_)
 refine FJ.know (WS.oad (.s4 (.s (.s (.s .z)))) (by omega)) ?_
 rintro ⟨ad44, rfl⟩
 refine FJ.dq rfl rfl rfl (by decide) rfl (.s (.s .z)) (q_indexAddr (j := q) rfl u_27 sz_2 (.t (.s .z)) (.t .z) rfl (by first | omega | (rw [hdl]; omega) | (rw [hsl]; omega))) ?_
 obtain ⟨x45, hx45⟩ := get_ex (xs := (pickB f L b).list) (j := q) (by first | omega | (rw [hdl]; omega) | (rw [hsl]; omega))
 have pbx45 := hpi.1 _ (List.mem_of_getElem? hx45)
 refine FJ.dq rfl rfl rfl (by decide) rfl (.s (.s .z)) (q_load rfl ag_2 (.t .z) (WS.oel (.s4 (.s .z)) hx45)) (FJ.dq rfl rfl rfl (by decide) rfl (.s (.s .z)) (q_move rfl (.t (.s16 (.s4 (.s4 (.s4 (.s .z))))))) (FJ.dq rfl rfl rfl (by decide) rfl (.s (.s .z)) (q_move rfl (.t (.s16 (.s4 (.s4 (.s (.s .z))))))) ?_))
 refine FJ.dq rfl rfl rfl (by decide) rfl (.s (.s .z)) (q_mul (c := ((q * 8 : Nat) : Int)) rfl (.t .z) .c (wr (by omega) (by omega) (by omega))) ?_
 refine FJ.dq rfl rfl rfl (by decide) rfl (.s (.s .z)) (q_move rfl (.t (.s4 (.s4 (.s4 .z))))) ?_
 refine FJ.eq .z (congrArg (Value.int .i64) (show minI (L.length : Int) (((q + 1) * 8 : Nat) : Int) = ((Int.toNat (minI (L.length : Int) (((q + 1) * 8 : Nat) : Int)) : Nat) : Int) by omega)) ?_
 obtain ⟨As46, hAs46⟩ : ∃ A' : Option Addr, A' = (if c2 = q * 8 then A2 else Option.map (fun z => Addr.add z ((q * 8) * 1)) A2) := ⟨_, rfl⟩
 have hs46 := ro_sub (a := q * 8) (b := Int.toNat (minI (L.length : Int) (((q + 1) * 8 : Nat) : Int))) hAs46 h2 (by omega) (by omega)
 have ls46 := subL_len (xs := L) (a := q * 8) (b := Int.toNat (minI (L.length : Int) (((q + 1) * 8 : Nat) : Int))) (by omega)
 refine FJ.dq rfl rfl rfl (by decide) rfl (.s (.s .z)) (q_sliceL (a := q * 8) (b := Int.toNat (minI (L.length : Int) (((q + 1) * 8 : Nat) : Int))) rfl u_26 sz_5 (.t (.s (.s (.s .z)))) hAs46 (.inr ⟨_, _, rfl, (.t (.s .z))⟩) (.inr ⟨_, _, rfl, (.t .z)⟩) (by omega) (by omega) (by omega)) ?_
 refine FJ.e (goes_sch rfl rfl) rfl (by decide) rfl (e_buildNil rfl u_26 (inz inf_5)) ?_
 rintro _ _ ⟨g48, rfl, rfl⟩
 refine FJ.sk (.s (.s (.s .z))) ?_
 refine FJ.add (c := ownA kSl_5 ([] : (List UInt8)) [.slice (some ⟨g48, 0, none⟩) 0 0]) (fun w S => own_nil w S _) ?_
 refine FJ.e (goes_sch rfl rfl) rfl (by decide) rfl (e_appendF (flat_scalar _ _ _) rfl u_26 inf_5 rfl (.t .z) (.t (.s .z)) (.c .z .n) (fun w1 S1 tr => tr.ctx hs46) (by first | omega | (simp only [List.length_append, List.length_take, List.length_nil, List.length_cons]; omega)) (by first | omega | (simp only [List.length_append, List.length_take, List.length_nil, List.length_cons]; omega))) ?_
 rintro _ _ rfl
 refine FJ.ceq .z (List.nil_append _) ?_
 refine FJ.know (WS.oform .z) ?_
 rintro ⟨Ao50, co50, rfl, hlo50, hmo50, hbo50⟩
 refine FJ.sk (.s4 .z) ?_
 refine FJ.know (WS.oad (.s (.s .z)) (by omega)) ?_
 rintro ⟨ad51, rfl⟩
 refine FJ.dq rfl rfl rfl (by decide) rfl (.s4 .z) (q_indexAddr (j := Int.toNat x45) rfl u_23 sz_26 (.t (.s4 (.s4 (.s4 (.s (.s .z)))))) (.t (.s4 (.s (.s (.s .z))))) (by omega) (by first | omega | (rw [hdl]; omega) | (rw [hsl]; omega))) ?_
 refine FJ.es (goes_sch rfl rfl) rfl (es_set (j := Int.toNat x45) rfl sz_26 (.t .z) (.t (.s .z)) rfl (.c (.s (.s .z)) (.c .z .n)) (by first | omega | (rw [hdl]; omega) | (rw [hsl]; omega))) ?_
 refine FJ.ceq .z (by first | exact setD_s hx45 | rw [share_eq, setD_s hx45] | rw [share_eq', setD_s hx45]) ?_
 refine FJ.sl rfl ?_
 refine FJ.schN ?_
 refine FJ.drawN (by kernel_rfl) ?_
 refine FJ.inBN (FJ.then_ (FJ.region (FJ.ql rfl (q_move rfl (.t (.s16 (.s16 (.s .z))))) ?_)))
 refine FJ.ql rfl (q_add (c := ((q + 1 : Nat) : Int)) rfl (.t .z) .c (wr (by omega) (by omega) (by omega))) ?_
 refine FJ.er (.s16 (.s16 (.s (.s (.s .z))))) (FJ.ql rfl (q_assign rfl (.t .z)) (FJ.nil ?_))
 refine FJ.again (q + 1) (by omega) (by first | omega | (dsimp only; omega)) (.c .z (.c (.s16 (.s16 (.s4 .z))) (.c (.s16 (.s16 (.s4 (.s .z)))) (.c (.s16 (.s16 (.s4 (.s (.s .z))))) (.c (.s16 (.s16 (.s4 (.s (.s (.s .z)))))) .n))))) (fun _ h => h.sel (.c .z (.c (.s (.s .z)) (.c (.s (.s .z)) (.c (.s .z) (.c (.s .z) (.c (.s .z) (.c (.s .z) (.c (.s .z) (.c (.s .z) (.c (.s .z) (.c (.s .z) .n))))))))))))
 refine FJ.exit (FJ.thenE (FJ.thenE (FJ.inB (FJ.then_ ?_))))
 refine FJ.seq (FJ.region ?_)
 refine FJ.ql rfl (q_loadA (cs := [.slice (some ad35) f.inodes.length co23, .slice Ao24 f.data.length co24]) rfl ag_31 sz_31 (.t (.s4 (.s4 (.s .z)))) (WS.rows0 (.s4 (.s (.s .z))) (fun i u h => by exact h))) ?_
 refine FJ.ql rfl (q_build (ps := [(1, .agg #[.slice (some ad35) f.inodes.length co23, .slice Ao24 f.data.length co24])]) (cs := [.int .i64 0, .slice (some ad35) f.inodes.length co23, .slice Ao24 f.data.length co24]) rfl bl_33 (by intro act hact; simp only [List.map_toArray, List.map_cons, List.map_nil, (show Val _ _ _ from (.t .z)) act hact]) rfl) ?_
 refine FJ.es (goes_list rfl) rfl (es_store (off := 0) (cs := [.int .i64 0, .slice (some ad35) f.inodes.length co23, .slice Ao24 f.data.length co24]) rfl sz_33 (.t (.s4 (.s4 (.s4 .z)))) (.t .z) rfl (ones rfl) (.s4 (.s4 (.s .z))) (Nat.le_of_ble_eq_true rfl) (.c .z (.c (.s .z) (.c (.s (.s .z)) .n)))) ?_
 refine FJ.nil (FJ.then_ (FJ.ret ?_))
 refine FJ.turns (c := ownA kT_73 (⟨y27.kind, y27.links, (L.length : Int), (pickB f L b).list, y27.ents⟩ : DInode) [.int .i64 y27.kind, .int .i64 y27.links, .int .i64 (L.length : Int), .slice Ao12 ((pickB f L b).list).length co12, .slice Ao34 y27.ents.length co34]) (.c (.s4 (.s4 .z)) (.c (.s4 .z) .n)) (fun w S h => kT_73_omk (⟨y27.kind, y27.links, (L.length : Int), (pickB f L b).list, y27.ents⟩ : DInode) h) ?_
 refine FJ.turns (c := ownA kSl_73 (List.set f.inodes (Int.toNat a) (⟨y27.kind, y27.links, (L.length : Int), (pickB f L b).list, y27.ents⟩ : DInode)) [.slice (some ad35) f.inodes.length co23]) (.c (.s (.s (.s .z))) (.c .z (.c (.s (.s (.s .z))) (.c (.s (.s (.s .z))) .n)))) (own_unfocus (K := kT_73) hlfc26 (List.getElem?_eq_some_iff.1 hy27).1 rfl) ?_
 have he53 : List.set f.inodes (Int.toNat a) (⟨y27.kind, y27.links, (L.length : Int), (pickB f L b).list, y27.ents⟩ : DInode) = withB f.inodes a (L.length : Int) (pickB f L b).list := (withB_at hy27 (by omega))
 refine FJ.chEq .z (congrArg (fun z_ => (ownA kSl_73 (z_) [.slice (some ad35) f.inodes.length co23] : Asn)) he53) ?_
 refine FJ.ceq (x' := setD (dropAll f a) (pickB f L b).list L (pickB f L b).list.length) (.s (.s .z)) (by rw [show q = (pickB f L b).list.length by omega]) ?_
 refine FJ.doneS (resC (cs := [.int .i64 0, .slice (some ad35) f.inodes.length co23, .slice Ao24 f.data.length co24]) rfl (.s4 (.s4 (.s4 .z))) ag_33 sz_33 (WS.rows0 (cs := [.int .i64 0, .slice (some ad35) f.inodes.length co23, .slice Ao24 f.data.length co24]) (.s (.s .z)) (fun _ _ h => h))) (.c (.s .z) (.c .z .n)) ?_
 first | (rw [setG_2 (by omega)]; exact ⟨_, _, rfl, rfl⟩) | (rw [setG_p (by omega) hpn]; exact ⟨_, _, rfl, rfl⟩) | (rw [setG_0 (by omega) hpc]; exact ⟨_, _, rfl, rfl⟩)
 refine FJ.e (goes_sch rfl rfl) rfl (by decide) rfl (e_alloc rfl z_143 rfl rfl) ?_
 rintro _ _ ⟨g54, rfl, rfl⟩
 refine FJ.sk (.s .z) ?_
 refine FJ.schN ?_
 refine FJ.sch [(6, false), (8, false)] 0 #[true, true, true, true, true, true, true, true, true] (by rfl) (by kernel_rfl) ?_
 refine FJ.call (goes_sch rfl rfl) rfl (by decide) rfl (c_call rfl Tryz.func115 rfl rfl (args3 (.t (.s4 (.s .z))) (.t (.s4 .z)) (.t (.s .z)))) .n (fun w1 S1 hs tr => c_115 (tr.ctx h0_0) (tr.ctx h3) _) ?_
 rintro _ _ ⟨v55, rfl, rfl⟩
 refine FJ.cat (.c .n) ?_
 refine FJ.know (WS.oform .z) ?_
 rintro ⟨Ao57, co57, rfl, hlo57, hmo57, hbo57⟩
 refine FJ.sk (.s (.s .z)) ?_
 refine FJ.es (goes_sch rfl rfl) rfl (es_store (off := 0) (cs := [.int .i64 ((pickR f.inodes b (((L.length : Int) + 7) / 8)).code), .slice Ao57 ((pickR f.inodes b (((L.length : Int) + 7) / 8)).list).length co57]) rfl sz_143 (.t (.s .z)) (.t .z) rfl (ones rfl) (.s .z) (Nat.le_of_ble_eq_true rfl) (.c .z (.c (.s .z) .n))) ?_
 refine FJ.sl rfl ?_
 refine FJ.schN ?_
 refine FJ.drawN (by kernel_rfl) ?_
 refine FJ.then_ (FJ.seq (FJ.seq (FJ.region (FJ.ql rfl (q_fieldAddr rfl (.t (.s .z)) (fun _ => fa_143_0 _ _)) ?_))))
 refine FJ.ql rfl (q_load rfl ag_2 (.t .z) (WS.row .z rfl)) (FJ.ql rfl (q_neq rfl (.t .z) .c) (FJ.nil (FJ.then_ ?_)))
 refine FJ.condN (.t .z) (fun b58 => ?_) (fun b58 => ?_)
 rw [hpk] at b58
 have he59 : (pickR f.inodes b (((L.length : Int) + 7) / 8)) = (pickB f L b) := hpk
 refine FJ.eq .z (congrArg (fun z_ : RInts => (.bool (!decide (z_.code = 0)) : Value)) he59) ?_
 refine FJ.eq (.s .z) (congrArg (fun z_ : RInts => (.int .i64 (z_.code) : Value)) he59) ?_
 refine FJ.eq (.s (.s (.s .z))) (congrArg (fun z_ : RInts => (.agg #[.int .i64 (z_.code), .slice Ao57 (z_.list).length co57] : Value)) he59) ?_
 refine FJ.chEq .z (congrArg (fun z_ : RInts => (rowA g54 143 2 1 [.int .i64 (z_.code), .slice Ao57 (z_.list).length co57] : Asn)) he59) ?_
 refine FJ.chEq (.s .z) (congrArg (fun z_ : RInts => (ownA kSl_2 (z_.list) [.slice Ao57 (z_.list).length co57] : Asn)) he59) ?_
 have hpn : ¬ (pickB f L b).code = 0 := b58
 refine FJ.seq (FJ.region (FJ.ql rfl (q_fieldAddr rfl (.t (.s4 .z)) (fun _ => fa_143_0 _ _)) (FJ.ql rfl (q_load rfl ag_2 (.t .z) (WS.row (.s .z) rfl)) ?_)))
 refine FJ.ql rfl (q_build (ps := [(0, .int .i64 ((pickB f L b).code))]) (cs := [.int .i64 ((pickB f L b).code), .slice none 0 0, .slice none 0 0]) rfl bl_33 (by intro act hact; simp only [List.map_toArray, List.map_cons, List.map_nil, (show Val _ _ _ from (.t .z)) act hact]) rfl) ?_
 refine FJ.es (goes_list rfl) rfl (es_store (off := 0) (cs := [.int .i64 ((pickB f L b).code), .slice none 0 0, .slice none 0 0]) rfl sz_33 (.t (.s16 (.s (.s .z)))) (.t .z) rfl (ones rfl) (.s (.s .z)) (Nat.le_of_ble_eq_true rfl) (.c .z (.c (.s .z) (.c (.s (.s .z)) .n)))) ?_
 refine FJ.nil (FJ.then_ (FJ.ret (FJ.thenR ?_)))
 refine FJ.add (c := ownA kSl_73 [] [.slice none 0 0]) (fun w S => own_nil w S none) ?_
 refine FJ.add (c := ownA kSl_26 [] [.slice none 0 0]) (fun w S => own_nil w S none) ?_
 refine FJ.doneS (resC (cs := [.int .i64 ((pickB f L b).code), .slice none 0 0, .slice none 0 0]) rfl (.s16 (.s (.s .z))) ag_33 sz_33 (WS.rows0 (cs := [.int .i64 ((pickB f L b).code), .slice none 0 0, .slice none 0 0]) (.s (.s .z)) (fun _ _ h => h))) (.c (.s .z) (.c .z .n)) ?_
 first | (rw [setG_2 (by omega)]; exact ⟨_, _, rfl, rfl⟩) | (rw [setG_p (by omega) hpn]; exact ⟨_, _, rfl, rfl⟩) | (rw [setG_0 (by omega) hpc]; exact ⟨_, _, rfl, rfl⟩)
 rw [hpk] at b58
 have he62 : (pickR f.inodes b (((L.length : Int) + 7) / 8)) = (pickB f L b) := hpk
 refine FJ.eq .z (congrArg (fun z_ : RInts => (.bool (!decide (z_.code = 0)) : Value)) he62) ?_
 refine FJ.eq (.s .z) (congrArg (fun z_ : RInts => (.int .i64 (z_.code) : Value)) he62) ?_
 refine FJ.eq (.s (.s (.s .z))) (congrArg (fun z_ : RInts => (.agg #[.int .i64 (z_.code), .slice Ao57 (z_.list).length co57] : Value)) he62) ?_
 refine FJ.chEq .z (congrArg (fun z_ : RInts => (rowA g54 143 2 1 [.int .i64 (z_.code), .slice Ao57 (z_.list).length co57] : Asn)) he62) ?_
 refine FJ.chEq (.s .z) (congrArg (fun z_ : RInts => (ownA kSl_2 (z_.list) [.slice Ao57 (z_.list).length co57] : Asn)) he62) ?_
 have hpc : (pickB f L b).code = 0 := b58
 have hpi := pick_in hpc
 have hpl : ((pickB f L b).list.length : Int) = ((L.length : Int) + 7) / 8 := hpi.2
 refine FJ.skip (FJ.then_ (FJ.seq (FJ.region ?_)))
 refine FJ.ql rfl (q_loadA (cs := [.slice A0_0 f.inodes.length c0_0, .slice A0_1 f.data.length c0_1]) rfl ag_31 sz_31 (.t (.s16 .z)) (WS.rows0 (.s (.s (.s .z))) (fun i u h => by exact h))) ?_
 refine FJ.call (goes_list rfl) rfl (by decide) rfl (c_call rfl Tryz.func72 rfl rfl (args1 (.t .z))) .n (fun w1 S1 hs tr => c_72 (kT_31_mk f (tr.ctx h0_0) (tr.ctx h0_1))) ?_
 rintro _ _ ⟨v63, v65, rfl, rfl⟩
 refine FJ.cat (.c (.c .n)) ?_
 refine FJ.know (WS.oform .z) ?_
 rintro ⟨Ao67, co67, rfl, hlo67, hmo67, hbo67⟩
 refine FJ.know (WS.oform (.s .z)) ?_
 rintro ⟨Ao68, co68, rfl, hlo68, hmo68, hbo68⟩
 refine FJ.e (goes_list rfl) rfl (by decide) rfl (e_alloc rfl z_31 rfl rfl) ?_
 rintro _ _ ⟨g69, rfl, rfl⟩
 refine FJ.es (goes_list rfl) rfl (es_store (off := 0) (cs := [.slice Ao67 f.inodes.length co67, .slice Ao68 f.data.length co68]) rfl sz_31 (.t .z) (.t (.s .z)) rfl (ones rfl) .z (Nat.le_of_ble_eq_true rfl) (.c .z (.c (.s .z) .n))) ?_
 refine FJ.nil (FJ.then_ (FJ.seq (FJ.region (FJ.ql rfl (q_fieldAddr rfl (.t .z) (fun _ => fa_31_0 _ _)) ?_))))
 refine FJ.ql rfl (q_load rfl ag_29 (.t .z) (WS.row .z rfl)) (FJ.ql rfl (q_move rfl (.t (.s16 (.s4 (.s (.s (.s .z))))))) ?_)
 refine FJ.open (.c (.s .z) .n) own_raw ?_
 rintro fc70 hlfc70
 obtain ⟨y71, hy71⟩ := get_ex (xs := f.inodes) (j := Int.toNat a) (by first | omega | (rw [hdl]; omega) | (rw [hsl]; omega))
 obtain ⟨c72, hc72⟩ := get_ex (xs := fc70) (j := Int.toNat a) (by rw [hlfc70]; exact (List.getElem?_eq_some_iff.1 hy71).1)
 refine FJ.turn (.s .z) (seq_split hy71 hc72) ?_
 refine FJ.open (.c .z .n) kT_73_op ?_
 rintro ⟨v73, v74⟩ rfl
 refine FJ.know (WS.oform .z) ?_
 rintro ⟨Ao77, co77, rfl, hlo77, hmo77, hbo77⟩
 refine FJ.know (WS.oform (.s .z)) ?_
 rintro ⟨Ao78, co78, rfl, hlo78, hmo78, hbo78⟩
 have nby71 := blocks_at (a := a) hy71 (by omega)
 have hby71 : ∀ b, b ∈ y71.blocks → 0 ≤ b ∧ b ≤ 19 := by rw [← nby71]; exact hB
 refine FJ.know (WS.oad (.s4 .z) (by omega)) ?_
 rintro ⟨ad79, rfl⟩
 refine FJ.ql rfl (q_indexAddr (j := Int.toNat a) rfl u_29 sz_73 (.t (.s .z)) (.t .z) (by omega) (by first | omega | (rw [hdl]; omega) | (rw [hsl]; omega))) ?_
 refine FJ.ql rfl (q_assign rfl (.t .z)) (FJ.nil (FJ.then_ (FJ.seq (FJ.seq ?_))))
 refine FJ.region (FJ.ql rfl (q_assign rfl .c) (FJ.nil (FJ.then_ (FJ.block ?_))))
 refine FJ.ceq (x' := dropB f.data y71.blocks 0) (.s4 (.s (.s .z))) rfl ?_
 refine FJ.loopi (γ := Nat) (fun k => [(12, .int .i64 (k : Int)), (11, .pointer (some (Addr.add ad79 ((Int.toNat a) * 5)))), (10, .pointer (some ⟨g69, 0, none⟩)), (9, .pointer (some ⟨g54, 0, none⟩)), (8, .pointer (some ⟨g6, 0, none⟩)), (2, .slice A2 L.length c2)]) (fun k => [ownA kSl_26 (dropB f.data y71.blocks k) [.slice Ao68 f.data.length co68], ownA kSl_2 y71.blocks [.slice Ao77 y71.blocks.length co77], ownA kSl_151 y71.ents [.slice Ao78 y71.ents.length co78], seqC kT_73 (List.take (Int.toNat a) f.inodes) (List.take (Int.toNat a) fc70), seqC kT_73 (List.drop (Int.toNat a + 1) f.inodes) (List.drop (Int.toNat a + 1) fc70), ownA (kslice 73 72 (kraw kT_73.sz kT_73.pos)) fc70 [.slice (some ad79) f.inodes.length co67], rowA g69 31 2 1 [.slice (some ad79) f.inodes.length co67, .slice Ao68 f.data.length co68], ownA kSl_2 ((pickB f L b).list) [.slice Ao57 ((pickB f L b).list).length co57], rowA g54 143 2 1 [.int .i64 ((pickB f L b).code), .slice Ao57 ((pickB f L b).list).length co57], rowA g6 33 3 1 [.int .i64 0, .slice none 0 0, .slice none 0 0], rowA g5 31 2 1 [.slice A0_0 f.inodes.length c0_0, .slice A0_1 f.data.length c0_1]]) (fun k => k ≤ y71.blocks.length) (fun k => y71.blocks.length - k) 0 (Nat.zero_le _) (.c .z (.c (.s .z) (.c (.s4 (.s (.s .z))) (.c (.s4 (.s4 (.s4 (.s .z)))) (.c (.s16 (.s4 (.s4 .z))) (.c (.s16 (.s4 (.s4 (.s4 .z)))) .n)))))) (fun _ h => h.sel (.c .z (.c .z (.c .z (.c .z (.c .z (.c .z (.c .z (.c .z (.c .z (.c .z (.c .z .n)))))))))))) ?_
 rintro k hk
 have hdl := dropB_len (data := f.data) (bs := y71.blocks) k
 refine FJ.seq (FJ.seq (FJ.region (FJ.ql rfl (q_move rfl (.t .z)) (FJ.ql rfl (q_move rfl (.t (.s (.s .z)))) ?_))))
 refine FJ.ql rfl (q_nilCheck rfl (.t .z)) (FJ.ql rfl (q_fieldAddr rfl (.t .z) (fun _ => fa_73_3 _ _)) (FJ.ql rfl (q_load rfl ag_27 (.t .z) (WS.raw (.s4 (.s .z)) hc72 rfl)) (FJ.ql rfl (q_len rfl u_27 (.t .z)) (FJ.ql rfl (q_lss rfl (.t (.s4 (.s .z))) (.t .z)) ?_))))
 refine FJ.nil (FJ.then_ ?_)
 refine FJ.condP (.t .z) (fun b81 => ?_) (fun b81 => ?_)
 refine FJ.skip (FJ.then_ (FJ.seq (FJ.block ?_)))
 refine FJ.draw [ownA kSl_26 (dropB f.data y71.blocks k) [.slice Ao68 f.data.length co68], ownA kSl_2 y71.blocks [.slice Ao77 y71.blocks.length co77], ownA kSl_151 y71.ents [.slice Ao78 y71.ents.length co78], seqC kT_73 (List.take (Int.toNat a) f.inodes) (List.take (Int.toNat a) fc70), seqC kT_73 (List.drop (Int.toNat a + 1) f.inodes) (List.drop (Int.toNat a + 1) fc70), ownA (kslice 73 72 (kraw kT_73.sz kT_73.pos)) fc70 [.slice (some ad79) f.inodes.length co67], rowA g69 31 2 1 [.slice (some ad79) f.inodes.length co67, .slice Ao68 f.data.length co68], ownA kSl_2 ((pickB f L b).list) [.slice Ao57 ((pickB f L b).list).length co57], rowA g54 143 2 1 [.int .i64 ((pickB f L b).code), .slice Ao57 ((pickB f L b).list).length co57], rowA g6 33 3 1 [.int .i64 0, .slice none 0 0, .slice none 0 0], rowA g5 31 2 1 [.slice A0_0 f.inodes.length c0_0, .slice A0_1 f.data.length c0_1]] 10 (by kernel_rfl) ?_
 refine FJ.sch [(0, true), (1, true), (2, true), (3, true), (4, true), (5, true), (6, true), (7, true), (8, true), (9, true), (10, false)] 0 #[true, true, true, true, true, true, true, true, true, true, true] (by rfl) (by kernel_rfl) ?_
 refine FJ.dq rfl rfl rfl (by decide) rfl .z (q_fieldAddr rfl (.t (.s4 (.s4 (.s .z)))) (fun _ => fa_31_1 _ _)) (FJ.dq rfl rfl rfl (by decide) rfl .z (q_load rfl ag_23 (.t .z) (WS.row (.s4 (.s (.s .z))) rfl)) (FJ.dq rfl rfl rfl (by decide) rfl .z (q_move rfl (.t (.s4 (.s4 (.s (.s .z)))))) (FJ.dq rfl rfl rfl (by decide) rfl .z (q_nilCheck rfl (.t .z)) (FJ.dq rfl rfl rfl (by decide) rfl .z (q_fieldAddr rfl (.t .z) (fun _ => fa_73_3 _ _)) ?_))))
 refine FJ.dq rfl rfl rfl (by decide) rfl .z (q_load rfl ag_27 (.t .z) (WS.raw (.s4 (.s .z)) hc72 rfl)) (FJ.dq rfl rfl rfl (by decide) rfl .z (q_move rfl (.t (.s4 (.s4 (.s4 (.s .z)))))) ?_)
 refine FJ.know (WS.oad (.s .z) (by omega)) ?_
 rintro ⟨ad82, rfl⟩
 refine FJ.dq rfl rfl rfl (by decide) rfl .z (q_indexAddr (j := k) rfl u_27 sz_2 (.t (.s .z)) (.t .z) rfl (by first | omega | (rw [hdl]; omega) | (rw [hsl]; omega))) ?_
 obtain ⟨x83, hx83⟩ := get_ex (xs := y71.blocks) (j := k) (by first | omega | (rw [hdl]; omega) | (rw [hsl]; omega))
 have pbx83 := hby71 _ (List.mem_of_getElem? hx83)
 refine FJ.dq rfl rfl rfl (by decide) rfl .z (q_load rfl ag_2 (.t .z) (WS.oel (.s .z) hx83)) ?_
 refine FJ.know (WS.oad .z (by omega)) ?_
 rintro ⟨ad84, rfl⟩
 refine FJ.dq rfl rfl rfl (by decide) rfl .z (q_indexAddr (j := Int.toNat x83) rfl u_23 sz_26 (.t (.s4 (.s (.s (.s .z))))) (.t .z) (by omega) (by first | omega | (rw [hdl]; omega) | (rw [hsl]; omega))) ?_
 refine FJ.add (c := ownA kSl_5 [] [.slice none 0 0]) (fun w S => own_nil w S none) ?_
 refine FJ.es (goes_sch rfl rfl) rfl (es_set (j := Int.toNat x83) rfl sz_26 (.t .z) .c rfl (.c (.s .z) (.c .z .n)) (by first | omega | (rw [hdl]; omega) | (rw [hsl]; omega))) ?_
 refine FJ.ceq .z (dropB_s hx83) ?_
 refine FJ.sl rfl ?_
 refine FJ.schN ?_
 refine FJ.drawN (by kernel_rfl) ?_
 refine FJ.inBN (FJ.then_ (FJ.region (FJ.ql rfl (q_move rfl (.t (.s16 (.s .z)))) ?_)))
 refine FJ.ql rfl (q_add (c := ((k + 1 : Nat) : Int)) rfl (.t .z) .c (wr (by omega) (by omega) (by omega))) ?_
 refine FJ.er (.s16 (.s (.s (.s .z)))) (FJ.ql rfl (q_assign rfl (.t .z)) (FJ.nil ?_))
 refine FJ.again (k + 1) (by omega) (by first | omega | (dsimp only; omega)) (.c .z (.c (.s16 (.s4 .z)) (.c (.s16 (.s4 (.s .z))) (.c (.s16 (.s4 (.s (.s .z)))) (.c (.s16 (.s4 (.s (.s (.s .z))))) (.c (.s16 (.s4 (.s4 .z))) .n)))))) (fun _ h => h.sel (.c .z (.c .z (.c .z (.c .z (.c .z (.c .z (.c .z (.c .z (.c .z (.c .z (.c .z .n))))))))))))
 refine FJ.exit (FJ.thenE (FJ.thenE (FJ.inB (FJ.then_ ?_))))
 refine FJ.seq (FJ.region (FJ.ql rfl (q_move rfl (.t (.s4 (.s4 .z)))) (FJ.ql rfl (q_fieldAddr rfl (.t (.s4 (.s4 (.s (.s (.s .z)))))) (fun _ => fa_143_1 _ _)) (FJ.ql rfl (q_load rfl ag_27 (.t .z) (WS.row (.s4 (.s4 .z)) rfl)) ?_))))
 refine FJ.ql rfl (q_nilCheck rfl (.t (.s (.s .z)))) (FJ.ql rfl (q_fieldAddr rfl (.t .z) (fun _ => fa_73_3 _ _)) ?_)
 refine FJ.es (goes_list rfl) rfl (es_raw (j := Int.toNat a) (off := 3) (cs := [.slice Ao57 ((pickB f L b).list).length co57]) rfl sz_27 (.t .z) (add_add _ _ _) (.t (.s (.s .z))) rfl (ones rfl) (.s4 (.s .z)) hc72 (Nat.le_of_ble_eq_true rfl)) ?_
 refine FJ.ceq (x' := List.set fc70 (Int.toNat a) [.int .i64 y71.kind, .int .i64 y71.links, .int .i64 y71.size, .slice Ao57 ((pickB f L b).list).length co57, .slice Ao78 y71.ents.length co78]) .z rfl ?_
 refine FJ.nil (FJ.then_ (FJ.seq (FJ.region (FJ.ql rfl (q_move rfl (.t (.s4 (.s4 (.s4 (.s .z)))))) ?_))))
 refine FJ.ql rfl (q_move rfl (.t (.s16 (.s (.s .z))))) (FJ.ql rfl (q_len rfl u_26 (.t .z)) (FJ.ql rfl (q_nilCheck rfl (.t (.s (.s .z)))) (FJ.ql rfl (q_fieldAddr rfl (.t .z) (fun _ => fa_73_2 _ _)) ?_)))
 refine FJ.es (goes_list rfl) rfl (es_raw (j := Int.toNat a) (off := 2) (cs := [.int .i64 (L.length : Int)]) rfl sz_2 (.t .z) (add_add _ _ _) (.t (.s (.s .z))) rfl (ones rfl) .z (set_get hc72) (Nat.le_of_ble_eq_true rfl)) ?_
 refine FJ.ceq (x' := List.set fc70 (Int.toNat a) [.int .i64 y71.kind, .int .i64 y71.links, .int .i64 (L.length : Int), .slice Ao57 ((pickB f L b).list).length co57, .slice Ao78 y71.ents.length co78]) .z (List.set_set ..) ?_
 refine FJ.nil (FJ.then_ (FJ.seq (FJ.seq (FJ.region ?_))))
 refine FJ.ql rfl (q_assign rfl .c) (FJ.nil (FJ.then_ (FJ.block ?_)))
 refine FJ.ceq (x' := dropAll f a) (.s .z) (by unfold dropAll; rw [nby71, show k = y71.blocks.length by omega]) ?_
 refine FJ.ceq (x' := setD (dropAll f a) (pickB f L b).list L 0) .z rfl ?_
 refine FJ.loopi (γ := Nat) (fun q => [(13, .int .i64 (q : Int)), (11, .pointer (some (Addr.add ad79 ((Int.toNat a) * 5)))), (10, .pointer (some ⟨g69, 0, none⟩)), (8, .pointer (some ⟨g6, 0, none⟩)), (2, .slice A2 L.length c2)]) (fun q => [ownA kSl_26 (setD (dropAll f a) (pickB f L b).list L q) [.slice Ao68 f.data.length co68], ownA (kslice 73 72 (kraw kT_73.sz kT_73.pos)) (List.set fc70 (Int.toNat a) [.int .i64 y71.kind, .int .i64 y71.links, .int .i64 (L.length : Int), .slice Ao57 ((pickB f L b).list).length co57, .slice Ao78 y71.ents.length co78]) [.slice (some ad79) f.inodes.length co67], ownA kSl_2 y71.blocks [.slice Ao77 y71.blocks.length co77], ownA kSl_151 y71.ents [.slice Ao78 y71.ents.length co78], seqC kT_73 (List.take (Int.toNat a) f.inodes) (List.take (Int.toNat a) fc70), seqC kT_73 (List.drop (Int.toNat a + 1) f.inodes) (List.drop (Int.toNat a + 1) fc70), rowA g69 31 2 1 [.slice (some ad79) f.inodes.length co67, .slice Ao68 f.data.length co68], ownA kSl_2 ((pickB f L b).list) [.slice Ao57 ((pickB f L b).list).length co57], rowA g54 143 2 1 [.int .i64 ((pickB f L b).code), .slice Ao57 ((pickB f L b).list).length co57], rowA g6 33 3 1 [.int .i64 0, .slice none 0 0, .slice none 0 0], rowA g5 31 2 1 [.slice A0_0 f.inodes.length c0_0, .slice A0_1 f.data.length c0_1]]) (fun q => q ≤ (pickB f L b).list.length) (fun q => (pickB f L b).list.length - q) 0 (Nat.zero_le _) (.c .z (.c (.s16 (.s (.s (.s .z)))) (.c (.s16 (.s4 .z)) (.c (.s16 (.s4 (.s (.s .z)))) (.c (.s16 (.s4 (.s (.s (.s .z))))) .n))))) (fun _ h => h.sel (.c .z (.c .z (.c .z (.c .z (.c .z (.c .z (.c .z (.c .z (.c .z (.c .z (.c .z .n)))))))))))) ?_
 rintro q hq
 have hsl := (setD_len (data := dropAll f a) (bs := (pickB f L b).list) (L := L) q).trans (dropB_len _)
 refine FJ.seq (FJ.seq (FJ.region (FJ.ql rfl (q_move rfl (.t .z)) (FJ.ql rfl (q_move rfl (.t (.s (.s .z)))) ?_))))
 refine FJ.ql rfl (q_nilCheck rfl (.t .z)) (FJ.ql rfl (q_fieldAddr rfl (.t .z) (fun _ => fa_73_3 _ _)) (FJ.ql rfl (q_load rfl ag_27 (.t .z) (WS.raw (.s .z) (set_get hc72) rfl)) (FJ.ql rfl (q_len rfl u_27 (.t .z)) (FJ.ql rfl (q_lss rfl (.t (.s4 (.s .z))) (.t .z)) ?_))))
 refine FJ.nil (FJ.then_ ?_)
 refine FJ.condP (.t .z) (fun b86 => ?_) (fun b86 => ?_)
 refine FJ.skip (FJ.then_ (FJ.seq (FJ.block (FJ.seq ?_))))
 refine FJ.region (FJ.ql rfl (q_move rfl (.t (.s4 (.s4 .z)))) (FJ.ql rfl (q_nilCheck rfl (.t .z)) (FJ.ql rfl (q_fieldAddr rfl (.t .z) (fun _ => fa_73_2 _ _)) (FJ.ql rfl (q_load rfl ag_2 (.t .z) (WS.raw (.s .z) (set_get hc72) rfl)) ?_))))
 refine FJ.ql rfl (q_move rfl (.t (.s4 (.s4 (.s (.s (.s .z))))))) ?_
 refine FJ.ql rfl (q_add (c := ((q + 1 : Nat) : Int)) rfl (.t .z) .c (wr (by omega) (by omega) (by omega))) ?_
 refine FJ.ql rfl (q_mul (c := (((q + 1) * 8 : Nat) : Int)) rfl (.t .z) .c (wr (by omega) (by omega) (by omega))) ?_
 refine FJ.call (goes_list rfl) rfl (by decide) rfl (c_call rfl Tryz.func90 rfl rfl (args2 (.t (.s (.s (.s .z)))) (.t .z))) .n (fun w1 S1 hs tr => c_90 _ _) ?_
 rintro _ _ ⟨rfl, rfl⟩
 refine FJ.cat .n ?_
 have hm87 := minI_spec (L.length : Int) (((q + 1) * 8 : Nat) : Int)
 refine FJ.ql rfl (q_assign rfl (.t .z)) (FJ.nil (FJ.then_ ?_))
 refine FJ.sel (.c .z (.c (.s (.s .z)) (.c .z (.c .z (.c .z (.c .z (.c .z (.c .z (.c .z (.c .z (.c .z .n))))))))))) ?_
 refine FJ.draw [ownA (kslice 73 72 (kraw kT_73.sz kT_73.pos)) (List.set fc70 (Int.toNat a) [.int .i64 y71.kind, .int .i64 y71.links, .int .i64 (L.length : Int), .slice Ao57 ((pickB f L b).list).length co57, .slice Ao78 y71.ents.length co78]) [.slice (some ad79) f.inodes.length co67], ownA kSl_2 y71.blocks [.slice Ao77 y71.blocks.length co77], seqC kT_73 (List.take (Int.toNat a) f.inodes) (List.take (Int.toNat a) fc70), seqC kT_73 (List.drop (Int.toNat a + 1) f.inodes) (List.drop (Int.toNat a + 1) fc70), rowA g69 31 2 1 [.slice (some ad79) f.inodes.length co67, .slice Ao68 f.data.length co68], ownA kSl_2 ((pickB f L b).list) [.slice Ao57 ((pickB f L b).list).length co57], rowA g54 143 2 1 [.int .i64 ((pickB f L b).code), .slice Ao57 ((pickB f L b).list).length co57], rowA g6 33 3 1 [.int .i64 0, .slice none 0 0, .slice none 0 0], rowA g5 31 2 1 [.slice A0_0 f.inodes.length c0_0, .slice A0_1 f.data.length c0_1]] 17 (by kernel_rfl) ?_
 refine FJ.sch [(0, true), (1, true), (2, true), (3, true), (4, true), (5, true), (6, true), (7, true), (8, true), (10, true), (11, true), (12, true), (13, true), (14, true), (9, false), (15, false), (16, true), (17, false)] 0 #[true, true, true, true, true, true, true, true, true, true, true, true, true, true, true, true, true, true] (by rfl) (by kernel_rfl) ?_
 refine FJ.dq rfl rfl rfl (by decide) rfl (.s (.s .z)) (q_fieldAddr rfl (.t (.s16 (.s (.s .z)))) (fun _ => fa_31_1 _ _)) (FJ.dq rfl rfl rfl (by decide) rfl (.s (.s .z)) (q_load rfl ag_23 (.t .z) (WS.row (.s4 .z) rfl)) (FJ.dq rfl rfl rfl (by decide) rfl (.s (.s .z)) (q_move rfl (.t (.s16 (.s (.s (.s .z)))))) (FJ.dq rfl rfl rfl (by decide) rfl (.s (.s .z)) (q_nilCheck rfl (.t .z)) (FJ.dq rfl rfl rfl (by decide) rfl (.s (.s .z)) (q_fieldAddr rfl (.t .z) (fun _ => fa_73_3 _ _)) ?_))))
 refine FJ.dq rfl rfl rfl (by decide) rfl (.s (.s .z)) (q_load rfl ag_27 (.t .z) (WS.raw .z (set_get hc72) rfl)) (FJ.dq rfl rfl rfl (by decide) rfl (.s (.s .z)) (q_move rfl (.t (.s16 (.s4 (.s (.s .z)))))) ?_)
 refine FJ.know (WS.oad (.s4 (.s (.s (.s .z)))) (by omega)) ?_
 rintro ⟨ad88, rfl⟩
 refine FJ.dq rfl rfl rfl (by decide) rfl (.s (.s .z)) (q_indexAddr (j := q) rfl u_27 sz_2 (.t (.s .z)) (.t .z) rfl (by first | omega | (rw [hdl]; omega) | (rw [hsl]; omega))) ?_
 obtain ⟨x89, hx89⟩ := get_ex (xs := (pickB f L b).list) (j := q) (by first | omega | (rw [hdl]; omega) | (rw [hsl]; omega))
 have pbx89 := hpi.1 _ (List.mem_of_getElem? hx89)
 refine FJ.dq rfl rfl rfl (by decide) rfl (.s (.s .z)) (q_load rfl ag_2 (.t .z) (WS.oel (.s4 (.s .z)) hx89)) (FJ.dq rfl rfl rfl (by decide) rfl (.s (.s .z)) (q_move rfl (.t (.s16 (.s4 (.s4 (.s4 (.s .z))))))) (FJ.dq rfl rfl rfl (by decide) rfl (.s (.s .z)) (q_move rfl (.t (.s16 (.s4 (.s4 (.s (.s .z))))))) ?_))
 refine FJ.dq rfl rfl rfl (by decide) rfl (.s (.s .z)) (q_mul (c := ((q * 8 : Nat) : Int)) rfl (.t .z) .c (wr (by omega) (by omega) (by omega))) ?_
 refine FJ.dq rfl rfl rfl (by decide) rfl (.s (.s .z)) (q_move rfl (.t (.s4 (.s4 (.s4 .z))))) ?_
 refine FJ.eq .z (congrArg (Value.int .i64) (show minI (L.length : Int) (((q + 1) * 8 : Nat) : Int) = ((Int.toNat (minI (L.length : Int) (((q + 1) * 8 : Nat) : Int)) : Nat) : Int) by omega)) ?_
 obtain ⟨As90, hAs90⟩ : ∃ A' : Option Addr, A' = (if c2 = q * 8 then A2 else Option.map (fun z => Addr.add z ((q * 8) * 1)) A2) := ⟨_, rfl⟩
 have hs90 := ro_sub (a := q * 8) (b := Int.toNat (minI (L.length : Int) (((q + 1) * 8 : Nat) : Int))) hAs90 h2 (by omega) (by omega)
 have ls90 := subL_len (xs := L) (a := q * 8) (b := Int.toNat (minI (L.length : Int) (((q + 1) * 8 : Nat) : Int))) (by omega)
 refine FJ.dq rfl rfl rfl (by decide) rfl (.s (.s .z)) (q_sliceL (a := q * 8) (b := Int.toNat (minI (L.length : Int) (((q + 1) * 8 : Nat) : Int))) rfl u_26 sz_5 (.t (.s (.s (.s .z)))) hAs90 (.inr ⟨_, _, rfl, (.t (.s .z))⟩) (.inr ⟨_, _, rfl, (.t .z)⟩) (by omega) (by omega) (by omega)) ?_
 refine FJ.e (goes_sch rfl rfl) rfl (by decide) rfl (e_buildNil rfl u_26 (inz inf_5)) ?_
 rintro _ _ ⟨g92, rfl, rfl⟩
 refine FJ.sk (.s (.s (.s .z))) ?_
 refine FJ.add (c := ownA kSl_5 ([] : (List UInt8)) [.slice (some ⟨g92, 0, none⟩) 0 0]) (fun w S => own_nil w S _) ?_
 refine FJ.e (goes_sch rfl rfl) rfl (by decide) rfl (e_appendF (flat_scalar _ _ _) rfl u_26 inf_5 rfl (.t .z) (.t (.s .z)) (.c .z .n) (fun w1 S1 tr => tr.ctx hs90) (by first | omega | (simp only [List.length_append, List.length_take, List.length_nil, List.length_cons]; omega)) (by first | omega | (simp only [List.length_append, List.length_take, List.length_nil, List.length_cons]; omega))) ?_
 rintro _ _ rfl
 refine FJ.ceq .z (List.nil_append _) ?_
 refine FJ.know (WS.oform .z) ?_
 rintro ⟨Ao94, co94, rfl, hlo94, hmo94, hbo94⟩
 refine FJ.sk (.s4 .z) ?_
 refine FJ.know (WS.oad (.s (.s .z)) (by omega)) ?_
 rintro ⟨ad95, rfl⟩
 refine FJ.dq rfl rfl rfl (by decide) rfl (.s4 .z) (q_indexAddr (j := Int.toNat x89) rfl u_23 sz_26 (.t (.s4 (.s4 (.s4 (.s (.s .z)))))) (.t (.s4 (.s (.s (.s .z))))) (by omega) (by first | omega | (rw [hdl]; omega) | (rw [hsl]; omega))) ?_
 refine FJ.es (goes_sch rfl rfl) rfl (es_set (j := Int.toNat x89) rfl sz_26 (.t .z) (.t (.s .z)) rfl (.c (.s (.s .z)) (.c .z .n)) (by first | omega | (rw [hdl]; omega) | (rw [hsl]; omega))) ?_
 refine FJ.ceq .z (by first | exact setD_s hx89 | rw [share_eq, setD_s hx89] | rw [share_eq', setD_s hx89]) ?_
 refine FJ.sl rfl ?_
 refine FJ.schN ?_
 refine FJ.drawN (by kernel_rfl) ?_
 refine FJ.inBN (FJ.then_ (FJ.region (FJ.ql rfl (q_move rfl (.t (.s16 (.s16 (.s .z))))) ?_)))
 refine FJ.ql rfl (q_add (c := ((q + 1 : Nat) : Int)) rfl (.t .z) .c (wr (by omega) (by omega) (by omega))) ?_
 refine FJ.er (.s16 (.s16 (.s (.s (.s .z))))) (FJ.ql rfl (q_assign rfl (.t .z)) (FJ.nil ?_))
 refine FJ.again (q + 1) (by omega) (by first | omega | (dsimp only; omega)) (.c .z (.c (.s16 (.s16 (.s4 .z))) (.c (.s16 (.s16 (.s4 (.s .z)))) (.c (.s16 (.s16 (.s4 (.s (.s .z))))) (.c (.s16 (.s16 (.s4 (.s (.s (.s .z)))))) .n))))) (fun _ h => h.sel (.c .z (.c (.s (.s .z)) (.c (.s (.s .z)) (.c (.s .z) (.c (.s .z) (.c (.s .z) (.c (.s .z) (.c (.s .z) (.c (.s .z) (.c (.s .z) (.c (.s .z) .n))))))))))))
 refine FJ.exit (FJ.thenE (FJ.thenE (FJ.inB (FJ.then_ ?_))))
 refine FJ.seq (FJ.region ?_)
 refine FJ.ql rfl (q_loadA (cs := [.slice (some ad79) f.inodes.length co67, .slice Ao68 f.data.length co68]) rfl ag_31 sz_31 (.t (.s4 (.s4 (.s .z)))) (WS.rows0 (.s4 (.s (.s .z))) (fun i u h => by exact h))) ?_
 refine FJ.ql rfl (q_build (ps := [(1, .agg #[.slice (some ad79) f.inodes.length co67, .slice Ao68 f.data.length co68])]) (cs := [.int .i64 0, .slice (some ad79) f.inodes.length co67, .slice Ao68 f.data.length co68]) rfl bl_33 (by intro act hact; simp only [List.map_toArray, List.map_cons, List.map_nil, (show Val _ _ _ from (.t .z)) act hact]) rfl) ?_
 refine FJ.es (goes_list rfl) rfl (es_store (off := 0) (cs := [.int .i64 0, .slice (some ad79) f.inodes.length co67, .slice Ao68 f.data.length co68]) rfl sz_33 (.t (.s4 (.s4 (.s4 .z)))) (.t .z) rfl (ones rfl) (.s4 (.s4 (.s .z))) (Nat.le_of_ble_eq_true rfl) (.c .z (.c (.s .z) (.c (.s (.s .z)) .n)))) ?_
 refine FJ.nil (FJ.then_ (FJ.ret ?_))
 refine FJ.turns (c := ownA kT_73 (⟨y71.kind, y71.links, (L.length : Int), (pickB f L b).list, y71.ents⟩ : DInode) [.int .i64 y71.kind, .int .i64 y71.links, .int .i64 (L.length : Int), .slice Ao57 ((pickB f L b).list).length co57, .slice Ao78 y71.ents.length co78]) (.c (.s4 (.s4 .z)) (.c (.s4 .z) .n)) (fun w S h => kT_73_omk (⟨y71.kind, y71.links, (L.length : Int), (pickB f L b).list, y71.ents⟩ : DInode) h) ?_
 refine FJ.turns (c := ownA kSl_73 (List.set f.inodes (Int.toNat a) (⟨y71.kind, y71.links, (L.length : Int), (pickB f L b).list, y71.ents⟩ : DInode)) [.slice (some ad79) f.inodes.length co67]) (.c (.s (.s (.s .z))) (.c .z (.c (.s (.s (.s .z))) (.c (.s (.s (.s .z))) .n)))) (own_unfocus (K := kT_73) hlfc70 (List.getElem?_eq_some_iff.1 hy71).1 rfl) ?_
 have he97 : List.set f.inodes (Int.toNat a) (⟨y71.kind, y71.links, (L.length : Int), (pickB f L b).list, y71.ents⟩ : DInode) = withB f.inodes a (L.length : Int) (pickB f L b).list := (withB_at hy71 (by omega))
 refine FJ.chEq .z (congrArg (fun z_ => (ownA kSl_73 (z_) [.slice (some ad79) f.inodes.length co67] : Asn)) he97) ?_
 refine FJ.ceq (x' := setD (dropAll f a) (pickB f L b).list L (pickB f L b).list.length) (.s (.s .z)) (by rw [show q = (pickB f L b).list.length by omega]) ?_
 refine FJ.doneS (resC (cs := [.int .i64 0, .slice (some ad79) f.inodes.length co67, .slice Ao68 f.data.length co68]) rfl (.s4 (.s4 (.s4 .z))) ag_33 sz_33 (WS.rows0 (cs := [.int .i64 0, .slice (some ad79) f.inodes.length co67, .slice Ao68 f.data.length co68]) (.s (.s .z)) (fun _ _ h => h))) (.c (.s .z) (.c .z .n)) ?_
 first | (rw [setG_2 (by omega)]; exact ⟨_, _, rfl, rfl⟩) | (rw [setG_p (by omega) hpn]; exact ⟨_, _, rfl, rfl⟩) | (rw [setG_0 (by omega) hpc]; exact ⟨_, _, rfl, rfl⟩)
 refine FJ.e (goes_sch rfl rfl) rfl (by decide) rfl (e_alloc rfl z_143 rfl rfl) ?_
 rintro _ _ ⟨g98, rfl, rfl⟩
 refine FJ.sk (.s .z) ?_
 refine FJ.schN ?_
 refine FJ.sch [(5, false), (6, false), (8, false)] 0 #[true, true, true, true, true, true, true, true, true] (by rfl) (by kernel_rfl) ?_
 refine FJ.call (goes_sch rfl rfl) rfl (by decide) rfl (c_call rfl Tryz.func116 rfl rfl (args1 (.t (.s .z)))) .n (fun w1 S1 hs tr => c_116 _ (by omega) (by omega)) ?_
 rintro _ _ ⟨rfl, rfl⟩
 refine FJ.cat .n ?_
 refine FJ.sk (.s .z) ?_
 refine FJ.call (goes_sch rfl rfl) rfl (by decide) rfl (c_call rfl Tryz.func115 rfl rfl (args3 (.t (.s4 (.s .z))) (.t (.s4 .z)) (.t .z))) .n (fun w1 S1 hs tr => c_115 (tr.ctx h0_0) (tr.ctx h3) _) ?_
 rintro _ _ ⟨v99, rfl, rfl⟩
 refine FJ.cat (.c .n) ?_
 refine FJ.know (WS.oform .z) ?_
 rintro ⟨Ao101, co101, rfl, hlo101, hmo101, hbo101⟩
 refine FJ.sk (.s (.s .z)) ?_
 refine FJ.es (goes_sch rfl rfl) rfl (es_store (off := 0) (cs := [.int .i64 ((pickR f.inodes b (((L.length : Int) + 7) / 8)).code), .slice Ao101 ((pickR f.inodes b (((L.length : Int) + 7) / 8)).list).length co101]) rfl sz_143 (.t (.s (.s .z))) (.t .z) rfl (ones rfl) (.s .z) (Nat.le_of_ble_eq_true rfl) (.c .z (.c (.s .z) .n))) ?_
 refine FJ.sl rfl ?_
 refine FJ.schN ?_
 refine FJ.drawN (by kernel_rfl) ?_
 refine FJ.then_ (FJ.seq (FJ.seq (FJ.region (FJ.ql rfl (q_fieldAddr rfl (.t (.s (.s .z))) (fun _ => fa_143_0 _ _)) ?_))))
 refine FJ.ql rfl (q_load rfl ag_2 (.t .z) (WS.row .z rfl)) (FJ.ql rfl (q_neq rfl (.t .z) .c) (FJ.nil (FJ.then_ ?_)))
 refine FJ.condN (.t .z) (fun b102 => ?_) (fun b102 => ?_)
 rw [hpk] at b102
 have he103 : (pickR f.inodes b (((L.length : Int) + 7) / 8)) = (pickB f L b) := hpk
 refine FJ.eq .z (congrArg (fun z_ : RInts => (.bool (!decide (z_.code = 0)) : Value)) he103) ?_
 refine FJ.eq (.s .z) (congrArg (fun z_ : RInts => (.int .i64 (z_.code) : Value)) he103) ?_
 refine FJ.eq (.s (.s (.s .z))) (congrArg (fun z_ : RInts => (.agg #[.int .i64 (z_.code), .slice Ao101 (z_.list).length co101] : Value)) he103) ?_
 refine FJ.chEq .z (congrArg (fun z_ : RInts => (rowA g98 143 2 1 [.int .i64 (z_.code), .slice Ao101 (z_.list).length co101] : Asn)) he103) ?_
 refine FJ.chEq (.s .z) (congrArg (fun z_ : RInts => (ownA kSl_2 (z_.list) [.slice Ao101 (z_.list).length co101] : Asn)) he103) ?_
 have hpn : ¬ (pickB f L b).code = 0 := b102
 refine FJ.seq (FJ.region (FJ.ql rfl (q_fieldAddr rfl (.t (.s4 (.s .z))) (fun _ => fa_143_0 _ _)) (FJ.ql rfl (q_load rfl ag_2 (.t .z) (WS.row (.s .z) rfl)) ?_)))
 refine FJ.ql rfl (q_build (ps := [(0, .int .i64 ((pickB f L b).code))]) (cs := [.int .i64 ((pickB f L b).code), .slice none 0 0, .slice none 0 0]) rfl bl_33 (by intro act hact; simp only [List.map_toArray, List.map_cons, List.map_nil, (show Val _ _ _ from (.t .z)) act hact]) rfl) ?_
 refine FJ.es (goes_list rfl) rfl (es_store (off := 0) (cs := [.int .i64 ((pickB f L b).code), .slice none 0 0, .slice none 0 0]) rfl sz_33 (.t (.s16 (.s (.s .z)))) (.t .z) rfl (ones rfl) (.s (.s .z)) (Nat.le_of_ble_eq_true rfl) (.c .z (.c (.s .z) (.c (.s (.s .z)) .n)))) ?_
 refine FJ.nil (FJ.then_ (FJ.ret (FJ.thenR ?_)))
 refine FJ.add (c := ownA kSl_73 [] [.slice none 0 0]) (fun w S => own_nil w S none) ?_
 refine FJ.add (c := ownA kSl_26 [] [.slice none 0 0]) (fun w S => own_nil w S none) ?_
 refine FJ.doneS (resC (cs := [.int .i64 ((pickB f L b).code), .slice none 0 0, .slice none 0 0]) rfl (.s16 (.s (.s .z))) ag_33 sz_33 (WS.rows0 (cs := [.int .i64 ((pickB f L b).code), .slice none 0 0, .slice none 0 0]) (.s (.s .z)) (fun _ _ h => h))) (.c (.s .z) (.c .z .n)) ?_
 first | (rw [setG_2 (by omega)]; exact ⟨_, _, rfl, rfl⟩) | (rw [setG_p (by omega) hpn]; exact ⟨_, _, rfl, rfl⟩) | (rw [setG_0 (by omega) hpc]; exact ⟨_, _, rfl, rfl⟩)
 rw [hpk] at b102
 have he106 : (pickR f.inodes b (((L.length : Int) + 7) / 8)) = (pickB f L b) := hpk
 refine FJ.eq .z (congrArg (fun z_ : RInts => (.bool (!decide (z_.code = 0)) : Value)) he106) ?_
 refine FJ.eq (.s .z) (congrArg (fun z_ : RInts => (.int .i64 (z_.code) : Value)) he106) ?_
 refine FJ.eq (.s (.s (.s .z))) (congrArg (fun z_ : RInts => (.agg #[.int .i64 (z_.code), .slice Ao101 (z_.list).length co101] : Value)) he106) ?_
 refine FJ.chEq .z (congrArg (fun z_ : RInts => (rowA g98 143 2 1 [.int .i64 (z_.code), .slice Ao101 (z_.list).length co101] : Asn)) he106) ?_
 refine FJ.chEq (.s .z) (congrArg (fun z_ : RInts => (ownA kSl_2 (z_.list) [.slice Ao101 (z_.list).length co101] : Asn)) he106) ?_
 have hpc : (pickB f L b).code = 0 := b102
 have hpi := pick_in hpc
 have hpl : ((pickB f L b).list.length : Int) = ((L.length : Int) + 7) / 8 := hpi.2
 refine FJ.skip (FJ.then_ (FJ.seq (FJ.region ?_)))
 refine FJ.ql rfl (q_loadA (cs := [.slice A0_0 f.inodes.length c0_0, .slice A0_1 f.data.length c0_1]) rfl ag_31 sz_31 (.t (.s16 .z)) (WS.rows0 (.s (.s (.s .z))) (fun i u h => by exact h))) ?_
 refine FJ.call (goes_list rfl) rfl (by decide) rfl (c_call rfl Tryz.func72 rfl rfl (args1 (.t .z))) .n (fun w1 S1 hs tr => c_72 (kT_31_mk f (tr.ctx h0_0) (tr.ctx h0_1))) ?_
 rintro _ _ ⟨v107, v109, rfl, rfl⟩
 refine FJ.cat (.c (.c .n)) ?_
 refine FJ.know (WS.oform .z) ?_
 rintro ⟨Ao111, co111, rfl, hlo111, hmo111, hbo111⟩
 refine FJ.know (WS.oform (.s .z)) ?_
 rintro ⟨Ao112, co112, rfl, hlo112, hmo112, hbo112⟩
 refine FJ.e (goes_list rfl) rfl (by decide) rfl (e_alloc rfl z_31 rfl rfl) ?_
 rintro _ _ ⟨g113, rfl, rfl⟩
 refine FJ.es (goes_list rfl) rfl (es_store (off := 0) (cs := [.slice Ao111 f.inodes.length co111, .slice Ao112 f.data.length co112]) rfl sz_31 (.t .z) (.t (.s .z)) rfl (ones rfl) .z (Nat.le_of_ble_eq_true rfl) (.c .z (.c (.s .z) .n))) ?_
 refine FJ.nil (FJ.then_ (FJ.seq (FJ.region (FJ.ql rfl (q_fieldAddr rfl (.t .z) (fun _ => fa_31_0 _ _)) ?_))))
 refine FJ.ql rfl (q_load rfl ag_29 (.t .z) (WS.row .z rfl)) (FJ.ql rfl (q_move rfl (.t (.s16 (.s4 (.s (.s (.s .z))))))) ?_)
 refine FJ.open (.c (.s .z) .n) own_raw ?_
 rintro fc114 hlfc114
 obtain ⟨y115, hy115⟩ := get_ex (xs := f.inodes) (j := Int.toNat a) (by first | omega | (rw [hdl]; omega) | (rw [hsl]; omega))
 obtain ⟨c116, hc116⟩ := get_ex (xs := fc114) (j := Int.toNat a) (by rw [hlfc114]; exact (List.getElem?_eq_some_iff.1 hy115).1)
 refine FJ.turn (.s .z) (seq_split hy115 hc116) ?_
 refine FJ.open (.c .z .n) kT_73_op ?_
 rintro ⟨v117, v118⟩ rfl
 refine FJ.know (WS.oform .z) ?_
 rintro ⟨Ao121, co121, rfl, hlo121, hmo121, hbo121⟩
 refine FJ.know (WS.oform (.s .z)) ?_
 rintro ⟨Ao122, co122, rfl, hlo122, hmo122, hbo122⟩
 have nby115 := blocks_at (a := a) hy115 (by omega)
 have hby115 : ∀ b, b ∈ y115.blocks → 0 ≤ b ∧ b ≤ 19 := by rw [← nby115]; exact hB
 refine FJ.know (WS.oad (.s4 .z) (by omega)) ?_
 rintro ⟨ad123, rfl⟩
 refine FJ.ql rfl (q_indexAddr (j := Int.toNat a) rfl u_29 sz_73 (.t (.s .z)) (.t .z) (by omega) (by first | omega | (rw [hdl]; omega) | (rw [hsl]; omega))) ?_
 refine FJ.ql rfl (q_assign rfl (.t .z)) (FJ.nil (FJ.then_ (FJ.seq (FJ.seq ?_))))
 refine FJ.region (FJ.ql rfl (q_assign rfl .c) (FJ.nil (FJ.then_ (FJ.block ?_))))
 refine FJ.ceq (x' := dropB f.data y115.blocks 0) (.s4 (.s (.s .z))) rfl ?_
 refine FJ.loopi (γ := Nat) (fun k => [(12, .int .i64 (k : Int)), (11, .pointer (some (Addr.add ad123 ((Int.toNat a) * 5)))), (10, .pointer (some ⟨g113, 0, none⟩)), (9, .pointer (some ⟨g98, 0, none⟩)), (8, .pointer (some ⟨g6, 0, none⟩)), (2, .slice A2 L.length c2)]) (fun k => [ownA kSl_26 (dropB f.data y115.blocks k) [.slice Ao112 f.data.length co112], ownA kSl_2 y115.blocks [.slice Ao121 y115.blocks.length co121], ownA kSl_151 y115.ents [.slice Ao122 y115.ents.length co122], seqC kT_73 (List.take (Int.toNat a) f.inodes) (List.take (Int.toNat a) fc114), seqC kT_73 (List.drop (Int.toNat a + 1) f.inodes) (List.drop (Int.toNat a + 1) fc114), ownA (kslice 73 72 (kraw kT_73.sz kT_73.pos)) fc114 [.slice (some ad123) f.inodes.length co111], rowA g113 31 2 1 [.slice (some ad123) f.inodes.length co111, .slice Ao112 f.data.length co112], ownA kSl_2 ((pickB f L b).list) [.slice Ao101 ((pickB f L b).list).length co101], rowA g98 143 2 1 [.int .i64 ((pickB f L b).code), .slice Ao101 ((pickB f L b).list).length co101], rowA g6 33 3 1 [.int .i64 0, .slice none 0 0, .slice none 0 0], rowA g5 31 2 1 [.slice A0_0 f.inodes.length c0_0, .slice A0_1 f.data.length c0_1]]) (fun k => k ≤ y115.blocks.length) (fun k => y115.blocks.length - k) 0 (Nat.zero_le _) (.c .z (.c (.s .z) (.c (.s4 (.s (.s .z))) (.c (.s4 (.s4 (.s4 (.s (.s .z))))) (.c (.s16 (.s4 (.s4 .z))) (.c (.s16 (.s4 (.s4 (.s4 .z)))) .n)))))) (fun _ h => h.sel (.c .z (.c .z (.c .z (.c .z (.c .z (.c .z (.c .z (.c .z (.c .z (.c .z (.c .z .n)))))))))))) ?_
 rintro k hk
 have hdl := dropB_len (data := f.data) (bs := y115.blocks) k
 refine FJ.seq (FJ.seq (FJ.region (FJ.ql rfl (q_move rfl (.t .z)) (FJ.ql rfl (q_move rfl (.t (.s (.s .z)))) ?_))))
 refine FJ.ql rfl (q_nilCheck rfl (.t .z)) (FJ.ql rfl (q_fieldAddr rfl (.t .z) (fun _ => fa_73_3 _ _)) (FJ.ql rfl (q_load rfl ag_27 (.t .z) (WS.raw (.s4 (.s .z)) hc116 rfl)) (FJ.ql rfl (q_len rfl u_27 (.t .z)) (FJ.ql rfl (q_lss rfl (.t (.s4 (.s .z))) (.t .z)) ?_))))
 refine FJ.nil (FJ.then_ ?_)
 refine FJ.condP (.t .z) (fun b125 => ?_) (fun b125 => ?_)
 refine FJ.skip (FJ.then_ (FJ.seq (FJ.block ?_)))
 refine FJ.draw [ownA kSl_26 (dropB f.data y115.blocks k) [.slice Ao112 f.data.length co112], ownA kSl_2 y115.blocks [.slice Ao121 y115.blocks.length co121], ownA kSl_151 y115.ents [.slice Ao122 y115.ents.length co122], seqC kT_73 (List.take (Int.toNat a) f.inodes) (List.take (Int.toNat a) fc114), seqC kT_73 (List.drop (Int.toNat a + 1) f.inodes) (List.drop (Int.toNat a + 1) fc114), ownA (kslice 73 72 (kraw kT_73.sz kT_73.pos)) fc114 [.slice (some ad123) f.inodes.length co111], rowA g113 31 2 1 [.slice (some ad123) f.inodes.length co111, .slice Ao112 f.data.length co112], ownA kSl_2 ((pickB f L b).list) [.slice Ao101 ((pickB f L b).list).length co101], rowA g98 143 2 1 [.int .i64 ((pickB f L b).code), .slice Ao101 ((pickB f L b).list).length co101], rowA g6 33 3 1 [.int .i64 0, .slice none 0 0, .slice none 0 0], rowA g5 31 2 1 [.slice A0_0 f.inodes.length c0_0, .slice A0_1 f.data.length c0_1]] 10 (by kernel_rfl) ?_
 refine FJ.sch [(0, true), (1, true), (2, true), (3, true), (4, true), (5, true), (6, true), (7, true), (8, true), (9, true), (10, false)] 0 #[true, true, true, true, true, true, true, true, true, true, true] (by rfl) (by kernel_rfl) ?_
 refine FJ.dq rfl rfl rfl (by decide) rfl .z (q_fieldAddr rfl (.t (.s4 (.s4 (.s .z)))) (fun _ => fa_31_1 _ _)) (FJ.dq rfl rfl rfl (by decide) rfl .z (q_load rfl ag_23 (.t .z) (WS.row (.s4 (.s (.s .z))) rfl)) (FJ.dq rfl rfl rfl (by decide) rfl .z (q_move rfl (.t (.s4 (.s4 (.s (.s .z)))))) (FJ.dq rfl rfl rfl (by decide) rfl .z (q_nilCheck rfl (.t .z)) (FJ.dq rfl rfl rfl (by decide) rfl .z (q_fieldAddr rfl (.t .z) (fun _ => fa_73_3 _ _)) ?_))))
 refine FJ.dq rfl rfl rfl (by decide) rfl .z (q_load rfl ag_27 (.t .z) (WS.raw (.s4 (.s .z)) hc116 rfl)) (FJ.dq rfl rfl rfl (by decide) rfl .z (q_move rfl (.t (.s4 (.s4 (.s4 (.s .z)))))) ?_)
 refine FJ.know (WS.oad (.s .z) (by omega)) ?_
 rintro ⟨ad126, rfl⟩
 refine FJ.dq rfl rfl rfl (by decide) rfl .z (q_indexAddr (j := k) rfl u_27 sz_2 (.t (.s .z)) (.t .z) rfl (by first | omega | (rw [hdl]; omega) | (rw [hsl]; omega))) ?_
 obtain ⟨x127, hx127⟩ := get_ex (xs := y115.blocks) (j := k) (by first | omega | (rw [hdl]; omega) | (rw [hsl]; omega))
 have pbx127 := hby115 _ (List.mem_of_getElem? hx127)
 refine FJ.dq rfl rfl rfl (by decide) rfl .z (q_load rfl ag_2 (.t .z) (WS.oel (.s .z) hx127)) ?_
 refine FJ.know (WS.oad .z (by omega)) ?_
 rintro ⟨ad128, rfl⟩
 refine FJ.dq rfl rfl rfl (by decide) rfl .z (q_indexAddr (j := Int.toNat x127) rfl u_23 sz_26 (.t (.s4 (.s (.s (.s .z))))) (.t .z) (by omega) (by first | omega | (rw [hdl]; omega) | (rw [hsl]; omega))) ?_
 refine FJ.add (c := ownA kSl_5 [] [.slice none 0 0]) (fun w S => own_nil w S none) ?_
 refine FJ.es (goes_sch rfl rfl) rfl (es_set (j := Int.toNat x127) rfl sz_26 (.t .z) .c rfl (.c (.s .z) (.c .z .n)) (by first | omega | (rw [hdl]; omega) | (rw [hsl]; omega))) ?_
 refine FJ.ceq .z (dropB_s hx127) ?_
 refine FJ.sl rfl ?_
 refine FJ.schN ?_
 refine FJ.drawN (by kernel_rfl) ?_
 refine FJ.inBN (FJ.then_ (FJ.region (FJ.ql rfl (q_move rfl (.t (.s16 (.s .z)))) ?_)))
 refine FJ.ql rfl (q_add (c := ((k + 1 : Nat) : Int)) rfl (.t .z) .c (wr (by omega) (by omega) (by omega))) ?_
 refine FJ.er (.s16 (.s (.s (.s .z)))) (FJ.ql rfl (q_assign rfl (.t .z)) (FJ.nil ?_))
 refine FJ.again (k + 1) (by omega) (by first | omega | (dsimp only; omega)) (.c .z (.c (.s16 (.s4 .z)) (.c (.s16 (.s4 (.s .z))) (.c (.s16 (.s4 (.s (.s .z)))) (.c (.s16 (.s4 (.s (.s (.s .z))))) (.c (.s16 (.s4 (.s4 .z))) .n)))))) (fun _ h => h.sel (.c .z (.c .z (.c .z (.c .z (.c .z (.c .z (.c .z (.c .z (.c .z (.c .z (.c .z .n))))))))))))
 refine FJ.exit (FJ.thenE (FJ.thenE (FJ.inB (FJ.then_ ?_))))
 refine FJ.seq (FJ.region (FJ.ql rfl (q_move rfl (.t (.s4 (.s4 .z)))) (FJ.ql rfl (q_fieldAddr rfl (.t (.s4 (.s4 (.s (.s (.s .z)))))) (fun _ => fa_143_1 _ _)) (FJ.ql rfl (q_load rfl ag_27 (.t .z) (WS.row (.s4 (.s4 .z)) rfl)) ?_))))
 refine FJ.ql rfl (q_nilCheck rfl (.t (.s (.s .z)))) (FJ.ql rfl (q_fieldAddr rfl (.t .z) (fun _ => fa_73_3 _ _)) ?_)
 refine FJ.es (goes_list rfl) rfl (es_raw (j := Int.toNat a) (off := 3) (cs := [.slice Ao101 ((pickB f L b).list).length co101]) rfl sz_27 (.t .z) (add_add _ _ _) (.t (.s (.s .z))) rfl (ones rfl) (.s4 (.s .z)) hc116 (Nat.le_of_ble_eq_true rfl)) ?_
 refine FJ.ceq (x' := List.set fc114 (Int.toNat a) [.int .i64 y115.kind, .int .i64 y115.links, .int .i64 y115.size, .slice Ao101 ((pickB f L b).list).length co101, .slice Ao122 y115.ents.length co122]) .z rfl ?_
 refine FJ.nil (FJ.then_ (FJ.seq (FJ.region (FJ.ql rfl (q_move rfl (.t (.s4 (.s4 (.s4 (.s .z)))))) ?_))))
 refine FJ.ql rfl (q_move rfl (.t (.s16 (.s (.s .z))))) (FJ.ql rfl (q_len rfl u_26 (.t .z)) (FJ.ql rfl (q_nilCheck rfl (.t (.s (.s .z)))) (FJ.ql rfl (q_fieldAddr rfl (.t .z) (fun _ => fa_73_2 _ _)) ?_)))
 refine FJ.es (goes_list rfl) rfl (es_raw (j := Int.toNat a) (off := 2) (cs := [.int .i64 (L.length : Int)]) rfl sz_2 (.t .z) (add_add _ _ _) (.t (.s (.s .z))) rfl (ones rfl) .z (set_get hc116) (Nat.le_of_ble_eq_true rfl)) ?_
 refine FJ.ceq (x' := List.set fc114 (Int.toNat a) [.int .i64 y115.kind, .int .i64 y115.links, .int .i64 (L.length : Int), .slice Ao101 ((pickB f L b).list).length co101, .slice Ao122 y115.ents.length co122]) .z (List.set_set ..) ?_
 refine FJ.nil (FJ.then_ (FJ.seq (FJ.seq (FJ.region ?_))))
 refine FJ.ql rfl (q_assign rfl .c) (FJ.nil (FJ.then_ (FJ.block ?_)))
 refine FJ.ceq (x' := dropAll f a) (.s .z) (by unfold dropAll; rw [nby115, show k = y115.blocks.length by omega]) ?_
 refine FJ.ceq (x' := setD (dropAll f a) (pickB f L b).list L 0) .z rfl ?_
 refine FJ.loopi (γ := Nat) (fun q => [(13, .int .i64 (q : Int)), (11, .pointer (some (Addr.add ad123 ((Int.toNat a) * 5)))), (10, .pointer (some ⟨g113, 0, none⟩)), (8, .pointer (some ⟨g6, 0, none⟩)), (2, .slice A2 L.length c2)]) (fun q => [ownA kSl_26 (setD (dropAll f a) (pickB f L b).list L q) [.slice Ao112 f.data.length co112], ownA (kslice 73 72 (kraw kT_73.sz kT_73.pos)) (List.set fc114 (Int.toNat a) [.int .i64 y115.kind, .int .i64 y115.links, .int .i64 (L.length : Int), .slice Ao101 ((pickB f L b).list).length co101, .slice Ao122 y115.ents.length co122]) [.slice (some ad123) f.inodes.length co111], ownA kSl_2 y115.blocks [.slice Ao121 y115.blocks.length co121], ownA kSl_151 y115.ents [.slice Ao122 y115.ents.length co122], seqC kT_73 (List.take (Int.toNat a) f.inodes) (List.take (Int.toNat a) fc114), seqC kT_73 (List.drop (Int.toNat a + 1) f.inodes) (List.drop (Int.toNat a + 1) fc114), rowA g113 31 2 1 [.slice (some ad123) f.inodes.length co111, .slice Ao112 f.data.length co112], ownA kSl_2 ((pickB f L b).list) [.slice Ao101 ((pickB f L b).list).length co101], rowA g98 143 2 1 [.int .i64 ((pickB f L b).code), .slice Ao101 ((pickB f L b).list).length co101], rowA g6 33 3 1 [.int .i64 0, .slice none 0 0, .slice none 0 0], rowA g5 31 2 1 [.slice A0_0 f.inodes.length c0_0, .slice A0_1 f.data.length c0_1]]) (fun q => q ≤ (pickB f L b).list.length) (fun q => (pickB f L b).list.length - q) 0 (Nat.zero_le _) (.c .z (.c (.s16 (.s (.s (.s .z)))) (.c (.s16 (.s4 .z)) (.c (.s16 (.s4 (.s (.s .z)))) (.c (.s16 (.s4 (.s (.s (.s .z))))) .n))))) (fun _ h => h.sel (.c .z (.c .z (.c .z (.c .z (.c .z (.c .z (.c .z (.c .z (.c .z (.c .z (.c .z .n)))))))))))) ?_
 rintro q hq
 have hsl := (setD_len (data := dropAll f a) (bs := (pickB f L b).list) (L := L) q).trans (dropB_len _)
 refine FJ.seq (FJ.seq (FJ.region (FJ.ql rfl (q_move rfl (.t .z)) (FJ.ql rfl (q_move rfl (.t (.s (.s .z)))) ?_))))
 refine FJ.ql rfl (q_nilCheck rfl (.t .z)) (FJ.ql rfl (q_fieldAddr rfl (.t .z) (fun _ => fa_73_3 _ _)) (FJ.ql rfl (q_load rfl ag_27 (.t .z) (WS.raw (.s .z) (set_get hc116) rfl)) (FJ.ql rfl (q_len rfl u_27 (.t .z)) (FJ.ql rfl (q_lss rfl (.t (.s4 (.s .z))) (.t .z)) ?_))))
 refine FJ.nil (FJ.then_ ?_)
 refine FJ.condP (.t .z) (fun b130 => ?_) (fun b130 => ?_)
 refine FJ.skip (FJ.then_ (FJ.seq (FJ.block (FJ.seq ?_))))
 refine FJ.region (FJ.ql rfl (q_move rfl (.t (.s4 (.s4 .z)))) (FJ.ql rfl (q_nilCheck rfl (.t .z)) (FJ.ql rfl (q_fieldAddr rfl (.t .z) (fun _ => fa_73_2 _ _)) (FJ.ql rfl (q_load rfl ag_2 (.t .z) (WS.raw (.s .z) (set_get hc116) rfl)) ?_))))
 refine FJ.ql rfl (q_move rfl (.t (.s4 (.s4 (.s (.s (.s .z))))))) ?_
 refine FJ.ql rfl (q_add (c := ((q + 1 : Nat) : Int)) rfl (.t .z) .c (wr (by omega) (by omega) (by omega))) ?_
 refine FJ.ql rfl (q_mul (c := (((q + 1) * 8 : Nat) : Int)) rfl (.t .z) .c (wr (by omega) (by omega) (by omega))) ?_
 refine FJ.call (goes_list rfl) rfl (by decide) rfl (c_call rfl Tryz.func90 rfl rfl (args2 (.t (.s (.s (.s .z)))) (.t .z))) .n (fun w1 S1 hs tr => c_90 _ _) ?_
 rintro _ _ ⟨rfl, rfl⟩
 refine FJ.cat .n ?_
 have hm131 := minI_spec (L.length : Int) (((q + 1) * 8 : Nat) : Int)
 refine FJ.ql rfl (q_assign rfl (.t .z)) (FJ.nil (FJ.then_ ?_))
 refine FJ.sel (.c .z (.c (.s (.s .z)) (.c .z (.c .z (.c .z (.c .z (.c .z (.c .z (.c .z (.c .z (.c .z .n))))))))))) ?_
 refine FJ.draw [ownA (kslice 73 72 (kraw kT_73.sz kT_73.pos)) (List.set fc114 (Int.toNat a) [.int .i64 y115.kind, .int .i64 y115.links, .int .i64 (L.length : Int), .slice Ao101 ((pickB f L b).list).length co101, .slice Ao122 y115.ents.length co122]) [.slice (some ad123) f.inodes.length co111], ownA kSl_2 y115.blocks [.slice Ao121 y115.blocks.length co121], seqC kT_73 (List.take (Int.toNat a) f.inodes) (List.take (Int.toNat a) fc114), seqC kT_73 (List.drop (Int.toNat a + 1) f.inodes) (List.drop (Int.toNat a + 1) fc114), rowA g113 31 2 1 [.slice (some ad123) f.inodes.length co111, .slice Ao112 f.data.length co112], ownA kSl_2 ((pickB f L b).list) [.slice Ao101 ((pickB f L b).list).length co101], rowA g98 143 2 1 [.int .i64 ((pickB f L b).code), .slice Ao101 ((pickB f L b).list).length co101], rowA g6 33 3 1 [.int .i64 0, .slice none 0 0, .slice none 0 0], rowA g5 31 2 1 [.slice A0_0 f.inodes.length c0_0, .slice A0_1 f.data.length c0_1]] 17 (by kernel_rfl) ?_
 refine FJ.sch [(0, true), (1, true), (2, true), (3, true), (4, true), (5, true), (6, true), (7, true), (8, true), (10, true), (11, true), (12, true), (13, true), (14, true), (9, false), (15, false), (16, true), (17, false)] 0 #[true, true, true, true, true, true, true, true, true, true, true, true, true, true, true, true, true, true] (by rfl) (by kernel_rfl) ?_
 refine FJ.dq rfl rfl rfl (by decide) rfl (.s (.s .z)) (q_fieldAddr rfl (.t (.s16 (.s (.s .z)))) (fun _ => fa_31_1 _ _)) (FJ.dq rfl rfl rfl (by decide) rfl (.s (.s .z)) (q_load rfl ag_23 (.t .z) (WS.row (.s4 .z) rfl)) (FJ.dq rfl rfl rfl (by decide) rfl (.s (.s .z)) (q_move rfl (.t (.s16 (.s (.s (.s .z)))))) (FJ.dq rfl rfl rfl (by decide) rfl (.s (.s .z)) (q_nilCheck rfl (.t .z)) (FJ.dq rfl rfl rfl (by decide) rfl (.s (.s .z)) (q_fieldAddr rfl (.t .z) (fun _ => fa_73_3 _ _)) ?_))))
 refine FJ.dq rfl rfl rfl (by decide) rfl (.s (.s .z)) (q_load rfl ag_27 (.t .z) (WS.raw .z (set_get hc116) rfl)) (FJ.dq rfl rfl rfl (by decide) rfl (.s (.s .z)) (q_move rfl (.t (.s16 (.s4 (.s (.s .z)))))) ?_)
 refine FJ.know (WS.oad (.s4 (.s (.s (.s .z)))) (by omega)) ?_
 rintro ⟨ad132, rfl⟩
 refine FJ.dq rfl rfl rfl (by decide) rfl (.s (.s .z)) (q_indexAddr (j := q) rfl u_27 sz_2 (.t (.s .z)) (.t .z) rfl (by first | omega | (rw [hdl]; omega) | (rw [hsl]; omega))) ?_
 obtain ⟨x133, hx133⟩ := get_ex (xs := (pickB f L b).list) (j := q) (by first | omega | (rw [hdl]; omega) | (rw [hsl]; omega))
 have pbx133 := hpi.1 _ (List.mem_of_getElem? hx133)
 refine FJ.dq rfl rfl rfl (by decide) rfl (.s (.s .z)) (q_load rfl ag_2 (.t .z) (WS.oel (.s4 (.s .z)) hx133)) (FJ.dq rfl rfl rfl (by decide) rfl (.s (.s .z)) (q_move rfl (.t (.s16 (.s4 (.s4 (.s4 (.s .z))))))) (FJ.dq rfl rfl rfl (by decide) rfl (.s (.s .z)) (q_move rfl (.t (.s16 (.s4 (.s4 (.s (.s .z))))))) ?_))
 refine FJ.dq rfl rfl rfl (by decide) rfl (.s (.s .z)) (q_mul (c := ((q * 8 : Nat) : Int)) rfl (.t .z) .c (wr (by omega) (by omega) (by omega))) ?_
 refine FJ.dq rfl rfl rfl (by decide) rfl (.s (.s .z)) (q_move rfl (.t (.s4 (.s4 (.s4 .z))))) ?_
 refine FJ.eq .z (congrArg (Value.int .i64) (show minI (L.length : Int) (((q + 1) * 8 : Nat) : Int) = ((Int.toNat (minI (L.length : Int) (((q + 1) * 8 : Nat) : Int)) : Nat) : Int) by omega)) ?_
 obtain ⟨As134, hAs134⟩ : ∃ A' : Option Addr, A' = (if c2 = q * 8 then A2 else Option.map (fun z => Addr.add z ((q * 8) * 1)) A2) := ⟨_, rfl⟩
 have hs134 := ro_sub (a := q * 8) (b := Int.toNat (minI (L.length : Int) (((q + 1) * 8 : Nat) : Int))) hAs134 h2 (by omega) (by omega)
 have ls134 := subL_len (xs := L) (a := q * 8) (b := Int.toNat (minI (L.length : Int) (((q + 1) * 8 : Nat) : Int))) (by omega)
 refine FJ.dq rfl rfl rfl (by decide) rfl (.s (.s .z)) (q_sliceL (a := q * 8) (b := Int.toNat (minI (L.length : Int) (((q + 1) * 8 : Nat) : Int))) rfl u_26 sz_5 (.t (.s (.s (.s .z)))) hAs134 (.inr ⟨_, _, rfl, (.t (.s .z))⟩) (.inr ⟨_, _, rfl, (.t .z)⟩) (by omega) (by omega) (by omega)) ?_
 refine FJ.e (goes_sch rfl rfl) rfl (by decide) rfl (e_buildNil rfl u_26 (inz inf_5)) ?_
 rintro _ _ ⟨g136, rfl, rfl⟩
 refine FJ.sk (.s (.s (.s .z))) ?_
 refine FJ.add (c := ownA kSl_5 ([] : (List UInt8)) [.slice (some ⟨g136, 0, none⟩) 0 0]) (fun w S => own_nil w S _) ?_
 refine FJ.e (goes_sch rfl rfl) rfl (by decide) rfl (e_appendF (flat_scalar _ _ _) rfl u_26 inf_5 rfl (.t .z) (.t (.s .z)) (.c .z .n) (fun w1 S1 tr => tr.ctx hs134) (by first | omega | (simp only [List.length_append, List.length_take, List.length_nil, List.length_cons]; omega)) (by first | omega | (simp only [List.length_append, List.length_take, List.length_nil, List.length_cons]; omega))) ?_
 rintro _ _ rfl
 refine FJ.ceq .z (List.nil_append _) ?_
 refine FJ.know (WS.oform .z) ?_
 rintro ⟨Ao138, co138, rfl, hlo138, hmo138, hbo138⟩
 refine FJ.sk (.s4 .z) ?_
 refine FJ.know (WS.oad (.s (.s .z)) (by omega)) ?_
 rintro ⟨ad139, rfl⟩
 refine FJ.dq rfl rfl rfl (by decide) rfl (.s4 .z) (q_indexAddr (j := Int.toNat x133) rfl u_23 sz_26 (.t (.s4 (.s4 (.s4 (.s (.s .z)))))) (.t (.s4 (.s (.s (.s .z))))) (by omega) (by first | omega | (rw [hdl]; omega) | (rw [hsl]; omega))) ?_
 refine FJ.es (goes_sch rfl rfl) rfl (es_set (j := Int.toNat x133) rfl sz_26 (.t .z) (.t (.s .z)) rfl (.c (.s (.s .z)) (.c .z .n)) (by first | omega | (rw [hdl]; omega) | (rw [hsl]; omega))) ?_
 refine FJ.ceq .z (by first | exact setD_s hx133 | rw [share_eq, setD_s hx133] | rw [share_eq', setD_s hx133]) ?_
 refine FJ.sl rfl ?_
 refine FJ.schN ?_
 refine FJ.drawN (by kernel_rfl) ?_
 refine FJ.inBN (FJ.then_ (FJ.region (FJ.ql rfl (q_move rfl (.t (.s16 (.s16 (.s .z))))) ?_)))
 refine FJ.ql rfl (q_add (c := ((q + 1 : Nat) : Int)) rfl (.t .z) .c (wr (by omega) (by omega) (by omega))) ?_
 refine FJ.er (.s16 (.s16 (.s (.s (.s .z))))) (FJ.ql rfl (q_assign rfl (.t .z)) (FJ.nil ?_))
 refine FJ.again (q + 1) (by omega) (by first | omega | (dsimp only; omega)) (.c .z (.c (.s16 (.s16 (.s4 .z))) (.c (.s16 (.s16 (.s4 (.s .z)))) (.c (.s16 (.s16 (.s4 (.s (.s .z))))) (.c (.s16 (.s16 (.s4 (.s (.s (.s .z)))))) .n))))) (fun _ h => h.sel (.c .z (.c (.s (.s .z)) (.c (.s (.s .z)) (.c (.s .z) (.c (.s .z) (.c (.s .z) (.c (.s .z) (.c (.s .z) (.c (.s .z) (.c (.s .z) (.c (.s .z) .n))))))))))))
 refine FJ.exit (FJ.thenE (FJ.thenE (FJ.inB (FJ.then_ ?_))))
 refine FJ.seq (FJ.region ?_)
 refine FJ.ql rfl (q_loadA (cs := [.slice (some ad123) f.inodes.length co111, .slice Ao112 f.data.length co112]) rfl ag_31 sz_31 (.t (.s4 (.s4 (.s .z)))) (WS.rows0 (.s4 (.s (.s .z))) (fun i u h => by exact h))) ?_
 refine FJ.ql rfl (q_build (ps := [(1, .agg #[.slice (some ad123) f.inodes.length co111, .slice Ao112 f.data.length co112])]) (cs := [.int .i64 0, .slice (some ad123) f.inodes.length co111, .slice Ao112 f.data.length co112]) rfl bl_33 (by intro act hact; simp only [List.map_toArray, List.map_cons, List.map_nil, (show Val _ _ _ from (.t .z)) act hact]) rfl) ?_
 refine FJ.es (goes_list rfl) rfl (es_store (off := 0) (cs := [.int .i64 0, .slice (some ad123) f.inodes.length co111, .slice Ao112 f.data.length co112]) rfl sz_33 (.t (.s4 (.s4 (.s4 .z)))) (.t .z) rfl (ones rfl) (.s4 (.s4 (.s .z))) (Nat.le_of_ble_eq_true rfl) (.c .z (.c (.s .z) (.c (.s (.s .z)) .n)))) ?_
 refine FJ.nil (FJ.then_ (FJ.ret ?_))
 refine FJ.turns (c := ownA kT_73 (⟨y115.kind, y115.links, (L.length : Int), (pickB f L b).list, y115.ents⟩ : DInode) [.int .i64 y115.kind, .int .i64 y115.links, .int .i64 (L.length : Int), .slice Ao101 ((pickB f L b).list).length co101, .slice Ao122 y115.ents.length co122]) (.c (.s4 (.s4 .z)) (.c (.s4 .z) .n)) (fun w S h => kT_73_omk (⟨y115.kind, y115.links, (L.length : Int), (pickB f L b).list, y115.ents⟩ : DInode) h) ?_
 refine FJ.turns (c := ownA kSl_73 (List.set f.inodes (Int.toNat a) (⟨y115.kind, y115.links, (L.length : Int), (pickB f L b).list, y115.ents⟩ : DInode)) [.slice (some ad123) f.inodes.length co111]) (.c (.s (.s (.s .z))) (.c .z (.c (.s (.s (.s .z))) (.c (.s (.s (.s .z))) .n)))) (own_unfocus (K := kT_73) hlfc114 (List.getElem?_eq_some_iff.1 hy115).1 rfl) ?_
 have he141 : List.set f.inodes (Int.toNat a) (⟨y115.kind, y115.links, (L.length : Int), (pickB f L b).list, y115.ents⟩ : DInode) = withB f.inodes a (L.length : Int) (pickB f L b).list := (withB_at hy115 (by omega))
 refine FJ.chEq .z (congrArg (fun z_ => (ownA kSl_73 (z_) [.slice (some ad123) f.inodes.length co111] : Asn)) he141) ?_
 refine FJ.ceq (x' := setD (dropAll f a) (pickB f L b).list L (pickB f L b).list.length) (.s (.s .z)) (by rw [show q = (pickB f L b).list.length by omega]) ?_
 refine FJ.doneS (resC (cs := [.int .i64 0, .slice (some ad123) f.inodes.length co111, .slice Ao112 f.data.length co112]) rfl (.s4 (.s4 (.s4 .z))) ag_33 sz_33 (WS.rows0 (cs := [.int .i64 0, .slice (some ad123) f.inodes.length co111, .slice Ao112 f.data.length co112]) (.s (.s .z)) (fun _ _ h => h))) (.c (.s .z) (.c .z .n)) ?_
 first | (rw [setG_2 (by omega)]; exact ⟨_, _, rfl, rfl⟩) | (rw [setG_p (by omega) hpn]; exact ⟨_, _, rfl, rfl⟩) | (rw [setG_0 (by omega) hpc]; exact ⟨_, _, rfl, rfl⟩)

set_option maxHeartbeats 1000000 in
set_option maxRecDepth 20000 in
theorem c_133 {w0 : World} {S0 : Bs} {x : (List UInt8)} {v0 : Value} (n : Int) (hs : Star [ownA kSl_5 x [v0]] w0 S0) (hx : x.length ≤ 32) (hn : n ≤ 1100) :
    Calls Tryz.prog 133 #[v0, .int .i64 n] w0 (TriPost w0 S0 (fun r l => l = [ownA kSl_5 (padZ x n) [r]])) := by
 refine FJ.enter (N := 13) Tryz.func133 rfl rfl (by simp) [(0, v0), (1, .int .i64 n)] (by simp) hs ?_
 refine FJ.know (WS.oform .z) ?_
 rintro ⟨Ao1, co1, rfl, hlo1, hmo1, hbo1⟩
 refine FJ.seq (FJ.region (FJ.ql rfl (q_assign rfl .c) (FJ.nil (FJ.then_ ?_))))
 refine FJ.seq (FJ.block ?_)
 have he2 : x = x ++ List.replicate 0 0 := (padz_0 _)
 refine FJ.ceq .z he2 ?_
 refine FJ.chEq .z (congrArg (fun z_ : Nat => (ownA kSl_5 (x ++ List.replicate 0 0) [.slice Ao1 z_ co1] : Asn)) (congrArg List.length he2)) ?_
 refine FJ.eq (.s .z) (congrArg (fun z_ : Nat => (.slice Ao1 z_ co1 : Value)) (congrArg List.length he2)) ?_
 refine FJ.loopi (γ := Nat × (Option Addr) × Nat) (fun ⟨k, Agk0, cgk0⟩ => [(0, .slice Agk0 (x ++ List.replicate k 0).length cgk0), (4, .slice none 0 0), (1, .int .i64 n)]) (fun ⟨k, Agk0, cgk0⟩ => [ownA kSl_5 (x ++ List.replicate k 0) [.slice Agk0 (x ++ List.replicate k 0).length cgk0]]) (fun ⟨k, Agk0, cgk0⟩ => k ≤ Int.toNat (n) - x.length) (fun ⟨k, Agk0, cgk0⟩ => Int.toNat (n) - x.length - k) (0, Ao1, co1) (Nat.zero_le _) (.c .z (.c (.s .z) (.c (.s (.s .z)) .n))) (fun _ h => h.sel (.c .z .n)) ?_
 rintro ⟨k, Agk0, cgk0⟩ hk
 have hpl := padz_len (L := x) (k := k)
 refine FJ.seq (FJ.seq (FJ.region (FJ.ql rfl (q_move rfl (.t .z)) ?_)))
 refine FJ.call (goes_list rfl) rfl (by decide) rfl (c_call rfl Tryz.func125 rfl rfl (args1 (.t .z))) .n (fun w1 S1 hs tr => c_125 (tr.own .z)) ?_
 rintro _ _ ⟨rfl, rfl⟩
 refine FJ.cat .n ?_
 refine FJ.ql rfl (q_move rfl (.t (.s4 .z))) (FJ.ql rfl (q_lss rfl (.t (.s .z)) (.t .z)) (FJ.nil (FJ.then_ ?_)))
 refine FJ.condP (.t .z) (fun b3 => ?_) (fun b3 => ?_)
 refine FJ.skip (FJ.then_ (FJ.block (FJ.region (FJ.ql rfl (q_move rfl (.t (.s4 .z))) ?_))))
 refine FJ.e (goes_list rfl) rfl (by decide) rfl (e_buildSliceL (ps := [(0, .int .u8 0)]) (cs := [.int .u8 0]) rfl u_26 (inz inf_5) (by decide) (by intro act hact; simp only [List.map_toArray, List.map_cons, List.map_nil, (show Val _ _ _ from .c) act hact]) rfl rfl (by decide) rfl rfl) ?_
 rintro _ _ ⟨g4, rfl, rfl⟩
 refine FJ.add (c := ownA kbyte (0 : UInt8) [.int .u8 0]) (fun _ _ => ⟨rfl, trivial⟩) ?_
 refine FJ.e (goes_list rfl) rfl (by decide) rfl (e_append1 rfl u_26 inf_5 rfl (.t (.s .z)) (.t .z) (.c (.s (.s .z)) (.c (.s .z) (.c .z .n))) (by first | omega | (simp only [List.length_append, List.length_replicate, List.length_cons, List.length_nil]; omega)) (by first | omega | (simp only [List.length_append, List.length_replicate, List.length_cons, List.length_nil]; omega))) ?_
 rintro _ _ rfl
 refine FJ.ceq .z padz_s ?_
 refine FJ.know (WS.oform .z) ?_
 rintro ⟨Ao6, co6, rfl, hlo6, hmo6, hbo6⟩
 refine FJ.er (.s4 (.s (.s (.s .z)))) (FJ.ql rfl (q_assign rfl (.t .z)) (FJ.nil (FJ.inBN ?_)))
 refine FJ.again ((k + 1), Ao6, co6) (by omega) (by first | omega | (dsimp only; omega)) (.c .z (.c (.s4 (.s4 .z)) (.c (.s4 (.s4 (.s .z))) .n))) (fun _ h => h.sel (.c .z .n))
 refine FJ.exit (FJ.thenE (FJ.thenE (FJ.inB (FJ.then_ ?_))))
 refine FJ.seq (FJ.region (FJ.ql rfl (q_move rfl (.t (.s4 .z))) (FJ.er (.s4 (.s (.s .z))) (FJ.ql rfl (q_assign rfl (.t .z)) ?_))))
 refine FJ.nil (FJ.then_ (FJ.ret ?_))
 have he7 : x ++ List.replicate k 0 = padZ x n := (padz_all (by omega) (by omega))
 refine FJ.eq .z (congrArg (fun z_ => (.slice Agk0 (z_).length cgk0 : Value)) he7) ?_
 refine FJ.eq (.s .z) (congrArg (fun z_ => (.slice Agk0 (z_).length cgk0 : Value)) he7) ?_
 refine FJ.eq (.s (.s .z)) (congrArg (fun z_ => (.bool (decide (((z_).length : Int) < n)) : Value)) he7) ?_
 refine FJ.eq (.s4 .z) (congrArg (fun z_ => (.int .i64 ((z_).length : Int) : Value)) he7) ?_
 refine FJ.eq (.s4 (.s .z)) (congrArg (fun z_ => (.slice Agk0 (z_).length cgk0 : Value)) he7) ?_
 refine FJ.eq (.s4 (.s (.s .z))) (congrArg (fun z_ => (.slice Agk0 (z_).length cgk0 : Value)) he7) ?_
 refine FJ.chEq .z (congrArg (fun z_ => (ownA kSl_5 (z_) [.slice Agk0 (z_).length cgk0] : Asn)) he7) ?_
 refine FJ.doneS (res1 rfl (.s4 (.s .z))) (.c .z .n) ?_
 rfl

end Go.Proofs.YticaddophhggoaaGreat
