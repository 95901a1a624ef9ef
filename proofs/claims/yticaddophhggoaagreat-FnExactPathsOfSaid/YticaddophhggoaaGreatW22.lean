/- What is proved: contracts of functions, one a function. No condition. -/
import Derived.Test.YticaddophhggoaaGreatW20
import Derived.Test.YticaddophhggoaaGreatBase2
namespace Go.Proofs.YticaddophhggoaaGreat
open Go Go.RowKit
set_option linter.unusedVariables false
set_option linter.unusedSimpArgs false
set_option maxHeartbeats 1000000 in
set_option maxRecDepth 20000 in
theorem c_182 {w0 : World} {S0 : Bs} {xs : (List DInode)} {v0 : Value} (h0 : kSl_73.ro w0 (FF w0 S0) xs [v0]) (a : Int) (hI : inodesFault xs = 0) (hG : ∀ (j : Nat) x, xs[j]? = some x → goodX xs x) (hr : 0 ≤ a ∧ a < (xs.length : Int)) :
    Calls Tryz.prog 182 #[v0, .int .i64 a] w0 (TriPost w0 S0 (fun r l => l = [ownA kSl_2 (reachL xs a.toNat) [r]])) := by
 obtain ⟨A0, c0, rfl, hl0, hm0, hb0, he0⟩ := ro_form h0
 obtain ⟨hr1, hr2⟩ := hr
 have h10 := inodes_10 hI
 refine FJ.enter (N := 69) Tryz.func182 rfl rfl (by simp) [(0, .slice A0 xs.length c0), (1, .int .i64 a)] (by simp) (l0 := []) trivial ?_
 refine FJ.seq (FJ.region (FJ.ql rfl (q_assign rfl .c) (FJ.nil (FJ.then_ ?_))))
 refine FJ.seq (FJ.region (FJ.ql rfl (q_move rfl (.t (.s .z))) (FJ.ql rfl (q_len rfl u_29 (.t .z)) ?_)))
 refine FJ.e (goes_list rfl) rfl (by decide) rfl (e_makeSlice (n := xs.length) (x0 := false) rfl u_202 inf_4 rfl (fun _ _ => ⟨rfl, trivial⟩) (.t .z) (.t .z) (by omega) (by omega)) ?_
 rintro _ _ rfl
 refine FJ.know (WS.oform .z) ?_
 rintro ⟨Ao3, co3, rfl, hlo3, hmo3, hbo3⟩
 refine FJ.ql rfl (q_assign rfl (.t .z)) (FJ.nil (FJ.then_ (FJ.seq (FJ.region ?_))))
 refine FJ.ql rfl (q_move rfl (.t (.s4 (.s (.s .z))))) ?_
 refine FJ.e (goes_list rfl) rfl (by decide) rfl (e_buildSliceL (ps := [(0, .int .i64 a)]) (cs := [.int .i64 a]) rfl u_27 (inz inf_2) (by decide) (by intro act hact; simp only [List.map_toArray, List.map_cons, List.map_nil, (show Val _ _ _ from (.t .z)) act hact]) rfl rfl (by decide) rfl rfl) ?_
 rintro _ _ ⟨g4, rfl, rfl⟩
 refine FJ.ql rfl (q_assign rfl (.t .z)) (FJ.nil (FJ.then_ (FJ.seq (FJ.block ?_))))
 refine FJ.turns (c := ownA kSl_2 ([a] : (List Int)) [.slice (some ⟨g4, 0, none⟩) 1 1]) (.c .z .n) (fun w S h => lit_own (xs := ([a] : (List Int))) h rfl (by simp) (by omega) (by omega)) ?_
 refine FJ.loopi (γ := (Option Addr) × Nat × (Option Addr) × Nat × (List Bool) × (List Int)) (fun ⟨Agu0, cgu0, Agu1, cgu1, b, op⟩ => [(6, .slice Agu1 op.length cgu1), (5, .slice Agu0 b.length cgu0), (4, .slice none 0 0), (0, .slice A0 xs.length c0)]) (fun ⟨Agu0, cgu0, Agu1, cgu1, b, op⟩ => [ownA kSl_2 op [.slice Agu1 op.length cgu1], ownA kSl_4 b [.slice Agu0 b.length cgu0]]) (fun ⟨Agu0, cgu0, Agu1, cgu1, b, op⟩ => Dfs xs a.toNat b op ∧ op.length + 7 * offN b ≤ 71) (fun ⟨Agu0, cgu0, Agu1, cgu1, b, op⟩ => 7 * offN b + op.length) (Ao3, co3, (some ⟨g4, 0, none⟩), 1, List.replicate xs.length false, ([a] : List Int)) ⟨by have := dfs_init (xs := xs) (r := a.toNat) (by omega); rwa [show ((a.toNat : Nat) : Int) = a by omega] at this, by have := inodes_10 hI; simp only [offN, List.count_replicate_self, List.length_cons, List.length_nil]; omega⟩ (.c .z (.c (.s (.s (.s .z))) (.c (.s4 (.s (.s (.s .z)))) (.c (.s4 (.s4 .z)) .n)))) (fun _ h => h.sel (.c .z (.c .z .n))) ?_
 rintro ⟨Agu0, cgu0, Agu1, cgu1, b, op⟩ ⟨hD, hm⟩
 have hbl := hD.len
 refine FJ.seq (FJ.seq (FJ.region (FJ.ql rfl (q_move rfl (.t .z)) (FJ.ql rfl (q_len rfl u_27 (.t .z)) ?_))))
 refine FJ.ql rfl (q_gtr rfl (.t .z) .c) (FJ.nil (FJ.then_ ?_))
 refine FJ.condP (.t .z) (fun b6 => ?_) (fun b6 => ?_)
 refine FJ.skip (FJ.then_ (FJ.block (FJ.seq (FJ.region ?_))))
 refine FJ.ql rfl (q_move rfl (.t (.s (.s (.s .z))))) (FJ.ql rfl (q_move rfl (.t (.s4 .z))) (FJ.ql rfl (q_len rfl u_27 (.t .z)) ?_))
 refine FJ.ql rfl (q_sub (c := (op.length : Int) - 1) rfl (.t .z) .c (wr (by omega) (by omega) (by omega))) ?_
 refine FJ.know (WS.oad .z (by first | omega | (simp only [List.length_replicate]; omega) | (simp only [List.length_set, List.length_replicate]; omega))) ?_
 rintro ⟨ad7, rfl⟩
 refine FJ.ql rfl (q_indexAddr (j := Int.toNat ((op.length : Int) - 1)) rfl u_27 sz_2 (.t (.s (.s (.s .z)))) (.t .z) (by omega) (by first | omega | (simp only [List.length_replicate]; omega) | (simp only [List.length_set, List.length_replicate]; omega))) ?_
 obtain ⟨x8, hx8⟩ := get_ex (xs := op) (j := Int.toNat ((op.length : Int) - 1)) (by first | omega | (simp only [List.length_replicate]; omega) | (simp only [List.length_set, List.length_replicate]; omega))
 obtain ⟨⟨ho1x8, ho2x8⟩, -⟩ := hD.opn _ (List.mem_of_getElem? hx8)
 refine FJ.ql rfl (q_load rfl ag_2 (.t .z) (WS.oel .z hx8)) (FJ.ql rfl (q_assign rfl (.t .z)) (FJ.nil (FJ.then_ (FJ.seq ?_))))
 refine FJ.region (FJ.ql rfl (q_move rfl (.t (.s4 (.s4 (.s (.s .z)))))) (FJ.ql rfl (q_move rfl (.t (.s4 (.s4 (.s (.s (.s .z))))))) (FJ.ql rfl (q_len rfl u_27 (.t .z)) ?_)))
 refine FJ.ql rfl (q_sub (c := (op.length : Int) - 1) rfl (.t .z) .c (wr (by omega) (by omega) (by omega))) ?_
 refine FJ.know (WS.ocap .z) ?_
 rintro ⟨-, hk9, -, -⟩
 have hm10 : (List.take (Int.toNat ((op.length : Int) - 1)) op).length = Int.toNat ((op.length : Int) - 1) := by rw [List.length_take]; omega
 refine FJ.eq .z (congrArg (Value.int .i64) (show (op.length : Int) - 1 = (((List.take (Int.toNat ((op.length : Int) - 1)) op).length : Nat) : Int) by rw [hm10]; try omega)) ?_
 refine FJ.turns (c := ownA kSl_2 (List.take (Int.toNat ((op.length : Int) - 1)) op) [.slice (some ad7) ((List.take (Int.toNat ((op.length : Int) - 1)) op).length) cgu1]) (.c .z .n) (own_take' (by omega)) ?_
 refine FJ.ql rfl (q_sliceTake (b := (List.take (Int.toNat ((op.length : Int) - 1)) op).length) rfl u_27 sz_2 (.t (.s (.s (.s .z)))) (.t .z) (by omega)) ?_
 refine FJ.er (.s4 (.s4 (.s4 (.s (.s (.s .z)))))) (FJ.ql rfl (q_assign rfl (.t .z)) (FJ.nil (FJ.then_ (FJ.seq ?_))))
 refine FJ.seq (FJ.region (FJ.ql rfl (q_move rfl (.t (.s16 .z))) (FJ.ql rfl (q_move rfl (.t (.s4 (.s (.s (.s .z)))))) ?_)))
 refine FJ.know (WS.oad (.s .z) (by first | omega | (simp only [List.length_replicate]; omega) | (simp only [List.length_set, List.length_replicate]; omega))) ?_
 rintro ⟨ad11, rfl⟩
 refine FJ.ql rfl (q_indexAddr (j := Int.toNat x8) rfl u_202 sz_4 (.t (.s .z)) (.t .z) (by omega) (by first | omega | (simp only [List.length_replicate]; omega) | (simp only [List.length_set, List.length_replicate]; omega))) ?_
 obtain ⟨x12, hx12⟩ := get_ex (xs := b) (j := Int.toNat x8) (by first | omega | (simp only [List.length_replicate]; omega) | (simp only [List.length_set, List.length_replicate]; omega))
 refine FJ.ql rfl (q_load rfl ag_4 (.t .z) (WS.oel (.s .z) hx12)) (FJ.nil (FJ.then_ ?_))
 refine FJ.cond (.t .z) (fun b13 => ?_) (fun b13 => ?_)
 refine FJ.exit (FJ.thenE (FJ.inB ?_))
 refine FJ.again ((some ad11), cgu0, (some ad7), cgu1, b, List.take (Int.toNat ((op.length : Int) - 1)) op) ⟨by have hn := dfs_seen hD (by rw [show op.length - 1 = Int.toNat ((op.length : Int) - 1) by omega]; exact hx8) ((hx12).trans (congrArg some (by assumption))); rw [show op.length - 1 = Int.toNat ((op.length : Int) - 1) by omega] at hn; exact hn, by simp only [List.length_take]; omega⟩ (by simp only [List.length_take]; omega) (.c (.s4 .z) (.c (.s16 (.s4 .z)) (.c (.s16 (.s4 (.s .z))) (.c (.s16 (.s4 (.s (.s .z)))) .n)))) (fun _ h => h.sel (.c .z (.c .z .n)))
 refine FJ.skip (FJ.then_ (FJ.seq (FJ.region (FJ.ql rfl (q_move rfl (.t (.s16 (.s4 .z)))) ?_))))
 refine FJ.ql rfl (q_move rfl (.t (.s4 (.s4 (.s (.s (.s .z))))))) ?_
 refine FJ.ql rfl (q_indexAddr (j := Int.toNat x8) rfl u_202 sz_4 (.t (.s .z)) (.t .z) (by omega) (by first | omega | (simp only [List.length_replicate]; omega) | (simp only [List.length_set, List.length_replicate]; omega))) ?_
 refine FJ.add (c := ownA kbool true [.bool true]) (fun _ _ => ⟨rfl, trivial⟩) ?_
 refine FJ.es (goes_list rfl) rfl (es_set (j := Int.toNat x8) rfl sz_4 (.t .z) .c rfl (.c (.s (.s .z)) (.c .z .n)) (by first | omega | (simp only [List.length_replicate]; omega) | (simp only [List.length_set, List.length_replicate]; omega))) ?_
 have he15 : b.length = (List.set b (Int.toNat x8) true).length := (List.length_set ..).symm
 refine FJ.eq (.s (.s .z)) (congrArg (fun z_ => (.slice (some ad11) z_ cgu0 : Value)) he15) ?_
 refine FJ.eq (.s4 (.s (.s .z))) (congrArg (fun z_ => (.slice (some ad11) z_ cgu0 : Value)) he15) ?_
 refine FJ.eq (.s16 (.s4 (.s (.s (.s .z))))) (congrArg (fun z_ => (.slice (some ad11) z_ cgu0 : Value)) he15) ?_
 refine FJ.chEq .z (congrArg (fun z_ => (ownA kSl_4 (List.set b (Int.toNat x8) true) [.slice (some ad11) z_ cgu0] : Asn)) he15) ?_
 refine FJ.nil (FJ.then_ (FJ.seq (FJ.region (FJ.ql rfl (q_move rfl (.t (.s16 (.s4 (.s4 (.s .z)))))) ?_))))
 refine FJ.ql rfl (q_move rfl (.t (.s4 (.s4 (.s4 (.s (.s (.s .z)))))))) ?_
 obtain ⟨ad16, hAad16, hrad16⟩ := he0 (by omega)
 subst hAad16
 obtain ⟨x17, hx17⟩ := get_ex (xs := xs) (j := Int.toNat x8) (by first | omega | (simp only [List.length_replicate]; omega) | (simp only [List.length_set, List.length_replicate]; omega))
 obtain ⟨ece18, hre18, hFe18, hce18⟩ := hrad16.elem hx17
 obtain ⟨ue18_3, ue18_4, rfl, he18_3, he18_4⟩ := kT_73_ro hre18
 obtain ⟨Ae18_3, ce18_3, rfl, hle18_3, hme18_3, hbe18_3, hee18_3⟩ := ro_form he18_3
 obtain ⟨Ae18_4, ce18_4, rfl, hle18_4, hme18_4, hbe18_4, hee18_4⟩ := ro_form he18_4
 have kx17 := kind_at (i := x8) hx17 (by omega)
 have nx17 := ents_at (a := x8) hx17 (by omega)
 have iox17 := inodes_all hI _ (List.mem_of_getElem? hx17)
 refine FJ.ql rfl (q_indexAddr (j := Int.toNat x8) rfl u_29 sz_73 (.t (.s .z)) (.t .z) (by omega) (by first | omega | (simp only [List.length_replicate]; omega) | (simp only [List.length_set, List.length_replicate]; omega))) ?_
 refine FJ.ql rfl (q_fieldAddr rfl (.t .z) (fun _ => fa_73_4 _ _)) (FJ.ql rfl (q_load rfl ag_71 (.t .z) (WS.el hFe18 hce18 rfl)) (FJ.ql rfl (q_len rfl u_71 (.t .z)) (FJ.ql rfl (q_move rfl .c) (FJ.nil ?_))))
 refine FJ.then_ (FJ.block ?_)
 have he21 : List.take (Int.toNat ((op.length : Int) - 1)) op = List.take (Int.toNat ((op.length : Int) - 1)) op ++ inosTo x17.ents 0 := (inosTo_0 _ _)
 refine FJ.eq (.s4 (.s4 (.s4 (.s (.s (.s .z)))))) (congrArg (fun z_ => (.slice (some ad7) ((z_).length) cgu1 : Value)) he21) ?_
 refine FJ.eq (.s16 .z) (congrArg (fun z_ => (.slice (some ad7) ((z_).length) cgu1 : Value)) he21) ?_
 refine FJ.eq (.s16 (.s .z)) (congrArg (fun z_ => (.int .i64 (((z_).length : Nat) : Int) : Value)) he21) ?_
 refine FJ.chEq (.s .z) (congrArg (fun z_ => (ownA kSl_2 (z_) [.slice (some ad7) ((z_).length) cgu1] : Asn)) he21) ?_
 refine FJ.loopi (γ := Nat × (Option Addr) × Nat) (fun ⟨k, Agk0, cgk0⟩ => [(6, .slice Agk0 (List.take (Int.toNat ((op.length : Int) - 1)) op ++ inosTo x17.ents k).length cgk0), (45, .int .i64 (k : Int)), (44, .int .i64 (x17.ents.length : Int)), (43, .slice Ae18_4 x17.ents.length ce18_4), (5, .slice (some ad11) (List.set b (Int.toNat x8) true).length cgu0), (4, .slice none 0 0), (0, .slice (some ad16) xs.length c0)]) (fun ⟨k, Agk0, cgk0⟩ => [ownA kSl_2 (List.take (Int.toNat ((op.length : Int) - 1)) op ++ inosTo x17.ents k) [.slice Agk0 (List.take (Int.toNat ((op.length : Int) - 1)) op ++ inosTo x17.ents k).length cgk0], ownA kSl_4 (List.set b (Int.toNat x8) true) [.slice (some ad11) (List.set b (Int.toNat x8) true).length cgu0]]) (fun ⟨k, Agk0, cgk0⟩ => k ≤ x17.ents.length) (fun ⟨k, Agk0, cgk0⟩ => x17.ents.length - k) (0, (some ad7), cgu1) (Nat.zero_le _) (.c (.s (.s .z)) (.c (.s (.s (.s .z))) (.c (.s4 .z) (.c (.s4 (.s .z)) (.c (.s4 (.s4 (.s (.s .z)))) (.c (.s16 (.s4 (.s4 (.s4 (.s (.s (.s .z))))))) (.c (.s16 (.s16 .z)) .n))))))) (fun _ h => h.sel (.c .z (.c .z .n))) ?_
 rintro ⟨k, Agk0, cgk0⟩ hk
 have hil := inosTo_len (es := x17.ents) (k := k)
 have h6 := ents_6 iox17
 have htl : (List.take (Int.toNat ((op.length : Int) - 1)) op).length ≤ op.length := by rw [List.length_take]; omega
 refine FJ.seq (FJ.region (FJ.ql rfl (q_lss rfl (.t (.s .z)) (.t (.s (.s .z)))) (FJ.nil (FJ.then_ ?_))))
 refine FJ.seq ?_
 refine FJ.condP (.t .z) (fun b22 => ?_) (fun b22 => ?_)
 refine FJ.skip (FJ.then_ (FJ.seq (FJ.block (FJ.seq ?_))))
 refine FJ.region ?_
 obtain ⟨ad23, hAad23, hrad23⟩ := hee18_4 (by omega)
 subst hAad23
 obtain ⟨x24, hx24⟩ := get_ex (xs := x17.ents) (j := k) (by first | omega | (simp only [List.length_replicate]; omega) | (simp only [List.length_set, List.length_replicate]; omega))
 obtain ⟨ece25, hre25, hFe25, hce25⟩ := hrad23.elem hx24
 obtain ⟨rfl, se25_0⟩ := kT_151_ro hre25
 have pex24 := ent_in (hG _ _ hx17 _ _ hx24)
 have pox24 := ents_ok iox17 _ _ hx24
 refine FJ.ql rfl (q_indexAddr (j := k) rfl u_71 sz_151 (.t (.s4 .z)) (.t (.s (.s .z))) rfl (by first | omega | (simp only [List.length_replicate]; omega) | (simp only [List.length_set, List.length_replicate]; omega))) ?_
 refine FJ.ql rfl (q_loadA (cs := [.string x24.name, .int .i64 x24.ino]) rfl ag_151 sz_151 (.t .z) (WS.els hFe25 hce25)) ?_
 refine FJ.e (goes_list rfl) rfl (by decide) rfl (e_alloc rfl z_151 rfl rfl) ?_
 rintro _ _ ⟨g26, rfl, rfl⟩
 refine FJ.es (goes_list rfl) rfl (es_store (off := 0) (cs := [.string x24.name, .int .i64 x24.ino]) rfl sz_151 (.t .z) (.t (.s .z)) rfl (ones rfl) .z (Nat.le_of_ble_eq_true rfl) (.c .z (.c (.s .z) .n))) ?_
 refine FJ.nil (FJ.then_ (FJ.region (FJ.ql rfl (q_move rfl (.t (.s4 .z))) (FJ.ql rfl (q_fieldAddr rfl (.t (.s .z)) (fun _ => fa_151_1 _ _)) ?_))))
 refine FJ.ql rfl (q_load rfl ag_2 (.t .z) (WS.row .z rfl)) ?_
 refine FJ.e (goes_list rfl) rfl (by decide) rfl (e_buildSliceL (ps := [(0, .int .i64 x24.ino)]) (cs := [.int .i64 x24.ino]) rfl u_27 (inz inf_2) (by decide) (by intro act hact; simp only [List.map_toArray, List.map_cons, List.map_nil, (show Val _ _ _ from (.t .z)) act hact]) rfl rfl (by decide) rfl rfl) ?_
 rintro _ _ ⟨g27, rfl, rfl⟩
 refine FJ.add (c := ownA (kint .i64) x24.ino [.int .i64 x24.ino]) (fun _ _ => ⟨rfl, trivial⟩) ?_
 refine FJ.e (goes_list rfl) rfl (by decide) rfl (e_append1 rfl u_27 inf_2 rfl (.t (.s (.s (.s .z)))) (.t .z) (.c (.s (.s (.s .z))) (.c (.s .z) (.c .z .n))) (by first | omega | (simp only [List.length_append, List.length_take, List.length_cons, List.length_nil]; omega)) (by first | omega | (simp only [List.length_append, List.length_take, List.length_cons, List.length_nil]; omega))) ?_
 rintro _ _ rfl
 refine FJ.ceq .z (inosTo_s hx24) ?_
 refine FJ.know (WS.oform .z) ?_
 rintro ⟨Ao29, co29, rfl, hlo29, hmo29, hbo29⟩
 refine FJ.er (.s4 (.s4 (.s .z))) (FJ.ql rfl (q_assign rfl (.t .z)) (FJ.nil (FJ.inBN (FJ.then_ ?_))))
 refine FJ.region ?_
 refine FJ.ql rfl (q_add (c := ((k + 1 : Nat) : Int)) rfl (.t (.s4 (.s4 (.s (.s .z))))) .c (wr (by omega) (by omega) (by omega))) ?_
 refine FJ.er (.s4 (.s4 (.s (.s (.s .z))))) (FJ.ql rfl (q_move rfl (.t .z)) (FJ.nil ?_))
 refine FJ.again ((k + 1), Ao29, co29) (by omega) (by first | omega | (dsimp only; omega)) (.c (.s (.s .z)) (.c .z (.c (.s4 (.s4 (.s4 .z))) (.c (.s4 (.s4 (.s4 (.s .z)))) (.c (.s4 (.s4 (.s4 (.s (.s .z))))) (.c (.s4 (.s4 (.s4 (.s (.s (.s .z)))))) (.c (.s16 .z) .n))))))) (fun _ h => h.sel (.c .z (.c (.s .z) .n)))
 refine FJ.exit (FJ.thenE (FJ.thenE (FJ.inB (FJ.inBN ?_))))
 refine FJ.again ((some ad11), cgu0, Agk0, cgk0, List.set b (Int.toNat x8) true, List.take (Int.toNat ((op.length : Int) - 1)) op ++ inosTo x17.ents k) ⟨by have hn := dfs_new (k := k) hI hG hD (by rw [show op.length - 1 = Int.toNat ((op.length : Int) - 1) by omega]; exact hx8) hx17 (by omega); rw [show op.length - 1 = Int.toNat ((op.length : Int) - 1) by omega] at hn; exact hn, by have ho := offN_set (not_on (b := b) (j := Int.toNat x8) (by omega) (fun hon => absurd ((hx12).symm.trans hon) (by rw [show x12 = false by assumption]; decide))); have h6 := ents_6 iox17; have hl := inosTo_len (es := x17.ents) (k := k); simp only [List.length_append, List.length_take]; omega⟩ (by have ho := offN_set (not_on (b := b) (j := Int.toNat x8) (by omega) (fun hon => absurd ((hx12).symm.trans hon) (by rw [show x12 = false by assumption]; decide))); have h6 := ents_6 iox17; have hl := inosTo_len (es := x17.ents) (k := k); simp only [List.length_append, List.length_take]; omega) (.c (.s .z) (.c (.s4 (.s .z)) (.c (.s4 (.s (.s .z))) (.c (.s4 (.s (.s (.s .z)))) .n)))) (fun _ h => h.sel (.c .z (.c .z .n)))
 refine FJ.exit (FJ.thenE (FJ.thenE (FJ.inB (FJ.then_ ?_))))
 refine FJ.seq (FJ.region (FJ.ql rfl (q_assign rfl .c) (FJ.nil (FJ.then_ ?_))))
 refine FJ.seq (FJ.seq (FJ.region (FJ.ql rfl (q_move rfl (.t (.s4 (.s .z)))) (FJ.ql rfl (q_len rfl u_202 (.t .z)) ?_))))
 refine FJ.ql rfl (q_move rfl .c) (FJ.nil (FJ.then_ (FJ.block ?_)))
 refine FJ.add (c := ownA kSl_2 [] [.slice none 0 0]) (fun w S => own_nil w S none) ?_
 refine FJ.loopi (γ := Nat × (Option Addr) × Nat) (fun ⟨k, Agk0, cgk0⟩ => [(57, .int .i64 (k : Int)), (56, .int .i64 (b.length : Int)), (55, .slice Agu0 b.length cgu0), (10, .slice Agk0 (placesTo (onP b) k).length cgk0), (4, .slice none 0 0)]) (fun ⟨k, Agk0, cgk0⟩ => [ownA kSl_2 (placesTo (onP b) k) [.slice Agk0 (placesTo (onP b) k).length cgk0], ownA kSl_2 op [.slice Agu1 op.length cgu1], ownA kSl_4 b [.slice Agu0 b.length cgu0]]) (fun ⟨k, Agk0, cgk0⟩ => k ≤ b.length) (fun ⟨k, Agk0, cgk0⟩ => b.length - k) (0, none, 0) (Nat.zero_le _) (.c .z (.c (.s .z) (.c (.s (.s .z)) (.c (.s (.s (.s .z))) (.c (.s4 (.s4 (.s .z))) .n))))) (fun _ h => h.sel (.c .z (.c .z (.c .z .n)))) ?_
 rintro ⟨k, Agk0, cgk0⟩ hk
 have hpl := placesTo_len (p := (onP b)) (k := k)
 refine FJ.seq (FJ.region (FJ.ql rfl (q_lss rfl (.t .z) (.t (.s .z))) (FJ.nil (FJ.then_ ?_))))
 refine FJ.seq ?_
 refine FJ.condP (.t .z) (fun b31 => ?_) (fun b31 => ?_)
 refine FJ.skip (FJ.then_ (FJ.seq (FJ.block (FJ.seq ?_))))
 refine FJ.region (FJ.ql rfl (q_move rfl (.t (.s .z))) ?_)
 refine FJ.know (WS.oad (.s (.s .z)) (by first | omega | (simp only [List.length_replicate]; omega) | (simp only [List.length_set, List.length_replicate]; omega))) ?_
 rintro ⟨ad32, rfl⟩
 refine FJ.ql rfl (q_indexAddr (j := k) rfl u_202 sz_4 (.t (.s4 .z)) (.t (.s (.s .z))) rfl (by first | omega | (simp only [List.length_replicate]; omega) | (simp only [List.length_set, List.length_replicate]; omega))) ?_
 obtain ⟨x33, hx33⟩ := get_ex (xs := b) (j := k) (by first | omega | (simp only [List.length_replicate]; omega) | (simp only [List.length_set, List.length_replicate]; omega))
 refine FJ.ql rfl (q_load rfl ag_4 (.t .z) (WS.oel (.s (.s .z)) hx33)) (FJ.ql rfl (q_assign rfl (.t (.s (.s .z)))) (FJ.ql rfl (q_assign rfl (.t (.s .z))) (FJ.nil (FJ.then_ ?_))))
 refine FJ.seq (FJ.region (FJ.ql rfl (q_move rfl (.t .z)) (FJ.nil (FJ.then_ ?_))))
 refine FJ.cond (.t .z) (fun b34 => ?_) (fun b34 => ?_)
 refine FJ.region (FJ.ql rfl (q_move rfl (.t (.s4 (.s4 (.s (.s .z)))))) (FJ.ql rfl (q_move rfl (.t (.s (.s (.s .z))))) ?_))
 refine FJ.e (goes_list rfl) rfl (by decide) rfl (e_buildSliceL (ps := [(0, .int .i64 (k : Int))]) (cs := [.int .i64 (k : Int)]) rfl u_27 (inz inf_2) (by decide) (by intro act hact; simp only [List.map_toArray, List.map_cons, List.map_nil, (show Val _ _ _ from (.t .z)) act hact]) rfl rfl (by decide) rfl rfl) ?_
 rintro _ _ ⟨g35, rfl, rfl⟩
 refine FJ.add (c := ownA (kint .i64) (k : Int) [.int .i64 (k : Int)]) (fun _ _ => ⟨rfl, trivial⟩) ?_
 refine FJ.e (goes_list rfl) rfl (by decide) rfl (e_append1 rfl u_27 inf_2 rfl (.t (.s (.s .z))) (.t .z) (.c (.s (.s .z)) (.c (.s .z) (.c .z .n))) (by first | omega | (simp only [List.length_append, List.length_take, List.length_cons, List.length_nil]; omega)) (by first | omega | (simp only [List.length_append, List.length_take, List.length_cons, List.length_nil]; omega))) ?_
 rintro _ _ rfl
 refine FJ.ceq .z (placesTo_on (by rw [onP_of hx33]; assumption)) ?_
 refine FJ.know (WS.oform .z) ?_
 rintro ⟨Ao37, co37, rfl, hlo37, hmo37, hbo37⟩
 refine FJ.er (.s4 (.s4 (.s4 (.s (.s .z))))) (FJ.ql rfl (q_assign rfl (.t .z)) (FJ.nil (FJ.inBN (FJ.then_ ?_))))
 refine FJ.region ?_
 refine FJ.ql rfl (q_add (c := ((k + 1 : Nat) : Int)) rfl (.t (.s4 (.s4 (.s4 .z)))) .c (wr (by omega) (by omega) (by omega))) ?_
 refine FJ.er (.s4 (.s4 (.s4 (.s .z)))) (FJ.ql rfl (q_move rfl (.t .z)) (FJ.nil ?_))
 refine FJ.again ((k + 1), Ao37, co37) (by omega) (by first | omega | (dsimp only; omega)) (.c .z (.c (.s4 (.s4 (.s4 (.s (.s .z))))) (.c (.s4 (.s4 (.s4 (.s (.s (.s .z)))))) (.c (.s (.s .z)) (.c (.s16 .z) .n))))) (fun _ h => h.sel (.c .z (.c .z (.c .z .n))))
 refine FJ.skip (FJ.inBN (FJ.then_ (FJ.region ?_)))
 refine FJ.ql rfl (q_add (c := ((k + 1 : Nat) : Int)) rfl (.t (.s4 (.s (.s (.s .z))))) .c (wr (by omega) (by omega) (by omega))) ?_
 refine FJ.er (.s4 (.s4 .z)) (FJ.ql rfl (q_move rfl (.t .z)) (FJ.nil ?_))
 have he38 : placesTo (onP b) k = placesTo (onP b) (k + 1) := (placesTo_off (by rw [onP_of hx33]; assumption))
 refine FJ.eq (.s4 (.s4 (.s (.s (.s .z))))) (congrArg (fun z_ => (.slice Agk0 (z_).length cgk0 : Value)) he38) ?_
 refine FJ.chEq .z (congrArg (fun z_ => (ownA kSl_2 (z_) [.slice Agk0 (z_).length cgk0] : Asn)) he38) ?_
 refine FJ.again ((k + 1), Agk0, cgk0) (by omega) (by first | omega | (dsimp only; omega)) (.c (.s .z) (.c (.s4 (.s4 (.s (.s .z)))) (.c (.s4 (.s4 (.s (.s (.s .z))))) (.c .z (.c (.s4 (.s4 (.s4 .z))) .n))))) (fun _ h => h.sel (.c .z (.c .z (.c .z .n))))
 refine FJ.exit (FJ.thenE (FJ.thenE (FJ.inB (FJ.then_ ?_))))
 refine FJ.seq (FJ.region (FJ.ql rfl (q_move rfl (.t (.s4 .z))) (FJ.er (.s4 (.s (.s .z))) (FJ.ql rfl (q_assign rfl (.t .z)) ?_))))
 refine FJ.nil (FJ.then_ (FJ.ret ?_))
 refine FJ.ceq (x' := reachL xs a.toNat) .z (seen_reach (dfs_end hD (by omega)) hD.len (by omega)) ?_
 refine FJ.doneS (res1 rfl .z) (.c .z .n) ?_
 rfl

set_option maxHeartbeats 1000000 in
set_option maxRecDepth 20000 in
theorem c_175 {w0 : World} {S0 : Bs} {f : DFs} {ad0 : Addr} (h0 : PtrRo kT_31 w0 (FF w0 S0) ad0 f) (ht : treeFault f = 0) :
    Calls Tryz.prog 175 #[.pointer (some ad0)] w0 (TriPost w0 S0 (fun r l => l = [ownA kSl_2 (reachL f.inodes 0) [r]])) := by
 obtain ⟨ec0, hF0, hr0, hc0⟩ := id h0
 obtain ⟨u0_0, u0_1, rfl, h0_0, h0_1⟩ := kT_31_ro hr0
 obtain ⟨A0_0, c0_0, rfl, hl0_0, hm0_0, hb0_0, he0_0⟩ := ro_form h0_0
 obtain ⟨A0_1, c0_1, rfl, hl0_1, hm0_1, hb0_1, he0_1⟩ := ro_form h0_1
 have hI := treeI ht
 have hG := treeG ht
 have h0 := treeL ht
 refine FJ.enter (N := 84) Tryz.func175 rfl rfl (by simp) [(0, .pointer (some ad0))] (by simp) (l0 := []) trivial ?_
 refine FJ.seq (FJ.region (FJ.ql rfl (q_assign rfl .c) (FJ.nil (FJ.then_ ?_))))
 refine FJ.seq (FJ.region (FJ.ql rfl (q_move rfl (.t (.s .z))) (FJ.ql rfl (q_nilCheck rfl (.t .z)) (FJ.ql rfl (q_fieldAddr rfl (.t .z) (fun _ => fa_31_0 _ _)) ?_))))
 refine FJ.ql rfl (q_load rfl ag_29 (.t .z) (WS.el hF0 hc0 rfl)) (FJ.ql rfl (q_len rfl u_29 (.t .z)) ?_)
 refine FJ.e (goes_list rfl) rfl (by decide) rfl (e_makeSlice (n := f.inodes.length) (x0 := false) rfl u_202 inf_4 rfl (fun _ _ => ⟨rfl, trivial⟩) (.t .z) (.t .z) (by omega) (by omega)) ?_
 rintro _ _ rfl
 refine FJ.know (WS.oform .z) ?_
 rintro ⟨Ao4, co4, rfl, hlo4, hmo4, hbo4⟩
 refine FJ.ql rfl (q_assign rfl (.t .z)) (FJ.nil (FJ.then_ (FJ.seq (FJ.region ?_))))
 refine FJ.ql rfl (q_move rfl (.t .z)) ?_
 refine FJ.know (WS.oad .z (by first | omega | (simp only [List.length_replicate]; omega) | (simp only [List.length_set, List.length_replicate]; omega))) ?_
 rintro ⟨ad5, rfl⟩
 refine FJ.ql rfl (q_indexAddr (j := 0) rfl u_202 sz_4 (.t .z) .c rfl (by first | omega | (simp only [List.length_replicate]; omega) | (simp only [List.length_set, List.length_replicate]; omega))) ?_
 refine FJ.add (c := ownA kbool true [.bool true]) (fun _ _ => ⟨rfl, trivial⟩) ?_
 refine FJ.es (goes_list rfl) rfl (es_set (j := 0) rfl sz_4 (.t .z) .c rfl (.c (.s .z) (.c .z .n)) (by first | omega | (simp only [List.length_replicate]; omega) | (simp only [List.length_set, List.length_replicate]; omega))) ?_
 have he7 : (List.replicate f.inodes.length false).length = (List.set (List.replicate f.inodes.length false) 0 true).length := (List.length_set ..).symm
 refine FJ.eq (.s .z) (congrArg (fun z_ => (.slice (some ad5) z_ co4 : Value)) he7) ?_
 refine FJ.eq (.s (.s .z)) (congrArg (fun z_ => (.slice (some ad5) z_ co4 : Value)) he7) ?_
 refine FJ.eq (.s (.s (.s .z))) (congrArg (fun z_ => (.slice (some ad5) z_ co4 : Value)) he7) ?_
 refine FJ.chEq .z (congrArg (fun z_ => (ownA kSl_4 (List.set (List.replicate f.inodes.length false) 0 true) [.slice (some ad5) z_ co4] : Asn)) he7) ?_
 refine FJ.nil (FJ.then_ (FJ.seq (FJ.seq (FJ.region ?_))))
 refine FJ.ql rfl (q_assign rfl .c) (FJ.nil (FJ.then_ (FJ.block ?_)))
 refine FJ.loopi (γ := Nat × (Option Addr) × Nat × (List Bool)) (fun ⟨k, Agk0, cgk0, b0⟩ => [(4, .int .i64 (k : Int)), (3, .slice Agk0 b0.length cgk0), (2, .slice none 0 0), (0, .pointer (some ad0))]) (fun ⟨k, Agk0, cgk0, b0⟩ => [ownA kSl_4 b0 [.slice Agk0 b0.length cgk0]]) (fun ⟨k, Agk0, cgk0, b0⟩ => k ≤ f.inodes.length ∧ Rnd f.inodes k b0) (fun ⟨k, Agk0, cgk0, b0⟩ => f.inodes.length - k) (0, (some ad5), co4, List.set (List.replicate f.inodes.length false) 0 true) ⟨Nat.zero_le _, rnd_init (by omega)⟩ (.c .z (.c (.s (.s .z)) (.c (.s4 (.s4 (.s (.s .z)))) (.c (.s4 (.s4 (.s (.s (.s .z))))) .n)))) (fun _ h => h.sel (.c .z .n)) ?_
 rintro ⟨k, Agk0, cgk0, b0⟩ ⟨hk, hR⟩
 have hbl := hR.len
 refine FJ.seq (FJ.seq (FJ.region (FJ.ql rfl (q_move rfl (.t .z)) (FJ.ql rfl (q_move rfl (.t (.s4 .z))) ?_))))
 refine FJ.ql rfl (q_nilCheck rfl (.t .z)) (FJ.ql rfl (q_fieldAddr rfl (.t .z) (fun _ => fa_31_0 _ _)) (FJ.ql rfl (q_load rfl ag_29 (.t .z) (WS.el hF0 hc0 rfl)) (FJ.ql rfl (q_len rfl u_29 (.t .z)) (FJ.ql rfl (q_lss rfl (.t (.s4 (.s .z))) (.t .z)) ?_))))
 refine FJ.nil (FJ.then_ ?_)
 refine FJ.condP (.t .z) (fun b8 => ?_) (fun b8 => ?_)
 refine FJ.skip (FJ.then_ (FJ.seq (FJ.block (FJ.seq ?_))))
 refine FJ.region (FJ.ql rfl (q_assign rfl .c) (FJ.nil (FJ.then_ (FJ.block ?_))))
 refine FJ.loopi (γ := Nat × (Option Addr) × Nat × (List Bool)) (fun ⟨i, Agi0, cgi0, b⟩ => [(5, .int .i64 (i : Int)), (4, .int .i64 (k : Int)), (3, .slice Agi0 b.length cgi0), (2, .slice none 0 0), (0, .pointer (some ad0))]) (fun ⟨i, Agi0, cgi0, b⟩ => [ownA kSl_4 b [.slice Agi0 b.length cgi0]]) (fun ⟨i, Agi0, cgi0, b⟩ => i ≤ f.inodes.length ∧ Mid f.inodes b0 i b) (fun ⟨i, Agi0, cgi0, b⟩ => f.inodes.length - i) (0, Agk0, cgk0, b0) ⟨Nat.zero_le _, mid_init hR⟩ (.c .z (.c (.s4 (.s4 .z)) (.c (.s4 (.s4 (.s .z))) (.c (.s4 (.s4 (.s (.s .z)))) (.c (.s4 (.s4 (.s (.s (.s .z))))) .n))))) (fun _ h => h.sel (.c .z .n)) ?_
 rintro ⟨i, Agi0, cgi0, b⟩ ⟨hi, hM⟩
 have hbl2 := hM.len
 refine FJ.seq (FJ.seq (FJ.region (FJ.ql rfl (q_move rfl (.t .z)) (FJ.ql rfl (q_move rfl (.t (.s4 (.s .z)))) ?_))))
 refine FJ.ql rfl (q_nilCheck rfl (.t .z)) (FJ.ql rfl (q_fieldAddr rfl (.t .z) (fun _ => fa_31_0 _ _)) (FJ.ql rfl (q_load rfl ag_29 (.t .z) (WS.el hF0 hc0 rfl)) (FJ.ql rfl (q_len rfl u_29 (.t .z)) (FJ.ql rfl (q_lss rfl (.t (.s4 (.s .z))) (.t .z)) ?_))))
 refine FJ.nil (FJ.then_ ?_)
 refine FJ.condP (.t .z) (fun b9 => ?_) (fun b9 => ?_)
 refine FJ.skip (FJ.then_ (FJ.seq (FJ.block (FJ.seq ?_))))
 refine FJ.region (FJ.ql rfl (q_assign rfl .c) (FJ.nil (FJ.then_ (FJ.block ?_))))
 obtain ⟨ad10, hAad10, hrad10⟩ := he0_0 (by omega)
 subst hAad10
 obtain ⟨x11, hx11⟩ := get_ex (xs := f.inodes) (j := i) (by first | omega | (simp only [List.length_replicate]; omega) | (simp only [List.length_set, List.length_replicate]; omega))
 obtain ⟨ece12, hre12, hFe12, hce12⟩ := hrad10.elem hx11
 obtain ⟨ue12_3, ue12_4, rfl, he12_3, he12_4⟩ := kT_73_ro hre12
 obtain ⟨Ae12_3, ce12_3, rfl, hle12_3, hme12_3, hbe12_3, hee12_3⟩ := ro_form he12_3
 obtain ⟨Ae12_4, ce12_4, rfl, hle12_4, hme12_4, hbe12_4, hee12_4⟩ := ro_form he12_4
 have kx11 := kind_at (i := ((i : Nat) : Int)) hx11 (by omega)
 have nx11 := ents_at (a := ((i : Nat) : Int)) hx11 (by omega)
 have iox11 := inodes_all hI _ (List.mem_of_getElem? hx11)
 refine FJ.loopi (γ := Nat × (Option Addr) × Nat × (List Bool)) (fun ⟨q, Agq0, cgq0, c⟩ => [(6, .int .i64 (q : Int)), (5, .int .i64 (i : Int)), (4, .int .i64 (k : Int)), (3, .slice Agq0 c.length cgq0), (2, .slice none 0 0), (0, .pointer (some ad0))]) (fun ⟨q, Agq0, cgq0, c⟩ => [ownA kSl_4 c [.slice Agq0 c.length cgq0]]) (fun ⟨q, Agq0, cgq0, c⟩ => q ≤ x11.ents.length ∧ Inn f.inodes b0 i x11 q c) (fun ⟨q, Agq0, cgq0, c⟩ => x11.ents.length - q) (0, Agi0, cgi0, b) ⟨Nat.zero_le _, inn_init hM⟩ (.c .z (.c (.s4 (.s4 .z)) (.c (.s4 (.s4 (.s .z))) (.c (.s4 (.s4 (.s (.s .z)))) (.c (.s4 (.s4 (.s (.s (.s .z))))) (.c (.s4 (.s4 (.s4 .z))) .n)))))) (fun _ h => h.sel (.c .z .n)) ?_
 rintro ⟨q, Agq0, cgq0, c⟩ ⟨hq, hN⟩
 have hbl3 := hN.mid.len
 refine FJ.seq (FJ.seq (FJ.region (FJ.ql rfl (q_move rfl (.t (.s (.s (.s .z))))) (FJ.ql rfl (q_move rfl (.t (.s (.s .z)))) ?_))))
 refine FJ.know (WS.oad .z (by first | omega | (simp only [List.length_replicate]; omega) | (simp only [List.length_set, List.length_replicate]; omega))) ?_
 rintro ⟨ad15, rfl⟩
 refine FJ.ql rfl (q_indexAddr (j := i) rfl u_202 sz_4 (.t (.s .z)) (.t .z) rfl (by first | omega | (simp only [List.length_replicate]; omega) | (simp only [List.length_set, List.length_replicate]; omega))) ?_
 obtain ⟨x16, hx16⟩ := get_ex (xs := c) (j := i) (by first | omega | (simp only [List.length_replicate]; omega) | (simp only [List.length_set, List.length_replicate]; omega))
 refine FJ.ql rfl (q_load rfl ag_4 (.t .z) (WS.oel .z hx16)) (FJ.ql rfl (q_move rfl (.t .z)) ?_)
 refine FJ.caseB .z (fun g17 => ?_) (fun g17 => ?_)
 refine FJ.q (goes_listg rfl rfl .z) rfl (by decide) rfl (q_move rfl (.t (.s4 (.s .z)))) ?_
 refine FJ.q (goes_listg rfl rfl (.s .z)) rfl (by decide) rfl (q_move rfl (.t (.s4 (.s4 (.s (.s (.s .z))))))) ?_
 refine FJ.q (goes_listg rfl rfl (.s (.s .z))) rfl (by decide) rfl (q_nilCheck rfl (.t .z)) ?_
 refine FJ.q (goes_listg rfl rfl (.s (.s (.s .z)))) rfl (by decide) rfl (q_fieldAddr rfl (.t .z) (fun _ => fa_31_0 _ _)) ?_
 refine FJ.q (goes_listg rfl rfl (.s4 .z)) rfl (by decide) rfl (q_load rfl ag_29 (.t .z) (WS.el hF0 hc0 rfl)) ?_
 refine FJ.q (goes_listg rfl rfl (.s4 (.s .z))) rfl (by decide) rfl (q_move rfl (.t (.s4 (.s4 (.s (.s (.s .z))))))) ?_
 refine FJ.q (goes_listg rfl rfl (.s4 (.s (.s .z)))) rfl (by decide) rfl (q_indexAddr (j := i) rfl u_29 sz_73 (.t (.s .z)) (.t .z) rfl (by first | omega | (simp only [List.length_replicate]; omega) | (simp only [List.length_set, List.length_replicate]; omega))) ?_
 refine FJ.q (goes_listg rfl rfl (.s4 (.s (.s (.s .z))))) rfl (by decide) rfl (q_fieldAddr rfl (.t .z) (fun _ => fa_73_4 _ _)) ?_
 refine FJ.q (goes_listg rfl rfl (.s4 (.s4 .z))) rfl (by decide) rfl (q_load rfl ag_71 (.t .z) (WS.el hFe12 hce12 rfl)) ?_
 refine FJ.q (goes_listg rfl rfl (.s4 (.s4 (.s .z)))) rfl (by decide) rfl (q_len rfl u_71 (.t .z)) ?_
 refine FJ.q (goes_listg rfl rfl (.s4 (.s4 (.s (.s .z))))) rfl (by decide) rfl (q_lss rfl (.t (.s4 (.s4 (.s .z)))) (.t .z)) ?_
 refine FJ.ql rfl (q_pickT rfl (.t (.s4 (.s4 (.s (.s (.s .z)))))) (.t .z)) (FJ.nil (FJ.then_ ?_))
 refine FJ.condP (.t .z) (fun b18 => ?_) (fun b18 => ?_)
 refine FJ.skip (FJ.then_ (FJ.seq (FJ.block (FJ.region ?_))))
 refine FJ.ql rfl (q_move rfl (.t (.s16 (.s4 .z)))) (FJ.ql rfl (q_move rfl (.t (.s16 (.s4 (.s (.s (.s .z))))))) (FJ.ql rfl (q_nilCheck rfl (.t .z)) (FJ.ql rfl (q_fieldAddr rfl (.t .z) (fun _ => fa_31_0 _ _)) (FJ.ql rfl (q_load rfl ag_29 (.t .z) (WS.el hF0 hc0 rfl)) ?_))))
 refine FJ.ql rfl (q_move rfl (.t (.s16 (.s4 (.s (.s (.s .z))))))) ?_
 refine FJ.ql rfl (q_indexAddr (j := i) rfl u_29 sz_73 (.t (.s .z)) (.t .z) rfl (by first | omega | (simp only [List.length_replicate]; omega) | (simp only [List.length_set, List.length_replicate]; omega))) ?_
 refine FJ.ql rfl (q_fieldAddr rfl (.t .z) (fun _ => fa_73_4 _ _)) (FJ.ql rfl (q_load rfl ag_71 (.t .z) (WS.el hFe12 hce12 rfl)) (FJ.ql rfl (q_move rfl (.t (.s16 (.s4 (.s4 (.s (.s .z))))))) ?_))
 obtain ⟨ad19, hAad19, hrad19⟩ := hee12_4 (by omega)
 subst hAad19
 obtain ⟨x20, hx20⟩ := get_ex (xs := x11.ents) (j := q) (by first | omega | (simp only [List.length_replicate]; omega) | (simp only [List.length_set, List.length_replicate]; omega))
 obtain ⟨ece21, hre21, hFe21, hce21⟩ := hrad19.elem hx20
 obtain ⟨rfl, se21_0⟩ := kT_151_ro hre21
 have pex20 := ent_in (hG _ _ hx11 _ _ hx20)
 have pox20 := ents_ok iox11 _ _ hx20
 refine FJ.ql rfl (q_indexAddr (j := q) rfl u_71 sz_151 (.t (.s .z)) (.t .z) rfl (by first | omega | (simp only [List.length_replicate]; omega) | (simp only [List.length_set, List.length_replicate]; omega))) ?_
 refine FJ.ql rfl (q_fieldAddr rfl (.t .z) (fun _ => fa_151_1 _ _)) (FJ.ql rfl (q_load rfl ag_2 (.t .z) (WS.el hFe21 hce21 rfl)) ?_)
 refine FJ.ql rfl (q_indexAddr (j := Int.toNat x20.ino) rfl u_202 sz_4 (.t (.s4 (.s4 (.s4 .z)))) (.t .z) (by omega) (by first | omega | (simp only [List.length_replicate]; omega) | (simp only [List.length_set, List.length_replicate]; omega))) ?_
 refine FJ.add (c := ownA kbool true [.bool true]) (fun _ _ => ⟨rfl, trivial⟩) ?_
 refine FJ.es (goes_list rfl) rfl (es_set (j := Int.toNat x20.ino) rfl sz_4 (.t .z) .c rfl (.c (.s .z) (.c .z .n)) (by first | omega | (simp only [List.length_replicate]; omega) | (simp only [List.length_set, List.length_replicate]; omega))) ?_
 have he23 : c.length = (List.set c (Int.toNat x20.ino) true).length := (List.length_set ..).symm
 refine FJ.eq (.s4 (.s4 (.s4 (.s .z)))) (congrArg (fun z_ => (.slice (some ad15) z_ cgq0 : Value)) he23) ?_
 refine FJ.eq (.s16 (.s4 (.s4 (.s4 (.s (.s .z)))))) (congrArg (fun z_ => (.slice (some ad15) z_ cgq0 : Value)) he23) ?_
 refine FJ.eq (.s16 (.s16 (.s (.s .z)))) (congrArg (fun z_ => (.slice (some ad15) z_ cgq0 : Value)) he23) ?_
 refine FJ.chEq .z (congrArg (fun z_ => (ownA kSl_4 (List.set c (Int.toNat x20.ino) true) [.slice (some ad15) z_ cgq0] : Asn)) he23) ?_
 refine FJ.nil (FJ.inBN (FJ.then_ (FJ.region (FJ.ql rfl (q_move rfl (.t (.s16 (.s16 .z)))) ?_))))
 refine FJ.ql rfl (q_add (c := ((q + 1 : Nat) : Int)) rfl (.t .z) .c (wr (by omega) (by omega) (by omega))) ?_
 refine FJ.er (.s16 (.s16 (.s (.s .z)))) (FJ.ql rfl (q_assign rfl (.t .z)) (FJ.nil ?_))
 refine FJ.again ((q + 1), (some ad15), cgq0, List.set c (Int.toNat x20.ino) true) ⟨by omega, inn_next hN hx11 hx20 ((hx16).trans (congrArg some (by assumption))) (by omega)⟩ (by first | omega | (dsimp only; omega)) (.c .z (.c (.s16 (.s16 (.s (.s (.s .z))))) (.c (.s16 (.s16 (.s4 .z))) (.c (.s (.s (.s .z))) (.c (.s16 (.s16 (.s4 (.s .z)))) (.c (.s16 (.s16 (.s4 (.s (.s .z))))) .n)))))) (fun _ h => h.sel (.c .z .n))
 refine FJ.exit (FJ.thenE (FJ.thenE (FJ.inB (FJ.inBN ?_))))
 refine FJ.then_ (FJ.region (FJ.ql rfl (q_move rfl (.t (.s16 (.s (.s .z))))) ?_))
 refine FJ.ql rfl (q_add (c := ((i + 1 : Nat) : Int)) rfl (.t .z) .c (wr (by omega) (by omega) (by omega))) ?_
 refine FJ.er (.s16 (.s4 .z)) (FJ.ql rfl (q_assign rfl (.t .z)) (FJ.nil ?_))
 refine FJ.again ((i + 1), (some ad15), cgq0, c) ⟨by omega, mid_next hN hx11 (fun hon => by first | omega | (exact absurd ((hx16).symm.trans hon) (by rw [show x16 = false by assumption]; decide)))⟩ (by first | omega | (dsimp only; omega)) (.c .z (.c (.s16 (.s4 (.s .z))) (.c (.s16 (.s4 (.s (.s .z)))) (.c (.s16 (.s4 (.s (.s (.s .z))))) (.c (.s16 (.s4 (.s4 .z))) .n))))) (fun _ h => h.sel (.c .z .n))
 refine FJ.skipl rfl rfl .z rfl rfl (by decide) rfl ?_
 refine FJ.skipl rfl rfl (.s .z) rfl rfl (by decide) rfl ?_
 refine FJ.skipl rfl rfl (.s (.s .z)) rfl rfl (by decide) rfl ?_
 refine FJ.skipl rfl rfl (.s (.s (.s .z))) rfl rfl (by decide) rfl ?_
 refine FJ.skipl rfl rfl (.s4 .z) rfl rfl (by decide) rfl ?_
 refine FJ.skipl rfl rfl (.s4 (.s .z)) rfl rfl (by decide) rfl ?_
 refine FJ.skipl rfl rfl (.s4 (.s (.s .z))) rfl rfl (by decide) rfl ?_
 refine FJ.skipl rfl rfl (.s4 (.s (.s (.s .z)))) rfl rfl (by decide) rfl ?_
 refine FJ.skipl rfl rfl (.s4 (.s4 .z)) rfl rfl (by decide) rfl ?_
 refine FJ.skipl rfl rfl (.s4 (.s4 (.s .z))) rfl rfl (by decide) rfl ?_
 refine FJ.skipl rfl rfl (.s4 (.s4 (.s (.s .z)))) rfl rfl (by decide) rfl ?_
 refine FJ.ql rfl (q_pickF rfl (.t (.s4 (.s4 (.s (.s (.s .z)))))) .c) (FJ.nil (FJ.then_ ?_))
 refine FJ.condF (.t .z) ?_
 refine FJ.exit (FJ.thenE (FJ.thenE (FJ.inB (FJ.inBN ?_))))
 refine FJ.then_ (FJ.region (FJ.ql rfl (q_move rfl (.t (.s16 (.s (.s .z))))) ?_))
 refine FJ.ql rfl (q_add (c := ((i + 1 : Nat) : Int)) rfl (.t .z) .c (wr (by omega) (by omega) (by omega))) ?_
 refine FJ.er (.s16 (.s4 .z)) (FJ.ql rfl (q_assign rfl (.t .z)) (FJ.nil ?_))
 refine FJ.again ((i + 1), (some ad15), cgq0, c) ⟨by omega, mid_next hN hx11 (fun hon => by first | omega | (exact absurd ((hx16).symm.trans hon) (by rw [show x16 = false by assumption]; decide)))⟩ (by first | omega | (dsimp only; omega)) (.c .z (.c (.s16 (.s4 (.s .z))) (.c (.s16 (.s4 (.s (.s .z)))) (.c (.s16 (.s4 (.s (.s (.s .z))))) (.c (.s16 (.s4 (.s4 .z))) .n))))) (fun _ h => h.sel (.c .z .n))
 refine FJ.exit (FJ.thenE (FJ.thenE (FJ.inB (FJ.inBN ?_))))
 refine FJ.then_ (FJ.region (FJ.ql rfl (q_move rfl (.t (.s4 (.s4 .z)))) ?_))
 refine FJ.ql rfl (q_add (c := ((k + 1 : Nat) : Int)) rfl (.t .z) .c (wr (by omega) (by omega) (by omega))) ?_
 refine FJ.er (.s4 (.s4 (.s (.s .z)))) (FJ.ql rfl (q_assign rfl (.t .z)) (FJ.nil ?_))
 refine FJ.again ((k + 1), Agi0, cgi0, b) ⟨by omega, rnd_next hR hM (by omega)⟩ (by first | omega | (dsimp only; omega)) (.c .z (.c (.s4 (.s4 (.s (.s (.s .z))))) (.c (.s4 (.s4 (.s4 .z))) (.c (.s4 (.s4 (.s4 (.s .z)))) .n)))) (fun _ h => h.sel (.c .z .n))
 refine FJ.exit (FJ.thenE (FJ.thenE (FJ.inB (FJ.then_ ?_))))
 refine FJ.seq (FJ.region ?_)
 refine FJ.e (goes_list rfl) rfl (by decide) rfl (e_buildNil rfl u_27 (inz inf_2)) ?_
 rintro _ _ ⟨g24, rfl, rfl⟩
 refine FJ.ql rfl (q_assign rfl (.t .z)) (FJ.nil (FJ.then_ (FJ.seq (FJ.seq ?_))))
 refine FJ.region (FJ.ql rfl (q_assign rfl .c) (FJ.nil (FJ.then_ (FJ.block ?_))))
 refine FJ.add (c := ownA kSl_2 ([] : (List Int)) [.slice (some ⟨g24, 0, none⟩) 0 0]) (fun w S => own_nil w S _) ?_
 refine FJ.loopi (γ := Nat × (Option Addr) × Nat) (fun ⟨z, Agz0, cgz0⟩ => [(8, .int .i64 (z : Int)), (7, .slice Agz0 (placesTo (onP b0) z).length cgz0), (3, .slice Agk0 b0.length cgk0), (2, .slice none 0 0)]) (fun ⟨z, Agz0, cgz0⟩ => [ownA kSl_2 (placesTo (onP b0) z) [.slice Agz0 (placesTo (onP b0) z).length cgz0], rowA g24 2 1 0 [], ownA kSl_4 b0 [.slice Agk0 b0.length cgk0]]) (fun ⟨z, Agz0, cgz0⟩ => z ≤ b0.length) (fun ⟨z, Agz0, cgz0⟩ => b0.length - z) (0, (some ⟨g24, 0, none⟩), 0) (Nat.zero_le _) (.c .z (.c (.s .z) (.c (.s4 (.s4 (.s (.s (.s .z))))) (.c (.s4 (.s4 (.s4 .z))) .n)))) (fun _ h => h.sel (.c .z (.c .z (.c .z .n)))) ?_
 rintro ⟨z, Agz0, cgz0⟩ hz
 have hpl := placesTo_len (p := (onP b0)) (k := z)
 refine FJ.seq (FJ.seq (FJ.region (FJ.ql rfl (q_move rfl (.t .z)) (FJ.ql rfl (q_move rfl (.t (.s (.s (.s .z))))) ?_))))
 refine FJ.ql rfl (q_len rfl u_202 (.t .z)) (FJ.ql rfl (q_lss rfl (.t (.s (.s .z))) (.t .z)) (FJ.nil (FJ.then_ ?_)))
 refine FJ.condP (.t .z) (fun b26 => ?_) (fun b26 => ?_)
 refine FJ.skip (FJ.then_ (FJ.seq (FJ.block (FJ.seq ?_))))
 refine FJ.region (FJ.ql rfl (q_move rfl (.t (.s4 (.s (.s .z))))) (FJ.ql rfl (q_move rfl (.t (.s4 (.s .z)))) ?_))
 refine FJ.know (WS.oad (.s (.s .z)) (by first | omega | (simp only [List.length_replicate]; omega) | (simp only [List.length_set, List.length_replicate]; omega))) ?_
 rintro ⟨ad27, rfl⟩
 refine FJ.ql rfl (q_indexAddr (j := z) rfl u_202 sz_4 (.t (.s .z)) (.t .z) rfl (by first | omega | (simp only [List.length_replicate]; omega) | (simp only [List.length_set, List.length_replicate]; omega))) ?_
 obtain ⟨x28, hx28⟩ := get_ex (xs := b0) (j := z) (by first | omega | (simp only [List.length_replicate]; omega) | (simp only [List.length_set, List.length_replicate]; omega))
 refine FJ.ql rfl (q_load rfl ag_4 (.t .z) (WS.oel (.s (.s .z)) hx28)) (FJ.nil (FJ.then_ ?_))
 refine FJ.cond (.t .z) (fun b29 => ?_) (fun b29 => ?_)
 refine FJ.region (FJ.ql rfl (q_move rfl (.t (.s4 (.s4 (.s .z))))) (FJ.ql rfl (q_move rfl (.t (.s4 (.s4 (.s .z))))) ?_))
 refine FJ.e (goes_list rfl) rfl (by decide) rfl (e_buildSliceL (ps := [(0, .int .i64 (z : Int))]) (cs := [.int .i64 (z : Int)]) rfl u_27 (inz inf_2) (by decide) (by intro act hact; simp only [List.map_toArray, List.map_cons, List.map_nil, (show Val _ _ _ from (.t .z)) act hact]) rfl rfl (by decide) rfl rfl) ?_
 rintro _ _ ⟨g30, rfl, rfl⟩
 refine FJ.add (c := ownA (kint .i64) (z : Int) [.int .i64 (z : Int)]) (fun _ _ => ⟨rfl, trivial⟩) ?_
 refine FJ.e (goes_list rfl) rfl (by decide) rfl (e_append1 rfl u_27 inf_2 rfl (.t (.s (.s .z))) (.t .z) (.c (.s (.s .z)) (.c (.s .z) (.c .z .n))) (by first | omega | (simp only [List.length_append, List.length_take, List.length_nil, List.length_cons]; omega)) (by first | omega | (simp only [List.length_append, List.length_take, List.length_nil, List.length_cons]; omega))) ?_
 rintro _ _ rfl
 refine FJ.ceq .z (placesTo_on (by rw [onP_of hx28]; assumption)) ?_
 refine FJ.know (WS.oform .z) ?_
 rintro ⟨Ao32, co32, rfl, hlo32, hmo32, hbo32⟩
 refine FJ.er (.s4 (.s4 (.s4 (.s .z)))) (FJ.ql rfl (q_assign rfl (.t .z)) (FJ.nil (FJ.inBN (FJ.then_ ?_))))
 refine FJ.region (FJ.ql rfl (q_move rfl (.t (.s4 (.s4 (.s4 (.s .z)))))) ?_)
 refine FJ.ql rfl (q_add (c := ((z + 1 : Nat) : Int)) rfl (.t .z) .c (wr (by omega) (by omega) (by omega))) ?_
 refine FJ.er (.s4 (.s4 (.s4 (.s (.s (.s .z)))))) (FJ.ql rfl (q_assign rfl (.t .z)) (FJ.nil ?_))
 refine FJ.again ((z + 1), Ao32, co32) (by omega) (by first | omega | (dsimp only; omega)) (.c .z (.c (.s (.s (.s .z))) (.c (.s16 .z) (.c (.s16 (.s .z)) .n)))) (fun _ h => h.sel (.c .z (.c .z (.c .z .n))))
 refine FJ.skip (FJ.inBN (FJ.then_ (FJ.region (FJ.ql rfl (q_move rfl (.t (.s4 (.s4 .z)))) ?_))))
 refine FJ.ql rfl (q_add (c := ((z + 1 : Nat) : Int)) rfl (.t .z) .c (wr (by omega) (by omega) (by omega))) ?_
 refine FJ.er (.s4 (.s4 (.s (.s .z)))) (FJ.ql rfl (q_assign rfl (.t .z)) (FJ.nil ?_))
 have he33 : placesTo (onP b0) z = placesTo (onP b0) (z + 1) := (placesTo_off (by rw [onP_of hx28]; assumption))
 refine FJ.eq (.s4 (.s4 (.s (.s (.s .z))))) (congrArg (fun z_ => (.slice Agz0 (z_).length cgz0 : Value)) he33) ?_
 refine FJ.chEq .z (congrArg (fun z_ => (ownA kSl_2 (z_) [.slice Agz0 (z_).length cgz0] : Asn)) he33) ?_
 refine FJ.again ((z + 1), Agz0, cgz0) (by omega) (by first | omega | (dsimp only; omega)) (.c (.s .z) (.c .z (.c (.s4 (.s4 (.s4 .z))) (.c (.s4 (.s4 (.s4 (.s .z)))) .n)))) (fun _ h => h.sel (.c .z (.c .z (.c .z .n))))
 refine FJ.exit (FJ.thenE (FJ.thenE (FJ.inB (FJ.then_ ?_))))
 refine FJ.seq (FJ.region (FJ.ql rfl (q_move rfl (.t (.s4 (.s .z)))) (FJ.er (.s4 (.s4 .z)) (FJ.ql rfl (q_assign rfl (.t .z)) ?_))))
 refine FJ.nil (FJ.then_ (FJ.ret ?_))
 refine FJ.ceq (x' := reachL f.inodes 0) .z (seen_reach (rnd_end hR (by omega)) hR.len (by omega)) ?_
 refine FJ.doneS (res1 rfl .z) (.c .z .n) ?_
 rfl

end Go.Proofs.YticaddophhggoaaGreat
