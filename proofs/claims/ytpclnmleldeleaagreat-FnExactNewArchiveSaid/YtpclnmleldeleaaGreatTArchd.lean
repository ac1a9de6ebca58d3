/- What the functions compute that the laws of IsArchive, NewArchive reach: contracts. Conditions stand in each theorem. -/
import Derived.Test.YtpclnmleldeleaaGreatTArchc
namespace Go.Proofs.YtpclnmleldeleaaGreatR
open Go Go.RowKit Go.Proofs
open Nat (reduceEqDiff reduceLT reduceLeDiff reduceAdd reduceMul)
open List (reduceReplicate)
set_option linter.unusedSimpArgs false
set_option linter.unusedVariables false
def m_laws_FnExactNewArchive : MC :=
(.seq (pr [.mv 6 cF] [0,1,2])
(.seq (pr [.mv 7 (ci 1048576)] [0,1,2,7])
(.seq (pr [.mv 20 (.s 0), .mv 21 (.s 7), .call 22 [] (.f n_laws_szVersionS) [.s 20, .s 21], .mv 7 (.s 22)] [0,1,2,7])
(.seq (.seq (pr [.mv 23 (.s 7), .bin 24 false .lss (.s 23) (ci 0)] [0,1,2,7,24])
(.cond (.s 24) (.seq (pr [.mv 6 cT] [6])
.ret) .skip))
(.seq (pr [.mv 25 (.s 1), .mv 26 (.s 7), .call 27 [] (.f n_laws_szOpS) [.s 25, .s 26], .mv 7 (.s 27)] [0,1,2,7])
(.seq (.seq (pr [.mv 28 (.s 7), .bin 29 false .lss (.s 28) (ci 0)] [0,1,2,7,29])
(.cond (.s 29) (.seq (pr [.mv 6 cT] [6])
.ret) .skip))
(.seq (pr [.mv 30 (.s 2), .mv 31 (.s 7), .call 32 [] (.f n_laws_szLibraryS) [.s 30, .s 31], .mv 7 (.s 32)] [0,1,2,7])
(.seq (.seq (pr [.mv 33 (.s 7), .bin 34 false .lss (.s 33) (ci 0)] [0,1,2,34])
(.cond (.s 34) (.seq (pr [.mv 6 cT] [6])
.ret) .skip))
(.seq (pr [.mv 36 (.s 0), .call 37 [0] (.f n_laws_toVersionS) [.s 36], .mv 38 (.s 1), .call 39 [1] (.f n_laws_toOpS) [.s 38], .mv 40 (.s 2), .call 41 [2] (.f n_laws_toLibraryS) [.s 40], .call 42 [3, 4, 5, 6, 7, 8, 9, 10, 11] (.f n_spec_NewArchive) [.s 37, .s 39, .s 41], .mv 35 (.s 42), .ext 43 (.s 35) 0, .ext 44 (.s 35) 1, .alloc 8 12 [.emp 9, .emp 4, .emp 4, .emp 6, .emp 4, .emp 5, .emp 4, .emp 1, .emp 4, pz], .store 10 (.s 8) (.s 43), .mv 9 (.s 44)] [0,1,2,8,9])
(.seq (pr [.mv 45 (.s 0), .call 46 [13] (.f n_laws_toVersionS) [.s 45], .mv 10 (.s 46)] [0,1,2,8,9,10])
(.seq (pr [.mv 47 (.s 1), .call 48 [14] (.f n_laws_toOpS) [.s 47], .mv 11 (.s 48)] [0,1,2,8,9,10,11])
(.seq (pr [.mv 49 (.s 2), .call 50 [15] (.f n_laws_toLibraryS) [.s 49], .mv 12 (.s 50)] [0,1,2,8,9,10,11,12])
(.seq (pr [.mv 52 (.s 10), .mv 53 (.s 11), .mv 54 (.s 12), .call 55 [16, 17, 18, 19, 20, 21, 22, 23, 24] (.f n_impl_NewArchive) [.s 52, .s 53, .s 54], .mv 51 (.s 55), .ext 56 (.s 51) 0, .ext 57 (.s 51) 1, .alloc 13 25 [.emp 9, .emp 4, .emp 4, .emp 6, .emp 4, .emp 5, .emp 4, .emp 1, .emp 4, pz], .store 10 (.s 13) (.s 56), .mv 14 (.s 57)] [0,1,2,8,9,10,11,12,13,14])
(.seq (.seq (.reg [Za (.load 58 true 10 (.s 13)), Za (.load 59 true 10 (.s 8)), Za (.call 60 [] (.f n_laws_eqArchive) [.s 58, .s 59]), Za (.un 61 .not (.s 60)), Za (.mv 62 (.s 61)), Zb 62 false (.mv 63 (.s 14)), Zb 62 false (.mv 64 (.s 9)), Zb 62 false (.bin 65 true .neq (.s 63) (.s 64)), Za (.pick 66 (.s 62) cT (.s 65))] [0,1,2,8,9,10,11,12,13,14,66])
(.cond (.s 66) (.seq (pr [.mv 6 cF] [6])
.ret) .skip))
(.seq (.seq (pr [.mv 67 (.s 10), .mv 68 (.s 0), .call 69 [26] (.f n_laws_toVersionS) [.s 68], .call 70 [] (.f n_laws_eqVersionS) [.s 67, .s 69], .un 71 .not (.s 70)] [0,1,2,8,9,10,11,12,13,14,71])
(.cond (.s 71) (.seq (pr [.mv 6 cF] [6])
.ret) .skip))
(.seq (.seq (pr [.mv 72 (.s 11), .mv 73 (.s 1), .call 74 [27] (.f n_laws_toOpS) [.s 73], .call 75 [] (.f n_laws_eqOpS) [.s 72, .s 74], .un 76 .not (.s 75)] [0,1,2,8,9,10,11,12,13,14,76])
(.cond (.s 76) (.seq (pr [.mv 6 cF] [6])
.ret) .skip))
(.seq (.seq (pr [.mv 77 (.s 12), .mv 78 (.s 2), .call 79 [28] (.f n_laws_toLibraryS) [.s 78], .call 80 [] (.f n_laws_eqLibraryS) [.s 77, .s 79], .un 81 .not (.s 80)] [0,1,2,8,9,10,11,12,13,14,81])
(.cond (.s 81) (.seq (pr [.mv 6 cF] [6])
.ret) .skip))
(.seq (pr [.mv 15 (ci 1)] [0,1,2,8,9,10,11,12,13,14,15])
(.seq (pr [.mv 82 (.s 10), .mv 83 (.s 15), .callI 84 [] (.f n_laws_markVersionS) [.s 82, .s 83] [13] [], .mv 15 (.s 84)] [0,1,2,8,9,11,12,13,14,15])
(.seq (pr [.mv 85 (.s 11), .mv 86 (.s 15), .callI 87 [] (.f n_laws_markOpS) [.s 85, .s 86] [14] [], .mv 15 (.s 87)] [0,1,2,8,9,12,13,14,15])
(.seq (pr [.mv 88 (.s 12), .mv 89 (.s 15), .callI 90 [] (.f n_laws_markLibraryS) [.s 88, .s 89] [15] [], .mv 15 (.s 90)] [0,1,2,8,9,13,14,15])
(.seq (.seq (.reg [Za (.mv 91 (.s 15)), Za (.bin 92 false .lss (.s 91) (ci 0)), Za (.mv 93 (.s 92)), Zb 93 false (.load 94 true 10 (.s 13)), Zb 93 false (.load 95 true 10 (.s 8)), Zb 93 false (.call 96 [] (.f n_laws_eqArchive) [.s 94, .s 95]), Zb 93 false (.un 97 .not (.s 96)), Za (.pick 98 (.s 93) cT (.s 97)), Za (.mv 99 (.s 98)), Zb 99 false (.mv 100 (.s 14)), Zb 99 false (.mv 101 (.s 9)), Zb 99 false (.bin 102 true .neq (.s 100) (.s 101)), Za (.pick 103 (.s 99) cT (.s 102))] [0,1,2,8,9,13,103])
(.cond (.s 103) (.seq (pr [.mv 6 cF] [6])
.ret) .skip))
(.seq (pr [.mv 16 (ci 1)] [0,1,2,8,9,13,16])
(.seq (pr [.load 104 true 10 (.s 13), .mv 105 (.s 16), .callI 106 [] (.f n_laws_markArchive) [.s 104, .s 105] [16,17,18,19,20,21,22,23,24] [], .mv 16 (.s 106)] [0,1,2,8,9,13,16])
(.seq (pr [.mv 17 (ci 1)] [0,1,2,8,9,13,16,17])
(.seq (pr [.load 107 true 10 (.s 13), .mv 108 (.s 17), .call 109 [] (.f n_laws_heldArchive) [.s 107, .s 108], .mv 17 (.s 109)] [0,1,2,8,9,13,16,17])
(.seq (.seq (pr [.mv 110 (.s 17), .bin 111 false .lss (.s 110) (ci 0)] [0,1,2,8,9,13,16,17,111])
(.cond (.s 111) (.seq (pr [.mv 6 cF] [6])
.ret) .skip))
(.seq (.seq (pr [.mv 112 (.s 17), .mv 113 (.s 16), .bin 114 false .neq (.s 112) (.s 113)] [0,1,2,8,9,13,16,114])
(.cond (.s 114) (.seq (pr [.mv 6 cF] [6])
.ret) .skip))
(.seq (pr [.mv 116 (.s 0), .call 117 [29] (.f n_laws_toVersionS) [.s 116], .mv 118 (.s 1), .call 119 [30] (.f n_laws_toOpS) [.s 118], .mv 120 (.s 2), .call 121 [31] (.f n_laws_toLibraryS) [.s 120], .call 122 [32, 33, 34, 35, 36, 37, 38, 39, 40] (.f n_impl_NewArchive) [.s 117, .s 119, .s 121], .mv 115 (.s 122), .ext 123 (.s 115) 0, .ext 124 (.s 115) 1, .alloc 18 41 [.emp 9, .emp 4, .emp 4, .emp 6, .emp 4, .emp 5, .emp 4, .emp 1, .emp 4, pz], .store 10 (.s 18) (.s 123), .mv 19 (.s 124)] [8,9,13,16,18,19])
(.seq (.seq (.reg [Za (.load 125 true 10 (.s 18)), Za (.load 126 true 10 (.s 8)), Za (.call 127 [] (.f n_laws_eqArchive) [.s 125, .s 126]), Za (.un 128 .not (.s 127)), Za (.mv 129 (.s 128)), Zb 129 false (.mv 130 (.s 19)), Zb 129 false (.mv 131 (.s 9)), Zb 129 false (.bin 132 true .neq (.s 130) (.s 131)), Za (.pick 133 (.s 129) cT (.s 132))] [13,16,133])
(.cond (.s 133) (.seq (pr [.mv 6 cF] [6])
.ret) .skip))
(.seq (pr [.mv 17 (ci 1)] [13,16,17])
(.seq (pr [.load 134 true 10 (.s 13), .mv 135 (.s 17), .call 136 [] (.f n_laws_heldArchive) [.s 134, .s 135], .mv 17 (.s 136)] [16,17])
(.seq (.seq (pr [.mv 137 (.s 17), .bin 138 false .lss (.s 137) (ci 0)] [16,17,138])
(.cond (.s 138) (.seq (pr [.mv 6 cF] [6])
.ret) .skip))
(.seq (.seq (pr [.mv 139 (.s 17), .mv 140 (.s 16), .bin 141 false .neq (.s 139) (.s 140)] [141])
(.cond (.s 141) (.seq (pr [.mv 6 cF] [6])
.ret) .skip))
(.seq (pr [.mv 6 cT] [6])
.ret)))))))))))))))))))))))))))))))))))
theorem c_laws_FnExactNewArchive (site : List GVersion) (script : List GOp) (libs : List GLibrary) : Ctr Tryz.prog n_laws_FnExactNewArchive [aL 9 (site.map GVersion.enc), aL 4 (script.map GOp.enc), aL 4 (libs.map GLibrary.enc)] [rB true] := by
 refine cA m_laws_FnExactNewArchive 42 142 [(.tmp 6, [false])] Tryz.func10 rfl rfl ?_; unfold m_laws_FnExactNewArchive
 intro hb
 clear hb
 simp only [↓reduceIte, reduceEqDiff, reduceLT, reduceAdd, reduceCtorEq, go_sem]
 apply callK_of (c_laws_szVersionS site _ (by omega))
 simp only [↓reduceIte, reduceEqDiff, reduceLT, reduceCtorEq, go_sem]
 intro _ hz
 obtain ⟨hz1, hz2, hz3⟩ := szr_add (m := script.length) (by omega) hz
 apply callK_of (c_laws_szOpS script _ hz1)
 rw [← hz3]
 simp only [↓reduceIte, reduceEqDiff, reduceLT, reduceCtorEq, go_sem]
 intro _ hz
 obtain ⟨hz1, hz2, hz3⟩ := szr_add (m := libs.length + (libs.map GLibrary.size).sum) (by omega) hz
 apply callK_of (c_laws_szLibraryS libs _ hz1)
 rw [← hz3]
 simp only [↓reduceIte, reduceEqDiff, reduceLT, reduceCtorEq, go_sem]
 intro _ hz
 have hs := szr_ok hz
 have hnn := newA_size site script libs
 have hc_site := ctL_le (c := GVersion.ct) (s := GVersion.size) GVersion.ct_le site
 have hc_script := ctL_le' (c := GOp.ct) (fun y => by simp only [GOp.ct]; omega) script
 have hc_libs := ctL_le (c := GLibrary.ct) (s := GLibrary.size) GLibrary.ct_le libs
 have hr0 := GArchive.cts_le (newTo site script libs)
 have hl_new_size := new_size site script libs
 apply callK_of (c_laws_toVersionS site (by omega))
 simp only [↓reduceIte, reduceEqDiff, reduceLT, reduceAdd, reduceCtorEq, go_sem]
 try intros
 apply callK_of (c_laws_toOpS script (by omega))
 simp only [↓reduceIte, reduceEqDiff, reduceLT, reduceAdd, reduceCtorEq, go_sem]
 try intros
 apply callK_of (c_laws_toLibraryS libs (by omega))
 simp only [↓reduceIte, reduceEqDiff, reduceLT, reduceAdd, reduceCtorEq, go_sem]
 try intros
 apply callK_of (c_spec_NewArchive site script libs (by omega))
 simp only [↓reduceIte, reduceEqDiff, reduceLT, reduceAdd, reduceCtorEq, go_sem]
 try intros
 apply callK_of (c_laws_toVersionS site (by omega))
 simp only [↓reduceIte, reduceEqDiff, reduceLT, reduceAdd, reduceCtorEq, go_sem]
 try intros
 apply callK_of (c_laws_toOpS script (by omega))
 simp only [↓reduceIte, reduceEqDiff, reduceLT, reduceAdd, reduceCtorEq, go_sem]
 try intros
 apply callK_of (c_laws_toLibraryS libs (by omega))
 simp only [↓reduceIte, reduceEqDiff, reduceLT, reduceAdd, reduceCtorEq, go_sem]
 try intros
 apply callK_of (c_impl_NewArchive site script libs (by omega))
 simp only [↓reduceIte, reduceEqDiff, reduceLT, reduceAdd, reduceCtorEq, go_sem]
 try intros
 apply callK_of (c_laws_eqArchive (newTo site script libs) (newTo site script libs))
 simp only [↓reduceIte, reduceEqDiff, reduceLT, reduceCtorEq, go_sem]
 try intros
 apply callK_of (c_laws_toVersionS site (by omega))
 simp only [↓reduceIte, reduceEqDiff, reduceLT, reduceAdd, reduceCtorEq, go_sem]
 try intros
 apply callK_of (c_laws_eqVersionS site site)
 simp only [↓reduceIte, reduceEqDiff, reduceLT, reduceCtorEq, go_sem]
 try intros
 apply callK_of (c_laws_toOpS script (by omega))
 simp only [↓reduceIte, reduceEqDiff, reduceLT, reduceAdd, reduceCtorEq, go_sem]
 try intros
 apply callK_of (c_laws_eqOpS script script)
 simp only [↓reduceIte, reduceEqDiff, reduceLT, reduceCtorEq, go_sem]
 try intros
 apply callK_of (c_laws_toLibraryS libs (by omega))
 simp only [↓reduceIte, reduceEqDiff, reduceLT, reduceAdd, reduceCtorEq, go_sem]
 try intros
 apply callK_of (c_laws_eqLibraryS libs libs)
 simp only [↓reduceIte, reduceEqDiff, reduceLT, reduceCtorEq, go_sem]
 try intros
 apply callIK_of (c_laws_markVersionS site (1) (by omega) (by omega))
 simp only [↓reduceIte, reduceEqDiff, reduceLT, reduceCtorEq, go_sem]
 try intros
 apply callIK_of (c_laws_markOpS script (1 + (ctL GVersion.ct (site) : Nat)) (by omega) (by omega))
 simp only [↓reduceIte, reduceEqDiff, reduceLT, reduceCtorEq, go_sem]
 try intros
 apply callIK_of (c_laws_markLibraryS libs (1 + (ctL GVersion.ct (site) : Nat) + (ctL GOp.ct (script) : Nat)) (by omega) (by omega))
 simp only [↓reduceIte, reduceEqDiff, reduceLT, reduceAdd, reduceCtorEq, go_sem]
 try intros
 have hk : ¬ ((1 + (ctL GVersion.ct (site) : Nat) + (ctL GOp.ct (script) : Nat) + (ctL GLibrary.ct (libs) : Nat) : Int)) < 0 := by omega
 simp only [go_sem, hk]
 try intros
 apply callK_of (c_laws_eqArchive (newTo site script libs) (newTo site script libs))
 simp only [↓reduceIte, reduceEqDiff, reduceLT, reduceAdd, reduceCtorEq, go_sem]
 try intros
 apply callIK_of (c_laws_markArchive (newTo site script libs) (1) (by omega) (by omega))
 simp only [↓reduceIte, reduceEqDiff, reduceLT, reduceAdd, reduceCtorEq, go_sem]
 try intros
 apply callK_of (c_laws_heldArchive (newTo site script libs) (1) (by omega) (by omega))
 simp only [↓reduceIte, reduceEqDiff, reduceLT, reduceCtorEq, go_sem]
 have hq0 : ¬ ((1 + ((newTo site script libs).cts : Nat) : Int)) < 0 := by omega
 try simp only [go_sem, hq0]
 try intros
 apply callK_of (c_laws_toVersionS site (by omega))
 simp only [↓reduceIte, reduceEqDiff, reduceLT, reduceAdd, reduceCtorEq, go_sem]
 try intros
 apply callK_of (c_laws_toOpS script (by omega))
 simp only [↓reduceIte, reduceEqDiff, reduceLT, reduceAdd, reduceCtorEq, go_sem]
 try intros
 apply callK_of (c_laws_toLibraryS libs (by omega))
 simp only [↓reduceIte, reduceEqDiff, reduceLT, reduceAdd, reduceCtorEq, go_sem]
 try intros
 apply callK_of (c_impl_NewArchive site script libs (by omega))
 simp only [↓reduceIte, reduceEqDiff, reduceLT, reduceAdd, reduceCtorEq, go_sem]
 try intros
 apply callK_of (c_laws_eqArchive (newTo site script libs) (newTo site script libs))
 simp only [↓reduceIte, reduceEqDiff, reduceLT, reduceAdd, reduceCtorEq, go_sem]
 try intros
 apply callK_of (c_laws_heldArchive (newTo site script libs) (1) (by omega) (by omega))
 simp only [↓reduceIte, reduceEqDiff, reduceLT, reduceCtorEq, go_sem]
 have hq0 : ¬ ((1 + ((newTo site script libs).cts : Nat) : Int)) < 0 := by omega
 try simp only [go_sem, hq0]
 try intros
end Go.Proofs.YtpclnmleldeleaaGreatR
