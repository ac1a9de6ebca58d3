/- What the functions compute that the laws of IsArchive, NewArchive reach: contracts. Conditions stand in each theorem. -/
import Derived.Test.YtpclnmleldeleaaGreatProg
import Derived.KernelRfl
import Derived.Test.YtpclnmleldeleaaGreatTArcha
namespace Go.Proofs.YtpclnmleldeleaaGreatR
open Go Go.RowKit Go.Proofs
open Nat (reduceEqDiff reduceLT reduceLeDiff reduceAdd reduceMul)
open List (reduceReplicate)
set_option linter.unusedSimpArgs false
set_option linter.unusedVariables false
def mkL {α : Type} (mk : α → Int → α) (c : α → Nat) : List α → Int → List α
 | [], _ => []
 | x :: l, k => mk x k :: mkL mk c l (k + (c x : Nat))
def ctL {α : Type} (c : α → Nat) (l : List α) : Nat := (l.map c).sum
def iMk (_ : Int) (k : Int) : Int := k
def iCt (_ : Int) : Nat := 1
def bMk (_ : Bool) (k : Int) : Bool := k.tmod 3 == 0
section
variable {α : Type} {mk : α → Int → α} {c : α → Nat} {l : List α} {k : Int} {i : Nat} {x : α} {f : α → List T}
theorem mkL_nil : mkL mk c [] k = [] := rfl
theorem ctL_nil : ctL c [] = 0 := rfl
theorem ctL_snoc (h : l[i]? = some x) : ctL c (l.take (i + 1)) = ctL c (l.take i) + c x := sum_snoc h
theorem ctL_take_le (i : Nat) : ctL c (l.take i) ≤ ctL c l := sum_take_le l i
theorem mkL_len : ∀ {l : List α} {k : Int}, (mkL mk c l k).length = l.length
 | [], _ => rfl
 | x :: l, k => by simp [mkL, mkL_len (l := l)]
theorem mkL_append : ∀ {l m : List α} {k : Int}, mkL mk c (l ++ m) k = mkL mk c l k ++ mkL mk c m (k + (ctL c l : Nat))
 | [], m, k => by simp [mkL, ctL]
 | x :: l, m, k => by
  simp only [List.cons_append, mkL, mkL_append (l := l), ctL, List.map_cons, List.sum_cons]
  rw [show k + (c x : Nat) + (((l.map c).sum : Nat) : Int) = k + ((c x + (l.map c).sum : Nat) : Int) by omega]
theorem mkL_snoc (h : l[i]? = some x) : mkL mk c (l.take (i + 1)) k = mkL mk c (l.take i) k ++ [mk x (k + (ctL c (l.take i) : Nat))] := by
 rw [take_snoc h, mkL_append]; rfl
theorem mkL_get (h : l[i]? = some x) : (mkL mk c l k)[i]? = some (mk x (k + (ctL c (l.take i) : Nat))) := by
 have hi := len_at h
 have e : mkL mk c l k = mkL mk c (l.take i) k ++ mkL mk c (l.drop i) (k + (ctL c (l.take i) : Nat)) := by
  rw [← mkL_append, List.take_append_drop]
 rw [e, List.getElem?_append_right (by rw [mkL_len]; simp; omega), mkL_len, List.length_take, Nat.min_eq_left (Nat.le_of_lt hi), Nat.sub_self, drop_cons h]
 rfl
def mid (A : List (List T)) (e : List T) (B : List (List T)) : List (List T) := A ++ e :: B
theorem mid_of (h : l[i]? = some x) : (mkL mk c (l.take i) k).map f ++ (l.drop i).map f = mid ((mkL mk c (l.take i) k).map f) (f x) ((l.drop (i + 1)).map f) := by
 rw [drop_cons h]; rfl
theorem mid_at (h : l[i]? = some x) : (∀ e, (mid ((mkL mk c (l.take i) k).map f) e ((l.drop (i + 1)).map f))[i]? = some e) ∧
  (∀ e e', (mid ((mkL mk c (l.take i) k).map f) e ((l.drop (i + 1)).map f)).set i e' = mid ((mkL mk c (l.take i) k).map f) e' ((l.drop (i + 1)).map f)) ∧
  (∀ e, (mid ((mkL mk c (l.take i) k).map f) e ((l.drop (i + 1)).map f)).length = l.length) ∧
  (∀ e, (mid ((mkL mk c (l.take i) k).map f) e ((l.drop (i + 1)).map f)).getD i [] = e) := by
 have hi := len_at h
 have hl : ((mkL mk c (l.take i) k).map f).length = i := by rw [List.length_map, mkL_len]; simp; omega
 generalize (mkL mk c (l.take i) k).map f = A at hl
 subst hl
 have h1 : ∀ e, (mid A e ((l.drop (A.length + 1)).map f))[A.length]? = some e := fun e => by simp [mid]
 refine ⟨h1, fun e e' => by simp [mid], fun e => by simp [mid]; omega, fun e => by rw [List.getD_eq_getElem?_getD, h1]; rfl⟩
theorem mid_snoc (h : l[i]? = some x) : mid ((mkL mk c (l.take i) k).map f) (f (mk x (k + (ctL c (l.take i) : Nat)))) ((l.drop (i + 1)).map f) = (mkL mk c (l.take (i + 1)) k).map f ++ (l.drop (i + 1)).map f := by
 rw [mkL_snoc h]; simp [mid]
theorem len_of_bd {sz : Nat} {es : List α} {rs : List RV} (h : bdVA (oL sz (es.map f) :: rs)) : es.length ≤ roomB := by
 simp only [bdVA, List.map_cons, bdL, bdT, List.length_map] at h
 exact h.1.1.1
theorem waK {K K' : Int} (h : K = K') (h1 : 0 ≤ K') (h2 : K' ≤ 9223372036854775807) : IntKind.i64.wrap K = K' := by
 subst h; rw [wI (by omega) (by omega)]
theorem ctL_le {s : α → Nat} (h : ∀ x, c x ≤ 16 * (1 + s x)) : ∀ l : List α, ctL c l ≤ 16 * (l.length + (l.map s).sum)
 | [] => by simp [ctL]
 | x :: l => by
  have h1 := h x
  have h2 := ctL_le h l
  simp only [ctL, List.map_cons, List.sum_cons, List.length_cons] at *
  omega
theorem ctL_le' (h : ∀ x, c x ≤ 16) : ∀ l : List α, ctL c l ≤ 16 * l.length
 | [] => by simp [ctL]
 | x :: l => by
  have h1 := h x
  have h2 := ctL_le' h l
  simp only [ctL, List.map_cons, List.sum_cons, List.length_cons] at *
  omega
end
abbrev oS (ts : List T) : RV := ⟨true, own ts⟩
attribute [go_sem] oS
theorem three_ne : ¬ (3 : Int) = 0 := by decide
attribute [go_sem] mkL_len
def m_laws_markIntS : MC :=
(.seq (pr [.mv 4 (ci 0)] [0,1])
(.seq (.seq (pr [.mv 5 (ci 0)] [0,1,5])
(.block 0 (.loop ([0,1,5], []) (.seq (.seq (pr [.mv 6 (.s 5), .mv 7 (.s 0), .len 8 false (.s 7), .bin 9 false .lss (.s 6) (.s 8)] [0,1,5,9])
(.cond (.s 9) .skip (.exit 0)))
(.seq (.block 1 (.seq (pr [.mv 12 (.s 0), .mv 13 (.s 5), .mv 14 (.s 1), .idx 15 1 (.s 12) (.s 13), .store 1 (.s 15) (.s 14)] [0,1,5])
(pr [.mv 16 (.s 1), .bin 17 false .add (.s 16) (ci 1), .mv 1 (.s 17)] [0,1,5])))
(pr [.mv 10 (.s 5), .bin 11 false .add (.s 10) (ci 1), .mv 5 (.s 11)] [0,1,5]))))))
(.seq (pr [.mv 18 (.s 1), .mv 4 (.s 18)] [4])
.ret)))
theorem c_laws_markIntS (xs : List Int) (k : Int) (hk : 0 ≤ k) (hN : k + (ctL iCt xs : Nat) ≤ 4611686018427387904) : CtrI Tryz.prog n_laws_markIntS [oL 1 (xs.map encI), iI k] [some (1, (mkL iMk iCt xs k).map encI)] [rI (k + (ctL iCt xs : Nat))] := by
 refine ctrI_at (M := m_laws_markIntS) (m := 0) (n := 19) (res := [(.tmp 4, [false])]) hmix Tryz.func28 rfl (by kernel_rfl) rfl (by kernel_rfl) (by kernel_rfl) (Nat.le_of_ble_eq_true rfl) rfl rfl ?_; unfold m_laws_markIntS
 intro hb
 have hl := len_of_bd hb
 clear hb
 simp only [↓reduceIte, reduceEqDiff, reduceLT, reduceCtorEq, go_sem]
 refine loopK_rng xs (fun i => [(1, vI (k + (ctL iCt (xs.take i) : Nat))), (5, vI i)]) (fun i => [(0, ⟨1, .row true 1 ((mkL iMk iCt (xs.take i) k).map encI ++ (xs.drop i).map encI)⟩)]) (fun _ => True) hl ?_
 simp only [↓reduceIte, reduceEqDiff, reduceCtorEq, go_sem]
 refine ⟨?_, trivial, ?_, ?_⟩
 ·simp only [↓reduceIte, reduceEqDiff, reduceLT, reduceCtorEq, go_sem, List.take_zero, List.drop_zero, mkL_nil, ctL_nil]
  all_goals simp
 ·intro i x hx _ h0 h1 hw
  have hR := mid_of (mk := iMk) (c := iCt) (k := k) (f := encI) hx
  have hA := mid_at (mk := iMk) (c := iCt) (k := k) (f := encI) hx
  generalize hAe : (mkL iMk iCt (xs.take i) k).map encI = A at hR hA
  generalize hBe : (xs.drop (i + 1)).map encI = B at hR hA
  obtain ⟨hg, hs, hl, hd⟩ := hA
  have hc := ctL_take_le (c := iCt) (i + 1) (l := xs)
  rw [ctL_snoc hx] at hc
  have hK0 : 0 ≤ k + ((ctL iCt (xs.take i) : Nat) : Int) := by omega
  have hK1 : k + ((ctL iCt (xs.take i) : Nat) : Int) + (iCt x : Nat) ≤ 4611686018427387904 := by omega
  generalize hK : k + ((ctL iCt (xs.take i) : Nat) : Int) = K at hK0 hK1
  simp only [iCt] at hK1
  simp only [↓reduceIte, reduceEqDiff, reduceLT, reduceCtorEq, go_sem, hw, hR, hg, hs, hl, h0, h1, waK (K := K + 1) (K' := K + 1) (by omega) (by omega) (by omega)]
  subst hK hAe hBe
  refine ⟨?_, mid_snoc hx⟩
  rw [ctL_snoc hx]
  simp only [iCt]
  omega
 ·intro _
  simp only [↓reduceIte, reduceEqDiff, reduceLT, reduceCtorEq, go_sem, List.take_length, List.drop_length, List.map_nil, List.append_nil, mkL_len]
def m_laws_heldIntS : MC :=
(.seq (pr [.mv 4 (ci 0)] [0,1])
(.seq (.seq (pr [.mv 5 (ci 0)] [0,1,5])
(.block 0 (.loop ([0,1,5], []) (.seq (.seq (pr [.mv 6 (.s 5), .mv 7 (.s 0), .len 8 false (.s 7), .bin 9 false .lss (.s 6) (.s 8)] [0,1,5,9])
(.cond (.s 9) .skip (.exit 0)))
(.seq (.block 1 (.seq (.seq (pr [.mv 12 (.s 0), .mv 13 (.s 5), .idx 14 1 (.s 12) (.s 13), .load 15 false 1 (.s 14), .mv 16 (.s 1), .bin 17 false .neq (.s 15) (.s 16)] [0,1,5,17])
(.cond (.s 17) (.seq (pr [.mv 4 (.c (.int .i64 (-1)))] [4])
.ret) .skip))
(pr [.mv 18 (.s 1), .bin 19 false .add (.s 18) (ci 1), .mv 1 (.s 19)] [0,1,5])))
(pr [.mv 10 (.s 5), .bin 11 false .add (.s 10) (ci 1), .mv 5 (.s 11)] [0,1,5]))))))
(.seq (pr [.mv 20 (.s 1), .mv 4 (.s 20)] [4])
.ret)))
theorem c_laws_heldIntS (xs : List Int) (k : Int) (hk : 0 ≤ k) (hN : k + (ctL iCt xs : Nat) ≤ 4611686018427387904) : Ctr Tryz.prog n_laws_heldIntS [aL 1 ((mkL iMk iCt xs k).map encI), aI k] [rI (k + (ctL iCt xs : Nat))] := by
 refine cA m_laws_heldIntS 0 21 [(.tmp 4, [false])] Tryz.func84 rfl rfl ?_; unfold m_laws_heldIntS
 intro hb
 simp only [bdA, bdL, bdT, bdR_map, wfB_i64, roomB, and_true, List.length_map] at hb
 have hl := hb.1.1
 rw [mkL_len] at hl
 clear hb
 simp only [↓reduceIte, reduceEqDiff, reduceLT, reduceCtorEq, go_sem]
 refine loopK_rng xs (fun i => [(1, vI (k + (ctL iCt (xs.take i) : Nat))), (5, vI i)]) (fun i => []) (fun _ => True) hl ?_
 simp only [↓reduceIte, reduceEqDiff, reduceCtorEq, go_sem]
 refine ⟨?_, trivial, ?_, ?_⟩
 ·simp only [↓reduceIte, reduceEqDiff, reduceLT, reduceCtorEq, go_sem, List.take_zero, ctL_nil]
  all_goals simp
 ·intro i x hx _ h0 h1 hw
  have hg := mkL_get (mk := iMk) (c := iCt) (k := k) hx
  have hc := ctL_take_le (c := iCt) (i + 1) (l := xs)
  rw [ctL_snoc hx] at hc
  have hK0 : 0 ≤ k + ((ctL iCt (xs.take i) : Nat) : Int) := by omega
  have hK1 : k + ((ctL iCt (xs.take i) : Nat) : Int) + (iCt x : Nat) ≤ 4611686018427387904 := by omega
  generalize hK : k + ((ctL iCt (xs.take i) : Nat) : Int) = K at hK0 hK1 hg
  simp only [iCt] at hK1
  simp only [↓reduceIte, reduceEqDiff, reduceLT, reduceCtorEq, go_sem, hw, bk_eq hg, h0, h1, mkL_len, iMk, waK (K := K + 1) (K' := K + 1) (by omega) (by omega) (by omega)]
  rw [ctL_snoc hx]
  simp only [iCt]
  omega
 ·intro _
  simp only [↓reduceIte, reduceEqDiff, reduceLT, reduceCtorEq, go_sem, List.take_length, mkL_len]
def GAddress.mkd (x : GAddress) (k : Int) : GAddress := ⟨k, (k + 1), (k + 2)⟩
def GAddress.ct (x : GAddress) : Nat := 3
def GResource.mkd (x : GResource) (k : Int) : GResource := ⟨k, (mkL iMk iCt x.Body (k + 1)), ⟨((k + 1) + (ctL iCt x.Body : Nat)), (((k + 1) + (ctL iCt x.Body : Nat)) + 1), (((k + 1) + (ctL iCt x.Body : Nat)) + 2)⟩⟩
def GResource.ct (x : GResource) : Nat := 4 + ctL iCt x.Body
theorem GResource.ct_le (x : GResource) : x.ct ≤ 16 * (1 + x.size) := by
 simp only [GResource.ct, GResource.size]
 have h0 := ctL_le' (c := iCt) (fun y => by simp only [iCt]; omega) x.Body
 omega
def GResource.mks (x : GResource) (k : Int) : GResource := { x with Body := mkL iMk iCt x.Body (k) }
def GResource.cts (x : GResource) : Nat := ctL iCt x.Body
theorem GResource.cts_le (x : GResource) : x.cts ≤ 16 * x.size := by
 simp only [GResource.cts, GResource.size]
 have hBody := ctL_le' (c := iCt) (fun y => by simp only [iCt]; omega) x.Body
 omega
@[go_sem] theorem GResource.mks_len0 (x : GResource) (k : Int) : ((x.mks k).Body).length = x.Body.length := mkL_len
def GPart.mkd (x : GPart) (k : Int) : GPart := ⟨k, ⟨(k + 1), (mkL iMk iCt x.Resource.Body (k + 2)), ⟨((k + 2) + (ctL iCt x.Resource.Body : Nat)), (((k + 2) + (ctL iCt x.Resource.Body : Nat)) + 1), (((k + 2) + (ctL iCt x.Resource.Body : Nat)) + 2)⟩⟩, (((k + 2) + (ctL iCt x.Resource.Body : Nat)) + 3)⟩
def GPart.ct (x : GPart) : Nat := 6 + ctL iCt x.Resource.Body
theorem GPart.ct_le (x : GPart) : x.ct ≤ 16 * (1 + x.size) := by
 simp only [GPart.ct, GPart.size, GResource.size]
 have h0 := ctL_le' (c := iCt) (fun y => by simp only [iCt]; omega) x.Resource.Body
 omega
def GPart.mks (x : GPart) (k : Int) : GPart := { x with Resource := x.Resource.mks (k) }
def GPart.cts (x : GPart) : Nat := x.Resource.cts
theorem GPart.cts_le (x : GPart) : x.cts ≤ 16 * x.size := by
 simp only [GPart.cts, GPart.size]
 have hResource := GResource.cts_le x.Resource
 omega
@[go_sem] theorem GPart.mks_len0 (x : GPart) (k : Int) : ((x.mks k).Resource.Body).length = x.Resource.Body.length := mkL_len
def GPiece.mkd (x : GPiece) (k : Int) : GPiece := ⟨k, (k + 1), (mkL iMk iCt x.New (k + 2))⟩
def GPiece.ct (x : GPiece) : Nat := 2 + ctL iCt x.New
theorem GPiece.ct_le (x : GPiece) : x.ct ≤ 16 * (1 + x.size) := by
 simp only [GPiece.ct, GPiece.size]
 have h0 := ctL_le' (c := iCt) (fun y => by simp only [iCt]; omega) x.New
 omega
def GPiece.mks (x : GPiece) (k : Int) : GPiece := { x with New := mkL iMk iCt x.New (k) }
def GPiece.cts (x : GPiece) : Nat := ctL iCt x.New
theorem GPiece.cts_le (x : GPiece) : x.cts ≤ 16 * x.size := by
 simp only [GPiece.cts, GPiece.size]
 have hNew := ctL_le' (c := iCt) (fun y => by simp only [iCt]; omega) x.New
 omega
@[go_sem] theorem GPiece.mks_len0 (x : GPiece) (k : Int) : ((x.mks k).New).length = x.New.length := mkL_len
def GVersion.mkd (x : GVersion) (k : Int) : GVersion := ⟨⟨k, (k + 1), (k + 2)⟩, (k + 3), ⟨(k + 4), (mkL iMk iCt x.Resource.Body (k + 5)), ⟨((k + 5) + (ctL iCt x.Resource.Body : Nat)), (((k + 5) + (ctL iCt x.Resource.Body : Nat)) + 1), (((k + 5) + (ctL iCt x.Resource.Body : Nat)) + 2)⟩⟩⟩
def GVersion.ct (x : GVersion) : Nat := 8 + ctL iCt x.Resource.Body
theorem GVersion.ct_le (x : GVersion) : x.ct ≤ 16 * (1 + x.size) := by
 simp only [GVersion.ct, GVersion.size, GResource.size]
 have h0 := ctL_le' (c := iCt) (fun y => by simp only [iCt]; omega) x.Resource.Body
 omega
def m_laws_markVersionS : MC :=
(.seq (pr [.mv 4 (ci 0)] [0,1])
(.seq (.seq (pr [.mv 5 (ci 0)] [0,1,5])
(.block 0 (.loop ([0,1,5], [1]) (.seq (.seq (pr [.mv 6 (.s 5), .mv 7 (.s 0), .len 8 false (.s 7), .bin 9 false .lss (.s 6) (.s 8)] [0,1,5,9])
(.cond (.s 9) .skip (.exit 0)))
(.seq (.block 1 (.seq (pr [.mv 12 (.s 0), .mv 13 (.s 5), .mv 14 (.s 1), .idx 15 9 (.s 12) (.s 13), .fld 16 (.s 15) 0, .fld 17 (.s 16) 0, .store 1 (.s 17) (.s 14)] [0,1,5])
(.seq (pr [.mv 18 (.s 1), .bin 19 false .add (.s 18) (ci 1), .mv 1 (.s 19)] [0,1,5])
(.seq (pr [.mv 20 (.s 0), .mv 21 (.s 5), .mv 22 (.s 1), .idx 23 9 (.s 20) (.s 21), .fld 24 (.s 23) 0, .fld 25 (.s 24) 1, .store 1 (.s 25) (.s 22)] [0,1,5])
(.seq (pr [.mv 26 (.s 1), .bin 27 false .add (.s 26) (ci 1), .mv 1 (.s 27)] [0,1,5])
(.seq (pr [.mv 28 (.s 0), .mv 29 (.s 5), .mv 30 (.s 1), .idx 31 9 (.s 28) (.s 29), .fld 32 (.s 31) 0, .fld 33 (.s 32) 2, .store 1 (.s 33) (.s 30)] [0,1,5])
(.seq (pr [.mv 34 (.s 1), .bin 35 false .add (.s 34) (ci 1), .mv 1 (.s 35)] [0,1,5])
(.seq (pr [.mv 36 (.s 0), .mv 37 (.s 5), .mv 38 (.s 1), .idx 39 9 (.s 36) (.s 37), .fld 40 (.s 39) 3, .store 1 (.s 40) (.s 38)] [0,1,5])
(.seq (pr [.mv 41 (.s 1), .bin 42 false .add (.s 41) (ci 1), .mv 1 (.s 42)] [0,1,5])
(.seq (pr [.mv 43 (.s 0), .mv 44 (.s 5), .mv 45 (.s 1), .idx 46 9 (.s 43) (.s 44), .fld 47 (.s 46) 4, .fld 48 (.s 47) 0, .store 1 (.s 48) (.s 45)] [0,1,5])
(.seq (pr [.mv 49 (.s 1), .bin 50 false .add (.s 49) (ci 1), .mv 1 (.s 50)] [0,1,5])
(.seq (pr [.mv 51 (.s 0), .mv 52 (.s 5), .idx 53 9 (.s 51) (.s 52), .fld 54 (.s 53) 4, .fld 55 (.s 54) 1, .loadT 56 1 (.s 55), .mv 57 (.s 1), .callI 58 [] (.f n_laws_markIntS) [.s 56, .s 57] [1] [0], .mv 1 (.s 58)] [0,1,5])
(.seq (pr [.mv 59 (.s 0), .mv 60 (.s 5), .mv 61 (.s 1), .idx 62 9 (.s 59) (.s 60), .fld 63 (.s 62) 4, .fld 64 (.s 63) 2, .fld 65 (.s 64) 0, .store 1 (.s 65) (.s 61)] [0,1,5])
(.seq (pr [.mv 66 (.s 1), .bin 67 false .add (.s 66) (ci 1), .mv 1 (.s 67)] [0,1,5])
(.seq (pr [.mv 68 (.s 0), .mv 69 (.s 5), .mv 70 (.s 1), .idx 71 9 (.s 68) (.s 69), .fld 72 (.s 71) 4, .fld 73 (.s 72) 2, .fld 74 (.s 73) 1, .store 1 (.s 74) (.s 70)] [0,1,5])
(.seq (pr [.mv 75 (.s 1), .bin 76 false .add (.s 75) (ci 1), .mv 1 (.s 76)] [0,1,5])
(.seq (pr [.mv 77 (.s 0), .mv 78 (.s 5), .mv 79 (.s 1), .idx 80 9 (.s 77) (.s 78), .fld 81 (.s 80) 4, .fld 82 (.s 81) 2, .fld 83 (.s 82) 2, .store 1 (.s 83) (.s 79)] [0,1,5])
(pr [.mv 84 (.s 1), .bin 85 false .add (.s 84) (ci 1), .mv 1 (.s 85)] [0,1,5]))))))))))))))))))
(pr [.mv 10 (.s 5), .bin 11 false .add (.s 10) (ci 1), .mv 5 (.s 11)] [0,1,5]))))))
(.seq (pr [.mv 86 (.s 1), .mv 4 (.s 86)] [4])
.ret)))
theorem c_laws_markVersionS (xs : List GVersion) (k : Int) (hk : 0 ≤ k) (hN : k + (ctL GVersion.ct xs : Nat) ≤ 4611686018427387904) : CtrI Tryz.prog n_laws_markVersionS [oL 9 (xs.map GVersion.enc), iI k] [some (9, (mkL GVersion.mkd GVersion.ct xs k).map GVersion.enc)] [rI (k + (ctL GVersion.ct xs : Nat))] := by
 refine ctrI_at (M := m_laws_markVersionS) (m := 1) (n := 87) (res := [(.tmp 4, [false])]) hmix Tryz.func52 rfl (by kernel_rfl) rfl (by kernel_rfl) (by kernel_rfl) (Nat.le_of_ble_eq_true rfl) rfl rfl ?_; unfold m_laws_markVersionS
 intro hb
 have hl := len_of_bd hb
 clear hb
 simp only [↓reduceIte, reduceEqDiff, reduceLT, reduceCtorEq, go_sem]
 refine loopK_rng xs (fun i => [(1, vI (k + (ctL GVersion.ct (xs.take i) : Nat))), (5, vI i)]) (fun i => [(0, ⟨1, .row true 9 ((mkL GVersion.mkd GVersion.ct (xs.take i) k).map GVersion.enc ++ (xs.drop i).map GVersion.enc)⟩)]) (fun _ => True) hl ?_
 simp only [↓reduceIte, reduceEqDiff, reduceAdd, reduceCtorEq, go_sem]
 refine ⟨?_, trivial, ?_, ?_⟩
 ·simp only [↓reduceIte, reduceEqDiff, reduceLT, reduceCtorEq, go_sem, List.take_zero, List.drop_zero, mkL_nil, ctL_nil]
  all_goals simp
 ·intro i x hx _ h0 h1 hw
  have hR := mid_of (mk := GVersion.mkd) (c := GVersion.ct) (k := k) (f := GVersion.enc) hx
  have hA := mid_at (mk := GVersion.mkd) (c := GVersion.ct) (k := k) (f := GVersion.enc) hx
  generalize hAe : (mkL GVersion.mkd GVersion.ct (xs.take i) k).map GVersion.enc = A at hR hA
  generalize hBe : (xs.drop (i + 1)).map GVersion.enc = B at hR hA
  obtain ⟨hg, hs, hl, hd⟩ := hA
  have hc := ctL_take_le (c := GVersion.ct) (i + 1) (l := xs)
  rw [ctL_snoc hx] at hc
  have hK0 : 0 ≤ k + ((ctL GVersion.ct (xs.take i) : Nat) : Int) := by omega
  have hK1 : k + ((ctL GVersion.ct (xs.take i) : Nat) : Int) + (GVersion.ct x : Nat) ≤ 4611686018427387904 := by omega
  generalize hK : k + ((ctL GVersion.ct (xs.take i) : Nat) : Int) = K at hK0 hK1
  simp only [GVersion.ct] at hK1
  simp only [↓reduceIte, reduceEqDiff, reduceLT, reduceLeDiff, reduceAdd, reduceCtorEq, go_sem, hR, hg, hs, hl, h0, h1, waK (K := K + 1) (K' := K + 1) (by omega) (by omega) (by omega), waK (K := K + 1 + 1) (K' := K + 2) (by omega) (by omega) (by omega), waK (K := K + 2 + 1) (K' := K + 3) (by omega) (by omega) (by omega), waK (K := K + 3 + 1) (K' := K + 4) (by omega) (by omega) (by omega), waK (K := K + 4 + 1) (K' := K + 5) (by omega) (by omega) (by omega)]
  refine callIK_of (c_laws_markIntS x.Resource.Body (K + 5) (by omega) (by omega)) ?_
  have hK1 : 0 ≤ K + 5 + (ctL iCt x.Resource.Body : Nat) := by omega
  generalize eK1 : K + 5 + ((ctL iCt x.Resource.Body : Nat) : Int) = K1 at hK1
  simp only [↓reduceIte, reduceEqDiff, reduceLT, reduceLeDiff, reduceAdd, reduceCtorEq, go_sem, hw, hg, hs, hl, hd, h0, h1, waK (K := K1 + 1) (K' := K1 + 1) (by omega) (by omega) (by omega), waK (K := K1 + 1 + 1) (K' := K1 + 2) (by omega) (by omega) (by omega), waK (K := K1 + 2 + 1) (K' := K1 + 3) (by omega) (by omega) (by omega)]
  subst eK1
  subst hK hAe hBe
  refine ⟨?_, mid_snoc hx⟩
  rw [ctL_snoc hx]
  simp only [GVersion.ct]
  omega
 ·intro _
  simp only [↓reduceIte, reduceEqDiff, reduceLT, reduceCtorEq, go_sem, List.take_length, List.drop_length, List.map_nil, List.append_nil, mkL_len]
def m_laws_heldVersionS : MC :=
(.seq (pr [.mv 4 (ci 0)] [0,1])
(.seq (.seq (pr [.mv 5 (ci 0)] [0,1,5])
(.block 0 (.loop ([0,1,5], []) (.seq (.seq (pr [.mv 6 (.s 5), .mv 7 (.s 0), .len 8 false (.s 7), .bin 9 false .lss (.s 6) (.s 8)] [0,1,5,9])
(.cond (.s 9) .skip (.exit 0)))
(.seq (.block 1 (.seq (.seq (pr [.mv 12 (.s 0), .mv 13 (.s 5), .idx 14 9 (.s 12) (.s 13), .fld 15 (.s 14) 0, .fld 16 (.s 15) 0, .load 17 false 1 (.s 16), .mv 18 (.s 1), .bin 19 false .neq (.s 17) (.s 18)] [0,1,5,19])
(.cond (.s 19) (.seq (pr [.mv 4 (.c (.int .i64 (-1)))] [4])
.ret) .skip))
(.seq (pr [.mv 20 (.s 1), .bin 21 false .add (.s 20) (ci 1), .mv 1 (.s 21)] [0,1,5])
(.seq (.seq (pr [.mv 22 (.s 0), .mv 23 (.s 5), .idx 24 9 (.s 22) (.s 23), .fld 25 (.s 24) 0, .fld 26 (.s 25) 1, .load 27 false 1 (.s 26), .mv 28 (.s 1), .bin 29 false .neq (.s 27) (.s 28)] [0,1,5,29])
(.cond (.s 29) (.seq (pr [.mv 4 (.c (.int .i64 (-1)))] [4])
.ret) .skip))
(.seq (pr [.mv 30 (.s 1), .bin 31 false .add (.s 30) (ci 1), .mv 1 (.s 31)] [0,1,5])
(.seq (.seq (pr [.mv 32 (.s 0), .mv 33 (.s 5), .idx 34 9 (.s 32) (.s 33), .fld 35 (.s 34) 0, .fld 36 (.s 35) 2, .load 37 false 1 (.s 36), .mv 38 (.s 1), .bin 39 false .neq (.s 37) (.s 38)] [0,1,5,39])
(.cond (.s 39) (.seq (pr [.mv 4 (.c (.int .i64 (-1)))] [4])
.ret) .skip))
(.seq (pr [.mv 40 (.s 1), .bin 41 false .add (.s 40) (ci 1), .mv 1 (.s 41)] [0,1,5])
(.seq (.seq (pr [.mv 42 (.s 0), .mv 43 (.s 5), .idx 44 9 (.s 42) (.s 43), .fld 45 (.s 44) 3, .load 46 false 1 (.s 45), .mv 47 (.s 1), .bin 48 false .neq (.s 46) (.s 47)] [0,1,5,48])
(.cond (.s 48) (.seq (pr [.mv 4 (.c (.int .i64 (-1)))] [4])
.ret) .skip))
(.seq (pr [.mv 49 (.s 1), .bin 50 false .add (.s 49) (ci 1), .mv 1 (.s 50)] [0,1,5])
(.seq (.seq (pr [.mv 51 (.s 0), .mv 52 (.s 5), .idx 53 9 (.s 51) (.s 52), .fld 54 (.s 53) 4, .fld 55 (.s 54) 0, .load 56 false 1 (.s 55), .mv 57 (.s 1), .bin 58 false .neq (.s 56) (.s 57)] [0,1,5,58])
(.cond (.s 58) (.seq (pr [.mv 4 (.c (.int .i64 (-1)))] [4])
.ret) .skip))
(.seq (pr [.mv 59 (.s 1), .bin 60 false .add (.s 59) (ci 1), .mv 1 (.s 60)] [0,1,5])
(.seq (pr [.mv 61 (.s 0), .mv 62 (.s 5), .idx 63 9 (.s 61) (.s 62), .fld 64 (.s 63) 4, .fld 65 (.s 64) 1, .load 66 false 1 (.s 65), .mv 67 (.s 1), .call 68 [] (.f n_laws_heldIntS) [.s 66, .s 67], .mv 1 (.s 68)] [0,1,5])
(.seq (.seq (pr [.mv 69 (.s 1), .bin 70 false .lss (.s 69) (ci 0)] [0,1,5,70])
(.cond (.s 70) (.seq (pr [.mv 4 (.c (.int .i64 (-1)))] [4])
.ret) .skip))
(.seq (.seq (pr [.mv 71 (.s 0), .mv 72 (.s 5), .idx 73 9 (.s 71) (.s 72), .fld 74 (.s 73) 4, .fld 75 (.s 74) 2, .fld 76 (.s 75) 0, .load 77 false 1 (.s 76), .mv 78 (.s 1), .bin 79 false .neq (.s 77) (.s 78)] [0,1,5,79])
(.cond (.s 79) (.seq (pr [.mv 4 (.c (.int .i64 (-1)))] [4])
.ret) .skip))
(.seq (pr [.mv 80 (.s 1), .bin 81 false .add (.s 80) (ci 1), .mv 1 (.s 81)] [0,1,5])
(.seq (.seq (pr [.mv 82 (.s 0), .mv 83 (.s 5), .idx 84 9 (.s 82) (.s 83), .fld 85 (.s 84) 4, .fld 86 (.s 85) 2, .fld 87 (.s 86) 1, .load 88 false 1 (.s 87), .mv 89 (.s 1), .bin 90 false .neq (.s 88) (.s 89)] [0,1,5,90])
(.cond (.s 90) (.seq (pr [.mv 4 (.c (.int .i64 (-1)))] [4])
.ret) .skip))
(.seq (pr [.mv 91 (.s 1), .bin 92 false .add (.s 91) (ci 1), .mv 1 (.s 92)] [0,1,5])
(.seq (.seq (pr [.mv 93 (.s 0), .mv 94 (.s 5), .idx 95 9 (.s 93) (.s 94), .fld 96 (.s 95) 4, .fld 97 (.s 96) 2, .fld 98 (.s 97) 2, .load 99 false 1 (.s 98), .mv 100 (.s 1), .bin 101 false .neq (.s 99) (.s 100)] [0,1,5,101])
(.cond (.s 101) (.seq (pr [.mv 4 (.c (.int .i64 (-1)))] [4])
.ret) .skip))
(pr [.mv 102 (.s 1), .bin 103 false .add (.s 102) (ci 1), .mv 1 (.s 103)] [0,1,5])))))))))))))))))))
(pr [.mv 10 (.s 5), .bin 11 false .add (.s 10) (ci 1), .mv 5 (.s 11)] [0,1,5]))))))
(.seq (pr [.mv 104 (.s 1), .mv 4 (.s 104)] [4])
.ret)))
theorem c_laws_heldVersionS (xs : List GVersion) (k : Int) (hk : 0 ≤ k) (hN : k + (ctL GVersion.ct xs : Nat) ≤ 4611686018427387904) : Ctr Tryz.prog n_laws_heldVersionS [aL 9 ((mkL GVersion.mkd GVersion.ct xs k).map GVersion.enc), aI k] [rI (k + (ctL GVersion.ct xs : Nat))] := by
 refine cA m_laws_heldVersionS 0 105 [(.tmp 4, [false])] Tryz.func79 rfl rfl ?_; unfold m_laws_heldVersionS
 intro hb
 simp only [bdA, bdL, bdT, bdR_map, wfB_i64, roomB, and_true, List.length_map] at hb
 have hl := hb.1.1
 rw [mkL_len] at hl
 clear hb
 simp only [↓reduceIte, reduceEqDiff, reduceLT, reduceCtorEq, go_sem]
 refine loopK_rng xs (fun i => [(1, vI (k + (ctL GVersion.ct (xs.take i) : Nat))), (5, vI i)]) (fun i => []) (fun _ => True) hl ?_
 simp only [↓reduceIte, reduceEqDiff, reduceCtorEq, go_sem]
 refine ⟨?_, trivial, ?_, ?_⟩
 ·simp only [↓reduceIte, reduceEqDiff, reduceLT, reduceCtorEq, go_sem, List.take_zero, ctL_nil]
  all_goals simp
 ·intro i x hx _ h0 h1 hw
  have hg := mkL_get (mk := GVersion.mkd) (c := GVersion.ct) (k := k) hx
  have hc := ctL_take_le (c := GVersion.ct) (i + 1) (l := xs)
  rw [ctL_snoc hx] at hc
  have hK0 : 0 ≤ k + ((ctL GVersion.ct (xs.take i) : Nat) : Int) := by omega
  have hK1 : k + ((ctL GVersion.ct (xs.take i) : Nat) : Int) + (GVersion.ct x : Nat) ≤ 4611686018427387904 := by omega
  generalize hK : k + ((ctL GVersion.ct (xs.take i) : Nat) : Int) = K at hK0 hK1 hg
  simp only [GVersion.ct] at hK1
  try simp only [↓reduceIte, reduceEqDiff, reduceLT, reduceLeDiff, reduceAdd, reduceCtorEq, go_sem, bk_eq hg, h0, h1, mkL_len, GVersion.mkd, waK (K := K + 1) (K' := K + 1) (by omega) (by omega) (by omega), waK (K := K + 1 + 1) (K' := K + 2) (by omega) (by omega) (by omega), waK (K := K + 2 + 1) (K' := K + 3) (by omega) (by omega) (by omega), waK (K := K + 3 + 1) (K' := K + 4) (by omega) (by omega) (by omega), waK (K := K + 4 + 1) (K' := K + 5) (by omega) (by omega) (by omega)]
  refine callK_of (c_laws_heldIntS x.Resource.Body (K + 5) (by omega) (by omega)) ?_
  have hK1 : 0 ≤ K + 5 + (ctL iCt x.Resource.Body : Nat) := by omega
  generalize eK1 : K + 5 + ((ctL iCt x.Resource.Body : Nat) : Int) = K1 at hK1
  have nK1 : ¬ K1 < 0 := by omega
  simp only [↓reduceIte, reduceEqDiff, reduceLT, reduceLeDiff, reduceAdd, reduceCtorEq, go_sem, hw, bk_eq hg, h0, h1, mkL_len, GVersion.mkd, nK1, eK1]
  intro _
  simp only [go_sem, waK (K := K1 + 1) (K' := K1 + 1) (by omega) (by omega) (by omega), waK (K := K1 + 1 + 1) (K' := K1 + 2) (by omega) (by omega) (by omega), waK (K := K1 + 2 + 1) (K' := K1 + 3) (by omega) (by omega) (by omega)]
  subst eK1
  rw [ctL_snoc hx]
  simp only [GVersion.ct]
  omega
 ·intro _
  simp only [↓reduceIte, reduceEqDiff, reduceLT, reduceCtorEq, go_sem, List.take_length, mkL_len]
def GVersion.mks (x : GVersion) (k : Int) : GVersion := { x with Resource := x.Resource.mks (k) }
def GVersion.cts (x : GVersion) : Nat := x.Resource.cts
theorem GVersion.cts_le (x : GVersion) : x.cts ≤ 16 * x.size := by
 simp only [GVersion.cts, GVersion.size]
 have hResource := GResource.cts_le x.Resource
 omega
@[go_sem] theorem GVersion.mks_len0 (x : GVersion) (k : Int) : ((x.mks k).Resource.Body).length = x.Resource.Body.length := mkL_len
def GOp.mkd (x : GOp) (k : Int) : GOp := ⟨k, (k + 1), (k + 2), (k + 3)⟩
def GOp.ct (x : GOp) : Nat := 4
def m_laws_markOpS : MC :=
(.seq (pr [.mv 4 (ci 0)] [0,1])
(.seq (.seq (pr [.mv 5 (ci 0)] [0,1,5])
(.block 0 (.loop ([0,1,5], []) (.seq (.seq (pr [.mv 6 (.s 5), .mv 7 (.s 0), .len 8 false (.s 7), .bin 9 false .lss (.s 6) (.s 8)] [0,1,5,9])
(.cond (.s 9) .skip (.exit 0)))
(.seq (.block 1 (.seq (pr [.mv 12 (.s 0), .mv 13 (.s 5), .mv 14 (.s 1), .idx 15 4 (.s 12) (.s 13), .fld 16 (.s 15) 0, .store 1 (.s 16) (.s 14)] [0,1,5])
(.seq (pr [.mv 17 (.s 1), .bin 18 false .add (.s 17) (ci 1), .mv 1 (.s 18)] [0,1,5])
(.seq (pr [.mv 19 (.s 0), .mv 20 (.s 5), .mv 21 (.s 1), .idx 22 4 (.s 19) (.s 20), .fld 23 (.s 22) 1, .store 1 (.s 23) (.s 21)] [0,1,5])
(.seq (pr [.mv 24 (.s 1), .bin 25 false .add (.s 24) (ci 1), .mv 1 (.s 25)] [0,1,5])
(.seq (pr [.mv 26 (.s 0), .mv 27 (.s 5), .mv 28 (.s 1), .idx 29 4 (.s 26) (.s 27), .fld 30 (.s 29) 2, .store 1 (.s 30) (.s 28)] [0,1,5])
(.seq (pr [.mv 31 (.s 1), .bin 32 false .add (.s 31) (ci 1), .mv 1 (.s 32)] [0,1,5])
(.seq (pr [.mv 33 (.s 0), .mv 34 (.s 5), .mv 35 (.s 1), .idx 36 4 (.s 33) (.s 34), .fld 37 (.s 36) 3, .store 1 (.s 37) (.s 35)] [0,1,5])
(pr [.mv 38 (.s 1), .bin 39 false .add (.s 38) (ci 1), .mv 1 (.s 39)] [0,1,5])))))))))
(pr [.mv 10 (.s 5), .bin 11 false .add (.s 10) (ci 1), .mv 5 (.s 11)] [0,1,5]))))))
(.seq (pr [.mv 40 (.s 1), .mv 4 (.s 40)] [4])
.ret)))
theorem c_laws_markOpS (xs : List GOp) (k : Int) (hk : 0 ≤ k) (hN : k + (ctL GOp.ct xs : Nat) ≤ 4611686018427387904) : CtrI Tryz.prog n_laws_markOpS [oL 4 (xs.map GOp.enc), iI k] [some (4, (mkL GOp.mkd GOp.ct xs k).map GOp.enc)] [rI (k + (ctL GOp.ct xs : Nat))] := by
 refine ctrI_at (M := m_laws_markOpS) (m := 0) (n := 41) (res := [(.tmp 4, [false])]) hmix Tryz.func53 rfl (by kernel_rfl) rfl (by kernel_rfl) (by kernel_rfl) (Nat.le_of_ble_eq_true rfl) rfl rfl ?_; unfold m_laws_markOpS
 intro hb
 have hl := len_of_bd hb
 clear hb
 simp only [↓reduceIte, reduceEqDiff, reduceLT, reduceCtorEq, go_sem]
 refine loopK_rng xs (fun i => [(1, vI (k + (ctL GOp.ct (xs.take i) : Nat))), (5, vI i)]) (fun i => [(0, ⟨1, .row true 4 ((mkL GOp.mkd GOp.ct (xs.take i) k).map GOp.enc ++ (xs.drop i).map GOp.enc)⟩)]) (fun _ => True) hl ?_
 simp only [↓reduceIte, reduceEqDiff, reduceCtorEq, go_sem]
 refine ⟨?_, trivial, ?_, ?_⟩
 ·simp only [↓reduceIte, reduceEqDiff, reduceLT, reduceCtorEq, go_sem, List.take_zero, List.drop_zero, mkL_nil, ctL_nil]
  all_goals simp
 ·intro i x hx _ h0 h1 hw
  have hR := mid_of (mk := GOp.mkd) (c := GOp.ct) (k := k) (f := GOp.enc) hx
  have hA := mid_at (mk := GOp.mkd) (c := GOp.ct) (k := k) (f := GOp.enc) hx
  generalize hAe : (mkL GOp.mkd GOp.ct (xs.take i) k).map GOp.enc = A at hR hA
  generalize hBe : (xs.drop (i + 1)).map GOp.enc = B at hR hA
  obtain ⟨hg, hs, hl, hd⟩ := hA
  have hc := ctL_take_le (c := GOp.ct) (i + 1) (l := xs)
  rw [ctL_snoc hx] at hc
  have hK0 : 0 ≤ k + ((ctL GOp.ct (xs.take i) : Nat) : Int) := by omega
  have hK1 : k + ((ctL GOp.ct (xs.take i) : Nat) : Int) + (GOp.ct x : Nat) ≤ 4611686018427387904 := by omega
  generalize hK : k + ((ctL GOp.ct (xs.take i) : Nat) : Int) = K at hK0 hK1
  simp only [GOp.ct] at hK1
  simp only [↓reduceIte, reduceEqDiff, reduceLT, reduceLeDiff, reduceAdd, reduceCtorEq, go_sem, hw, hR, hg, hs, hl, h0, h1, waK (K := K + 1) (K' := K + 1) (by omega) (by omega) (by omega), waK (K := K + 1 + 1) (K' := K + 2) (by omega) (by omega) (by omega), waK (K := K + 2 + 1) (K' := K + 3) (by omega) (by omega) (by omega), waK (K := K + 3 + 1) (K' := K + 4) (by omega) (by omega) (by omega)]
  subst hK hAe hBe
  refine ⟨?_, mid_snoc hx⟩
  rw [ctL_snoc hx]
  simp only [GOp.ct]
  omega
 ·intro _
  simp only [↓reduceIte, reduceEqDiff, reduceLT, reduceCtorEq, go_sem, List.take_length, List.drop_length, List.map_nil, List.append_nil, mkL_len]
def m_laws_heldOpS : MC :=
(.seq (pr [.mv 4 (ci 0)] [0,1])
(.seq (.seq (pr [.mv 5 (ci 0)] [0,1,5])
(.block 0 (.loop ([0,1,5], []) (.seq (.seq (pr [.mv 6 (.s 5), .mv 7 (.s 0), .len 8 false (.s 7), .bin 9 false .lss (.s 6) (.s 8)] [0,1,5,9])
(.cond (.s 9) .skip (.exit 0)))
(.seq (.block 1 (.seq (.seq (pr [.mv 12 (.s 0), .mv 13 (.s 5), .idx 14 4 (.s 12) (.s 13), .fld 15 (.s 14) 0, .load 16 false 1 (.s 15), .mv 17 (.s 1), .bin 18 false .neq (.s 16) (.s 17)] [0,1,5,18])
(.cond (.s 18) (.seq (pr [.mv 4 (.c (.int .i64 (-1)))] [4])
.ret) .skip))
(.seq (pr [.mv 19 (.s 1), .bin 20 false .add (.s 19) (ci 1), .mv 1 (.s 20)] [0,1,5])
(.seq (.seq (pr [.mv 21 (.s 0), .mv 22 (.s 5), .idx 23 4 (.s 21) (.s 22), .fld 24 (.s 23) 1, .load 25 false 1 (.s 24), .mv 26 (.s 1), .bin 27 false .neq (.s 25) (.s 26)] [0,1,5,27])
(.cond (.s 27) (.seq (pr [.mv 4 (.c (.int .i64 (-1)))] [4])
.ret) .skip))
(.seq (pr [.mv 28 (.s 1), .bin 29 false .add (.s 28) (ci 1), .mv 1 (.s 29)] [0,1,5])
(.seq (.seq (pr [.mv 30 (.s 0), .mv 31 (.s 5), .idx 32 4 (.s 30) (.s 31), .fld 33 (.s 32) 2, .load 34 false 1 (.s 33), .mv 35 (.s 1), .bin 36 false .neq (.s 34) (.s 35)] [0,1,5,36])
(.cond (.s 36) (.seq (pr [.mv 4 (.c (.int .i64 (-1)))] [4])
.ret) .skip))
(.seq (pr [.mv 37 (.s 1), .bin 38 false .add (.s 37) (ci 1), .mv 1 (.s 38)] [0,1,5])
(.seq (.seq (pr [.mv 39 (.s 0), .mv 40 (.s 5), .idx 41 4 (.s 39) (.s 40), .fld 42 (.s 41) 3, .load 43 false 1 (.s 42), .mv 44 (.s 1), .bin 45 false .neq (.s 43) (.s 44)] [0,1,5,45])
(.cond (.s 45) (.seq (pr [.mv 4 (.c (.int .i64 (-1)))] [4])
.ret) .skip))
(pr [.mv 46 (.s 1), .bin 47 false .add (.s 46) (ci 1), .mv 1 (.s 47)] [0,1,5])))))))))
(pr [.mv 10 (.s 5), .bin 11 false .add (.s 10) (ci 1), .mv 5 (.s 11)] [0,1,5]))))))
(.seq (pr [.mv 48 (.s 1), .mv 4 (.s 48)] [4])
.ret)))
theorem c_laws_heldOpS (xs : List GOp) (k : Int) (hk : 0 ≤ k) (hN : k + (ctL GOp.ct xs : Nat) ≤ 4611686018427387904) : Ctr Tryz.prog n_laws_heldOpS [aL 4 ((mkL GOp.mkd GOp.ct xs k).map GOp.enc), aI k] [rI (k + (ctL GOp.ct xs : Nat))] := by
 refine cA m_laws_heldOpS 0 49 [(.tmp 4, [false])] Tryz.func80 rfl rfl ?_; unfold m_laws_heldOpS
 intro hb
 simp only [bdA, bdL, bdT, bdR_map, wfB_i64, roomB, and_true, List.length_map] at hb
 have hl := hb.1.1
 rw [mkL_len] at hl
 clear hb
 simp only [↓reduceIte, reduceEqDiff, reduceLT, reduceCtorEq, go_sem]
 refine loopK_rng xs (fun i => [(1, vI (k + (ctL GOp.ct (xs.take i) : Nat))), (5, vI i)]) (fun i => []) (fun _ => True) hl ?_
 simp only [↓reduceIte, reduceEqDiff, reduceCtorEq, go_sem]
 refine ⟨?_, trivial, ?_, ?_⟩
 ·simp only [↓reduceIte, reduceEqDiff, reduceLT, reduceCtorEq, go_sem, List.take_zero, ctL_nil]
  all_goals simp
 ·intro i x hx _ h0 h1 hw
  have hg := mkL_get (mk := GOp.mkd) (c := GOp.ct) (k := k) hx
  have hc := ctL_take_le (c := GOp.ct) (i + 1) (l := xs)
  rw [ctL_snoc hx] at hc
  have hK0 : 0 ≤ k + ((ctL GOp.ct (xs.take i) : Nat) : Int) := by omega
  have hK1 : k + ((ctL GOp.ct (xs.take i) : Nat) : Int) + (GOp.ct x : Nat) ≤ 4611686018427387904 := by omega
  generalize hK : k + ((ctL GOp.ct (xs.take i) : Nat) : Int) = K at hK0 hK1 hg
  simp only [GOp.ct] at hK1
  simp only [↓reduceIte, reduceEqDiff, reduceLT, reduceLeDiff, reduceAdd, reduceCtorEq, go_sem, hw, bk_eq hg, h0, h1, mkL_len, GOp.mkd, waK (K := K + 1) (K' := K + 1) (by omega) (by omega) (by omega), waK (K := K + 1 + 1) (K' := K + 2) (by omega) (by omega) (by omega), waK (K := K + 2 + 1) (K' := K + 3) (by omega) (by omega) (by omega), waK (K := K + 3 + 1) (K' := K + 4) (by omega) (by omega) (by omega)]
  rw [ctL_snoc hx]
  simp only [GOp.ct]
  omega
 ·intro _
  simp only [↓reduceIte, reduceEqDiff, reduceLT, reduceCtorEq, go_sem, List.take_length, mkL_len]
def GState.mkd (x : GState) (k : Int) : GState := ⟨k, (mkL iMk iCt x.Regs (k + 1)), (mkL iMk iCt x.Slots ((k + 1) + (ctL iCt x.Regs : Nat))), (mkL iMk iCt x.Nodes (((k + 1) + (ctL iCt x.Regs : Nat)) + (ctL iCt x.Slots : Nat)))⟩
def GState.ct (x : GState) : Nat := 1 + ctL iCt x.Regs + ctL iCt x.Slots + ctL iCt x.Nodes
theorem GState.ct_le (x : GState) : x.ct ≤ 16 * (1 + x.size) := by
 simp only [GState.ct, GState.size]
 have h0 := ctL_le' (c := iCt) (fun y => by simp only [iCt]; omega) x.Regs
 have h1 := ctL_le' (c := iCt) (fun y => by simp only [iCt]; omega) x.Slots
 have h2 := ctL_le' (c := iCt) (fun y => by simp only [iCt]; omega) x.Nodes
 omega
def GState.mks (x : GState) (k : Int) : GState := { x with Regs := mkL iMk iCt x.Regs (k), Slots := mkL iMk iCt x.Slots (k + (ctL iCt x.Regs : Nat)), Nodes := mkL iMk iCt x.Nodes (k + (ctL iCt x.Regs : Nat) + (ctL iCt x.Slots : Nat)) }
def GState.cts (x : GState) : Nat := ctL iCt x.Regs + ctL iCt x.Slots + ctL iCt x.Nodes
theorem GState.cts_le (x : GState) : x.cts ≤ 16 * x.size := by
 simp only [GState.cts, GState.size]
 have hRegs := ctL_le' (c := iCt) (fun y => by simp only [iCt]; omega) x.Regs
 have hSlots := ctL_le' (c := iCt) (fun y => by simp only [iCt]; omega) x.Slots
 have hNodes := ctL_le' (c := iCt) (fun y => by simp only [iCt]; omega) x.Nodes
 omega
@[go_sem] theorem GState.mks_len0 (x : GState) (k : Int) : ((x.mks k).Regs).length = x.Regs.length := mkL_len
@[go_sem] theorem GState.mks_len1 (x : GState) (k : Int) : ((x.mks k).Slots).length = x.Slots.length := mkL_len
@[go_sem] theorem GState.mks_len2 (x : GState) (k : Int) : ((x.mks k).Nodes).length = x.Nodes.length := mkL_len
def GWant.mkd (x : GWant) (k : Int) : GWant := ⟨k, ⟨(k + 1), (k + 2), (k + 3)⟩⟩
def GWant.ct (x : GWant) : Nat := 4
def GEntry.mkd (x : GEntry) (k : Int) : GEntry := ⟨k, ⟨(k + 1), (k + 2), (k + 3)⟩, (k + 4)⟩
def GEntry.ct (x : GEntry) : Nat := 5
def m_laws_markEntryS : MC :=
(.seq (pr [.mv 4 (ci 0)] [0,1])
(.seq (.seq (pr [.mv 5 (ci 0)] [0,1,5])
(.block 0 (.loop ([0,1,5], []) (.seq (.seq (pr [.mv 6 (.s 5), .mv 7 (.s 0), .len 8 false (.s 7), .bin 9 false .lss (.s 6) (.s 8)] [0,1,5,9])
(.cond (.s 9) .skip (.exit 0)))
(.seq (.block 1 (.seq (pr [.mv 12 (.s 0), .mv 13 (.s 5), .mv 14 (.s 1), .idx 15 5 (.s 12) (.s 13), .fld 16 (.s 15) 0, .store 1 (.s 16) (.s 14)] [0,1,5])
(.seq (pr [.mv 17 (.s 1), .bin 18 false .add (.s 17) (ci 1), .mv 1 (.s 18)] [0,1,5])
(.seq (pr [.mv 19 (.s 0), .mv 20 (.s 5), .mv 21 (.s 1), .idx 22 5 (.s 19) (.s 20), .fld 23 (.s 22) 1, .fld 24 (.s 23) 0, .store 1 (.s 24) (.s 21)] [0,1,5])
(.seq (pr [.mv 25 (.s 1), .bin 26 false .add (.s 25) (ci 1), .mv 1 (.s 26)] [0,1,5])
(.seq (pr [.mv 27 (.s 0), .mv 28 (.s 5), .mv 29 (.s 1), .idx 30 5 (.s 27) (.s 28), .fld 31 (.s 30) 1, .fld 32 (.s 31) 1, .store 1 (.s 32) (.s 29)] [0,1,5])
(.seq (pr [.mv 33 (.s 1), .bin 34 false .add (.s 33) (ci 1), .mv 1 (.s 34)] [0,1,5])
(.seq (pr [.mv 35 (.s 0), .mv 36 (.s 5), .mv 37 (.s 1), .idx 38 5 (.s 35) (.s 36), .fld 39 (.s 38) 1, .fld 40 (.s 39) 2, .store 1 (.s 40) (.s 37)] [0,1,5])
(.seq (pr [.mv 41 (.s 1), .bin 42 false .add (.s 41) (ci 1), .mv 1 (.s 42)] [0,1,5])
(.seq (pr [.mv 43 (.s 0), .mv 44 (.s 5), .mv 45 (.s 1), .idx 46 5 (.s 43) (.s 44), .fld 47 (.s 46) 4, .store 1 (.s 47) (.s 45)] [0,1,5])
(pr [.mv 48 (.s 1), .bin 49 false .add (.s 48) (ci 1), .mv 1 (.s 49)] [0,1,5])))))))))))
(pr [.mv 10 (.s 5), .bin 11 false .add (.s 10) (ci 1), .mv 5 (.s 11)] [0,1,5]))))))
(.seq (pr [.mv 50 (.s 1), .mv 4 (.s 50)] [4])
.ret)))
theorem c_laws_markEntryS (xs : List GEntry) (k : Int) (hk : 0 ≤ k) (hN : k + (ctL GEntry.ct xs : Nat) ≤ 4611686018427387904) : CtrI Tryz.prog n_laws_markEntryS [oL 5 (xs.map GEntry.enc), iI k] [some (5, (mkL GEntry.mkd GEntry.ct xs k).map GEntry.enc)] [rI (k + (ctL GEntry.ct xs : Nat))] := by
 refine ctrI_at (M := m_laws_markEntryS) (m := 0) (n := 51) (res := [(.tmp 4, [false])]) hmix Tryz.func204 rfl (by kernel_rfl) rfl (by kernel_rfl) (by kernel_rfl) (Nat.le_of_ble_eq_true rfl) rfl rfl ?_; unfold m_laws_markEntryS
 intro hb
 have hl := len_of_bd hb
 clear hb
 simp only [↓reduceIte, reduceEqDiff, reduceLT, reduceCtorEq, go_sem]
 refine loopK_rng xs (fun i => [(1, vI (k + (ctL GEntry.ct (xs.take i) : Nat))), (5, vI i)]) (fun i => [(0, ⟨1, .row true 5 ((mkL GEntry.mkd GEntry.ct (xs.take i) k).map GEntry.enc ++ (xs.drop i).map GEntry.enc)⟩)]) (fun _ => True) hl ?_
 simp only [↓reduceIte, reduceEqDiff, reduceCtorEq, go_sem]
 refine ⟨?_, trivial, ?_, ?_⟩
 ·simp only [↓reduceIte, reduceEqDiff, reduceLT, reduceCtorEq, go_sem, List.take_zero, List.drop_zero, mkL_nil, ctL_nil]
  all_goals simp
 ·intro i x hx _ h0 h1 hw
  have hR := mid_of (mk := GEntry.mkd) (c := GEntry.ct) (k := k) (f := GEntry.enc) hx
  have hA := mid_at (mk := GEntry.mkd) (c := GEntry.ct) (k := k) (f := GEntry.enc) hx
  generalize hAe : (mkL GEntry.mkd GEntry.ct (xs.take i) k).map GEntry.enc = A at hR hA
  generalize hBe : (xs.drop (i + 1)).map GEntry.enc = B at hR hA
  obtain ⟨hg, hs, hl, hd⟩ := hA
  have hc := ctL_take_le (c := GEntry.ct) (i + 1) (l := xs)
  rw [ctL_snoc hx] at hc
  have hK0 : 0 ≤ k + ((ctL GEntry.ct (xs.take i) : Nat) : Int) := by omega
  have hK1 : k + ((ctL GEntry.ct (xs.take i) : Nat) : Int) + (GEntry.ct x : Nat) ≤ 4611686018427387904 := by omega
  generalize hK : k + ((ctL GEntry.ct (xs.take i) : Nat) : Int) = K at hK0 hK1
  simp only [GEntry.ct] at hK1
  simp only [↓reduceIte, reduceEqDiff, reduceLT, reduceLeDiff, reduceAdd, reduceCtorEq, go_sem, hw, hR, hg, hs, hl, h0, h1, waK (K := K + 1) (K' := K + 1) (by omega) (by omega) (by omega), waK (K := K + 1 + 1) (K' := K + 2) (by omega) (by omega) (by omega), waK (K := K + 2 + 1) (K' := K + 3) (by omega) (by omega) (by omega), waK (K := K + 3 + 1) (K' := K + 4) (by omega) (by omega) (by omega), waK (K := K + 4 + 1) (K' := K + 5) (by omega) (by omega) (by omega)]
  subst hK hAe hBe
  refine ⟨?_, mid_snoc hx⟩
  rw [ctL_snoc hx]
  simp only [GEntry.ct]
  omega
 ·intro _
  simp only [↓reduceIte, reduceEqDiff, reduceLT, reduceCtorEq, go_sem, List.take_length, List.drop_length, List.map_nil, List.append_nil, mkL_len]
def m_laws_heldEntryS : MC :=
(.seq (pr [.mv 4 (ci 0)] [0,1])
(.seq (.seq (pr [.mv 5 (ci 0)] [0,1,5])
(.block 0 (.loop ([0,1,5], []) (.seq (.seq (pr [.mv 6 (.s 5), .mv 7 (.s 0), .len 8 false (.s 7), .bin 9 false .lss (.s 6) (.s 8)] [0,1,5,9])
(.cond (.s 9) .skip (.exit 0)))
(.seq (.block 1 (.seq (.seq (pr [.mv 12 (.s 0), .mv 13 (.s 5), .idx 14 5 (.s 12) (.s 13), .fld 15 (.s 14) 0, .load 16 false 1 (.s 15), .mv 17 (.s 1), .bin 18 false .neq (.s 16) (.s 17)] [0,1,5,18])
(.cond (.s 18) (.seq (pr [.mv 4 (.c (.int .i64 (-1)))] [4])
.ret) .skip))
(.seq (pr [.mv 19 (.s 1), .bin 20 false .add (.s 19) (ci 1), .mv 1 (.s 20)] [0,1,5])
(.seq (.seq (pr [.mv 21 (.s 0), .mv 22 (.s 5), .idx 23 5 (.s 21) (.s 22), .fld 24 (.s 23) 1, .fld 25 (.s 24) 0, .load 26 false 1 (.s 25), .mv 27 (.s 1), .bin 28 false .neq (.s 26) (.s 27)] [0,1,5,28])
(.cond (.s 28) (.seq (pr [.mv 4 (.c (.int .i64 (-1)))] [4])
.ret) .skip))
(.seq (pr [.mv 29 (.s 1), .bin 30 false .add (.s 29) (ci 1), .mv 1 (.s 30)] [0,1,5])
(.seq (.seq (pr [.mv 31 (.s 0), .mv 32 (.s 5), .idx 33 5 (.s 31) (.s 32), .fld 34 (.s 33) 1, .fld 35 (.s 34) 1, .load 36 false 1 (.s 35), .mv 37 (.s 1), .bin 38 false .neq (.s 36) (.s 37)] [0,1,5,38])
(.cond (.s 38) (.seq (pr [.mv 4 (.c (.int .i64 (-1)))] [4])
.ret) .skip))
(.seq (pr [.mv 39 (.s 1), .bin 40 false .add (.s 39) (ci 1), .mv 1 (.s 40)] [0,1,5])
(.seq (.seq (pr [.mv 41 (.s 0), .mv 42 (.s 5), .idx 43 5 (.s 41) (.s 42), .fld 44 (.s 43) 1, .fld 45 (.s 44) 2, .load 46 false 1 (.s 45), .mv 47 (.s 1), .bin 48 false .neq (.s 46) (.s 47)] [0,1,5,48])
(.cond (.s 48) (.seq (pr [.mv 4 (.c (.int .i64 (-1)))] [4])
.ret) .skip))
(.seq (pr [.mv 49 (.s 1), .bin 50 false .add (.s 49) (ci 1), .mv 1 (.s 50)] [0,1,5])
(.seq (.seq (pr [.mv 51 (.s 0), .mv 52 (.s 5), .idx 53 5 (.s 51) (.s 52), .fld 54 (.s 53) 4, .load 55 false 1 (.s 54), .mv 56 (.s 1), .bin 57 false .neq (.s 55) (.s 56)] [0,1,5,57])
(.cond (.s 57) (.seq (pr [.mv 4 (.c (.int .i64 (-1)))] [4])
.ret) .skip))
(pr [.mv 58 (.s 1), .bin 59 false .add (.s 58) (ci 1), .mv 1 (.s 59)] [0,1,5])))))))))))
(pr [.mv 10 (.s 5), .bin 11 false .add (.s 10) (ci 1), .mv 5 (.s 11)] [0,1,5]))))))
(.seq (pr [.mv 60 (.s 1), .mv 4 (.s 60)] [4])
.ret)))
theorem c_laws_heldEntryS (xs : List GEntry) (k : Int) (hk : 0 ≤ k) (hN : k + (ctL GEntry.ct xs : Nat) ≤ 4611686018427387904) : Ctr Tryz.prog n_laws_heldEntryS [aL 5 ((mkL GEntry.mkd GEntry.ct xs k).map GEntry.enc), aI k] [rI (k + (ctL GEntry.ct xs : Nat))] := by
 refine cA m_laws_heldEntryS 0 61 [(.tmp 4, [false])] Tryz.func206 rfl rfl ?_; unfold m_laws_heldEntryS
 intro hb
 simp only [bdA, bdL, bdT, bdR_map, wfB_i64, roomB, and_true, List.length_map] at hb
 have hl := hb.1.1
 rw [mkL_len] at hl
 clear hb
 simp only [↓reduceIte, reduceEqDiff, reduceLT, reduceCtorEq, go_sem]
 refine loopK_rng xs (fun i => [(1, vI (k + (ctL GEntry.ct (xs.take i) : Nat))), (5, vI i)]) (fun i => []) (fun _ => True) hl ?_
 simp only [↓reduceIte, reduceEqDiff, reduceCtorEq, go_sem]
 refine ⟨?_, trivial, ?_, ?_⟩
 ·simp only [↓reduceIte, reduceEqDiff, reduceLT, reduceCtorEq, go_sem, List.take_zero, ctL_nil]
  all_goals simp
 ·intro i x hx _ h0 h1 hw
  have hg := mkL_get (mk := GEntry.mkd) (c := GEntry.ct) (k := k) hx
  have hc := ctL_take_le (c := GEntry.ct) (i + 1) (l := xs)
  rw [ctL_snoc hx] at hc
  have hK0 : 0 ≤ k + ((ctL GEntry.ct (xs.take i) : Nat) : Int) := by omega
  have hK1 : k + ((ctL GEntry.ct (xs.take i) : Nat) : Int) + (GEntry.ct x : Nat) ≤ 4611686018427387904 := by omega
  generalize hK : k + ((ctL GEntry.ct (xs.take i) : Nat) : Int) = K at hK0 hK1 hg
  simp only [GEntry.ct] at hK1
  simp only [↓reduceIte, reduceEqDiff, reduceLT, reduceLeDiff, reduceAdd, reduceCtorEq, go_sem, hw, bk_eq hg, h0, h1, mkL_len, GEntry.mkd, waK (K := K + 1) (K' := K + 1) (by omega) (by omega) (by omega), waK (K := K + 1 + 1) (K' := K + 2) (by omega) (by omega) (by omega), waK (K := K + 2 + 1) (K' := K + 3) (by omega) (by omega) (by omega), waK (K := K + 3 + 1) (K' := K + 4) (by omega) (by omega) (by omega), waK (K := K + 4 + 1) (K' := K + 5) (by omega) (by omega) (by omega)]
  rw [ctL_snoc hx]
  simp only [GEntry.ct]
  omega
 ·intro _
  simp only [↓reduceIte, reduceEqDiff, reduceLT, reduceCtorEq, go_sem, List.take_length, mkL_len]
def GCapture.mkd (x : GCapture) (k : Int) : GCapture := ⟨⟨k, (k + 1), (k + 2)⟩, (k + 3), ⟨(k + 4), (mkL iMk iCt x.Resource.Body (k + 5)), ⟨((k + 5) + (ctL iCt x.Resource.Body : Nat)), (((k + 5) + (ctL iCt x.Resource.Body : Nat)) + 1), (((k + 5) + (ctL iCt x.Resource.Body : Nat)) + 2)⟩⟩⟩
def GCapture.ct (x : GCapture) : Nat := 8 + ctL iCt x.Resource.Body
theorem GCapture.ct_le (x : GCapture) : x.ct ≤ 16 * (1 + x.size) := by
 simp only [GCapture.ct, GCapture.size, GResource.size]
 have h0 := ctL_le' (c := iCt) (fun y => by simp only [iCt]; omega) x.Resource.Body
 omega
def m_laws_markCaptureS : MC :=
(.seq (pr [.mv 4 (ci 0)] [0,1])
(.seq (.seq (pr [.mv 5 (ci 0)] [0,1,5])
(.block 0 (.loop ([0,1,5], [1]) (.seq (.seq (pr [.mv 6 (.s 5), .mv 7 (.s 0), .len 8 false (.s 7), .bin 9 false .lss (.s 6) (.s 8)] [0,1,5,9])
(.cond (.s 9) .skip (.exit 0)))
(.seq (.block 1 (.seq (pr [.mv 12 (.s 0), .mv 13 (.s 5), .mv 14 (.s 1), .idx 15 9 (.s 12) (.s 13), .fld 16 (.s 15) 0, .fld 17 (.s 16) 0, .store 1 (.s 17) (.s 14)] [0,1,5])
(.seq (pr [.mv 18 (.s 1), .bin 19 false .add (.s 18) (ci 1), .mv 1 (.s 19)] [0,1,5])
(.seq (pr [.mv 20 (.s 0), .mv 21 (.s 5), .mv 22 (.s 1), .idx 23 9 (.s 20) (.s 21), .fld 24 (.s 23) 0, .fld 25 (.s 24) 1, .store 1 (.s 25) (.s 22)] [0,1,5])
(.seq (pr [.mv 26 (.s 1), .bin 27 false .add (.s 26) (ci 1), .mv 1 (.s 27)] [0,1,5])
(.seq (pr [.mv 28 (.s 0), .mv 29 (.s 5), .mv 30 (.s 1), .idx 31 9 (.s 28) (.s 29), .fld 32 (.s 31) 0, .fld 33 (.s 32) 2, .store 1 (.s 33) (.s 30)] [0,1,5])
(.seq (pr [.mv 34 (.s 1), .bin 35 false .add (.s 34) (ci 1), .mv 1 (.s 35)] [0,1,5])
(.seq (pr [.mv 36 (.s 0), .mv 37 (.s 5), .mv 38 (.s 1), .idx 39 9 (.s 36) (.s 37), .fld 40 (.s 39) 3, .store 1 (.s 40) (.s 38)] [0,1,5])
(.seq (pr [.mv 41 (.s 1), .bin 42 false .add (.s 41) (ci 1), .mv 1 (.s 42)] [0,1,5])
(.seq (pr [.mv 43 (.s 0), .mv 44 (.s 5), .mv 45 (.s 1), .idx 46 9 (.s 43) (.s 44), .fld 47 (.s 46) 4, .fld 48 (.s 47) 0, .store 1 (.s 48) (.s 45)] [0,1,5])
(.seq (pr [.mv 49 (.s 1), .bin 50 false .add (.s 49) (ci 1), .mv 1 (.s 50)] [0,1,5])
(.seq (pr [.mv 51 (.s 0), .mv 52 (.s 5), .idx 53 9 (.s 51) (.s 52), .fld 54 (.s 53) 4, .fld 55 (.s 54) 1, .loadT 56 1 (.s 55), .mv 57 (.s 1), .callI 58 [] (.f n_laws_markIntS) [.s 56, .s 57] [1] [0], .mv 1 (.s 58)] [0,1,5])
(.seq (pr [.mv 59 (.s 0), .mv 60 (.s 5), .mv 61 (.s 1), .idx 62 9 (.s 59) (.s 60), .fld 63 (.s 62) 4, .fld 64 (.s 63) 2, .fld 65 (.s 64) 0, .store 1 (.s 65) (.s 61)] [0,1,5])
(.seq (pr [.mv 66 (.s 1), .bin 67 false .add (.s 66) (ci 1), .mv 1 (.s 67)] [0,1,5])
(.seq (pr [.mv 68 (.s 0), .mv 69 (.s 5), .mv 70 (.s 1), .idx 71 9 (.s 68) (.s 69), .fld 72 (.s 71) 4, .fld 73 (.s 72) 2, .fld 74 (.s 73) 1, .store 1 (.s 74) (.s 70)] [0,1,5])
(.seq (pr [.mv 75 (.s 1), .bin 76 false .add (.s 75) (ci 1), .mv 1 (.s 76)] [0,1,5])
(.seq (pr [.mv 77 (.s 0), .mv 78 (.s 5), .mv 79 (.s 1), .idx 80 9 (.s 77) (.s 78), .fld 81 (.s 80) 4, .fld 82 (.s 81) 2, .fld 83 (.s 82) 2, .store 1 (.s 83) (.s 79)] [0,1,5])
(pr [.mv 84 (.s 1), .bin 85 false .add (.s 84) (ci 1), .mv 1 (.s 85)] [0,1,5]))))))))))))))))))
(pr [.mv 10 (.s 5), .bin 11 false .add (.s 10) (ci 1), .mv 5 (.s 11)] [0,1,5]))))))
(.seq (pr [.mv 86 (.s 1), .mv 4 (.s 86)] [4])
.ret)))
theorem c_laws_markCaptureS (xs : List GCapture) (k : Int) (hk : 0 ≤ k) (hN : k + (ctL GCapture.ct xs : Nat) ≤ 4611686018427387904) : CtrI Tryz.prog n_laws_markCaptureS [oL 9 (xs.map GCapture.enc), iI k] [some (9, (mkL GCapture.mkd GCapture.ct xs k).map GCapture.enc)] [rI (k + (ctL GCapture.ct xs : Nat))] := by
 refine ctrI_at (M := m_laws_markCaptureS) (m := 1) (n := 87) (res := [(.tmp 4, [false])]) hmix Tryz.func205 rfl (by kernel_rfl) rfl (by kernel_rfl) (by kernel_rfl) (Nat.le_of_ble_eq_true rfl) rfl rfl ?_; unfold m_laws_markCaptureS
 intro hb
 have hl := len_of_bd hb
 clear hb
 simp only [↓reduceIte, reduceEqDiff, reduceLT, reduceCtorEq, go_sem]
 refine loopK_rng xs (fun i => [(1, vI (k + (ctL GCapture.ct (xs.take i) : Nat))), (5, vI i)]) (fun i => [(0, ⟨1, .row true 9 ((mkL GCapture.mkd GCapture.ct (xs.take i) k).map GCapture.enc ++ (xs.drop i).map GCapture.enc)⟩)]) (fun _ => True) hl ?_
 simp only [↓reduceIte, reduceEqDiff, reduceAdd, reduceCtorEq, go_sem]
 refine ⟨?_, trivial, ?_, ?_⟩
 ·simp only [↓reduceIte, reduceEqDiff, reduceLT, reduceCtorEq, go_sem, List.take_zero, List.drop_zero, mkL_nil, ctL_nil]
  all_goals simp
 ·intro i x hx _ h0 h1 hw
  have hR := mid_of (mk := GCapture.mkd) (c := GCapture.ct) (k := k) (f := GCapture.enc) hx
  have hA := mid_at (mk := GCapture.mkd) (c := GCapture.ct) (k := k) (f := GCapture.enc) hx
  generalize hAe : (mkL GCapture.mkd GCapture.ct (xs.take i) k).map GCapture.enc = A at hR hA
  generalize hBe : (xs.drop (i + 1)).map GCapture.enc = B at hR hA
  obtain ⟨hg, hs, hl, hd⟩ := hA
  have hc := ctL_take_le (c := GCapture.ct) (i + 1) (l := xs)
  rw [ctL_snoc hx] at hc
  have hK0 : 0 ≤ k + ((ctL GCapture.ct (xs.take i) : Nat) : Int) := by omega
  have hK1 : k + ((ctL GCapture.ct (xs.take i) : Nat) : Int) + (GCapture.ct x : Nat) ≤ 4611686018427387904 := by omega
  generalize hK : k + ((ctL GCapture.ct (xs.take i) : Nat) : Int) = K at hK0 hK1
  simp only [GCapture.ct] at hK1
  simp only [↓reduceIte, reduceEqDiff, reduceLT, reduceLeDiff, reduceAdd, reduceCtorEq, go_sem, hR, hg, hs, hl, h0, h1, waK (K := K + 1) (K' := K + 1) (by omega) (by omega) (by omega), waK (K := K + 1 + 1) (K' := K + 2) (by omega) (by omega) (by omega), waK (K := K + 2 + 1) (K' := K + 3) (by omega) (by omega) (by omega), waK (K := K + 3 + 1) (K' := K + 4) (by omega) (by omega) (by omega), waK (K := K + 4 + 1) (K' := K + 5) (by omega) (by omega) (by omega)]
  refine callIK_of (c_laws_markIntS x.Resource.Body (K + 5) (by omega) (by omega)) ?_
  have hK1 : 0 ≤ K + 5 + (ctL iCt x.Resource.Body : Nat) := by omega
  generalize eK1 : K + 5 + ((ctL iCt x.Resource.Body : Nat) : Int) = K1 at hK1
  simp only [↓reduceIte, reduceEqDiff, reduceLT, reduceLeDiff, reduceAdd, reduceCtorEq, go_sem, hw, hg, hs, hl, hd, h0, h1, waK (K := K1 + 1) (K' := K1 + 1) (by omega) (by omega) (by omega), waK (K := K1 + 1 + 1) (K' := K1 + 2) (by omega) (by omega) (by omega), waK (K := K1 + 2 + 1) (K' := K1 + 3) (by omega) (by omega) (by omega)]
  subst eK1
  subst hK hAe hBe
  refine ⟨?_, mid_snoc hx⟩
  rw [ctL_snoc hx]
  simp only [GCapture.ct]
  omega
 ·intro _
  simp only [↓reduceIte, reduceEqDiff, reduceLT, reduceCtorEq, go_sem, List.take_length, List.drop_length, List.map_nil, List.append_nil, mkL_len]
def m_laws_heldCaptureS : MC :=
(.seq (pr [.mv 4 (ci 0)] [0,1])
(.seq (.seq (pr [.mv 5 (ci 0)] [0,1,5])
(.block 0 (.loop ([0,1,5], []) (.seq (.seq (pr [.mv 6 (.s 5), .mv 7 (.s 0), .len 8 false (.s 7), .bin 9 false .lss (.s 6) (.s 8)] [0,1,5,9])
(.cond (.s 9) .skip (.exit 0)))
(.seq (.block 1 (.seq (.seq (pr [.mv 12 (.s 0), .mv 13 (.s 5), .idx 14 9 (.s 12) (.s 13), .fld 15 (.s 14) 0, .fld 16 (.s 15) 0, .load 17 false 1 (.s 16), .mv 18 (.s 1), .bin 19 false .neq (.s 17) (.s 18)] [0,1,5,19])
(.cond (.s 19) (.seq (pr [.mv 4 (.c (.int .i64 (-1)))] [4])
.ret) .skip))
(.seq (pr [.mv 20 (.s 1), .bin 21 false .add (.s 20) (ci 1), .mv 1 (.s 21)] [0,1,5])
(.seq (.seq (pr [.mv 22 (.s 0), .mv 23 (.s 5), .idx 24 9 (.s 22) (.s 23), .fld 25 (.s 24) 0, .fld 26 (.s 25) 1, .load 27 false 1 (.s 26), .mv 28 (.s 1), .bin 29 false .neq (.s 27) (.s 28)] [0,1,5,29])
(.cond (.s 29) (.seq (pr [.mv 4 (.c (.int .i64 (-1)))] [4])
.ret) .skip))
(.seq (pr [.mv 30 (.s 1), .bin 31 false .add (.s 30) (ci 1), .mv 1 (.s 31)] [0,1,5])
(.seq (.seq (pr [.mv 32 (.s 0), .mv 33 (.s 5), .idx 34 9 (.s 32) (.s 33), .fld 35 (.s 34) 0, .fld 36 (.s 35) 2, .load 37 false 1 (.s 36), .mv 38 (.s 1), .bin 39 false .neq (.s 37) (.s 38)] [0,1,5,39])
(.cond (.s 39) (.seq (pr [.mv 4 (.c (.int .i64 (-1)))] [4])
.ret) .skip))
(.seq (pr [.mv 40 (.s 1), .bin 41 false .add (.s 40) (ci 1), .mv 1 (.s 41)] [0,1,5])
(.seq (.seq (pr [.mv 42 (.s 0), .mv 43 (.s 5), .idx 44 9 (.s 42) (.s 43), .fld 45 (.s 44) 3, .load 46 false 1 (.s 45), .mv 47 (.s 1), .bin 48 false .neq (.s 46) (.s 47)] [0,1,5,48])
(.cond (.s 48) (.seq (pr [.mv 4 (.c (.int .i64 (-1)))] [4])
.ret) .skip))
(.seq (pr [.mv 49 (.s 1), .bin 50 false .add (.s 49) (ci 1), .mv 1 (.s 50)] [0,1,5])
(.seq (.seq (pr [.mv 51 (.s 0), .mv 52 (.s 5), .idx 53 9 (.s 51) (.s 52), .fld 54 (.s 53) 4, .fld 55 (.s 54) 0, .load 56 false 1 (.s 55), .mv 57 (.s 1), .bin 58 false .neq (.s 56) (.s 57)] [0,1,5,58])
(.cond (.s 58) (.seq (pr [.mv 4 (.c (.int .i64 (-1)))] [4])
.ret) .skip))
(.seq (pr [.mv 59 (.s 1), .bin 60 false .add (.s 59) (ci 1), .mv 1 (.s 60)] [0,1,5])
(.seq (pr [.mv 61 (.s 0), .mv 62 (.s 5), .idx 63 9 (.s 61) (.s 62), .fld 64 (.s 63) 4, .fld 65 (.s 64) 1, .load 66 false 1 (.s 65), .mv 67 (.s 1), .call 68 [] (.f n_laws_heldIntS) [.s 66, .s 67], .mv 1 (.s 68)] [0,1,5])
(.seq (.seq (pr [.mv 69 (.s 1), .bin 70 false .lss (.s 69) (ci 0)] [0,1,5,70])
(.cond (.s 70) (.seq (pr [.mv 4 (.c (.int .i64 (-1)))] [4])
.ret) .skip))
(.seq (.seq (pr [.mv 71 (.s 0), .mv 72 (.s 5), .idx 73 9 (.s 71) (.s 72), .fld 74 (.s 73) 4, .fld 75 (.s 74) 2, .fld 76 (.s 75) 0, .load 77 false 1 (.s 76), .mv 78 (.s 1), .bin 79 false .neq (.s 77) (.s 78)] [0,1,5,79])
(.cond (.s 79) (.seq (pr [.mv 4 (.c (.int .i64 (-1)))] [4])
.ret) .skip))
(.seq (pr [.mv 80 (.s 1), .bin 81 false .add (.s 80) (ci 1), .mv 1 (.s 81)] [0,1,5])
(.seq (.seq (pr [.mv 82 (.s 0), .mv 83 (.s 5), .idx 84 9 (.s 82) (.s 83), .fld 85 (.s 84) 4, .fld 86 (.s 85) 2, .fld 87 (.s 86) 1, .load 88 false 1 (.s 87), .mv 89 (.s 1), .bin 90 false .neq (.s 88) (.s 89)] [0,1,5,90])
(.cond (.s 90) (.seq (pr [.mv 4 (.c (.int .i64 (-1)))] [4])
.ret) .skip))
(.seq (pr [.mv 91 (.s 1), .bin 92 false .add (.s 91) (ci 1), .mv 1 (.s 92)] [0,1,5])
(.seq (.seq (pr [.mv 93 (.s 0), .mv 94 (.s 5), .idx 95 9 (.s 93) (.s 94), .fld 96 (.s 95) 4, .fld 97 (.s 96) 2, .fld 98 (.s 97) 2, .load 99 false 1 (.s 98), .mv 100 (.s 1), .bin 101 false .neq (.s 99) (.s 100)] [0,1,5,101])
(.cond (.s 101) (.seq (pr [.mv 4 (.c (.int .i64 (-1)))] [4])
.ret) .skip))
(pr [.mv 102 (.s 1), .bin 103 false .add (.s 102) (ci 1), .mv 1 (.s 103)] [0,1,5])))))))))))))))))))
(pr [.mv 10 (.s 5), .bin 11 false .add (.s 10) (ci 1), .mv 5 (.s 11)] [0,1,5]))))))
(.seq (pr [.mv 104 (.s 1), .mv 4 (.s 104)] [4])
.ret)))
theorem c_laws_heldCaptureS (xs : List GCapture) (k : Int) (hk : 0 ≤ k) (hN : k + (ctL GCapture.ct xs : Nat) ≤ 4611686018427387904) : Ctr Tryz.prog n_laws_heldCaptureS [aL 9 ((mkL GCapture.mkd GCapture.ct xs k).map GCapture.enc), aI k] [rI (k + (ctL GCapture.ct xs : Nat))] := by
 refine cA m_laws_heldCaptureS 0 105 [(.tmp 4, [false])] Tryz.func207 rfl rfl ?_; unfold m_laws_heldCaptureS
 intro hb
 simp only [bdA, bdL, bdT, bdR_map, wfB_i64, roomB, and_true, List.length_map] at hb
 have hl := hb.1.1
 rw [mkL_len] at hl
 clear hb
 simp only [↓reduceIte, reduceEqDiff, reduceLT, reduceCtorEq, go_sem]
 refine loopK_rng xs (fun i => [(1, vI (k + (ctL GCapture.ct (xs.take i) : Nat))), (5, vI i)]) (fun i => []) (fun _ => True) hl ?_
 simp only [↓reduceIte, reduceEqDiff, reduceCtorEq, go_sem]
 refine ⟨?_, trivial, ?_, ?_⟩
 ·simp only [↓reduceIte, reduceEqDiff, reduceLT, reduceCtorEq, go_sem, List.take_zero, ctL_nil]
  all_goals simp
 ·intro i x hx _ h0 h1 hw
  have hg := mkL_get (mk := GCapture.mkd) (c := GCapture.ct) (k := k) hx
  have hc := ctL_take_le (c := GCapture.ct) (i + 1) (l := xs)
  rw [ctL_snoc hx] at hc
  have hK0 : 0 ≤ k + ((ctL GCapture.ct (xs.take i) : Nat) : Int) := by omega
  have hK1 : k + ((ctL GCapture.ct (xs.take i) : Nat) : Int) + (GCapture.ct x : Nat) ≤ 4611686018427387904 := by omega
  generalize hK : k + ((ctL GCapture.ct (xs.take i) : Nat) : Int) = K at hK0 hK1 hg
  simp only [GCapture.ct] at hK1
  try simp only [↓reduceIte, reduceEqDiff, reduceLT, reduceLeDiff, reduceAdd, reduceCtorEq, go_sem, bk_eq hg, h0, h1, mkL_len, GCapture.mkd, waK (K := K + 1) (K' := K + 1) (by omega) (by omega) (by omega), waK (K := K + 1 + 1) (K' := K + 2) (by omega) (by omega) (by omega), waK (K := K + 2 + 1) (K' := K + 3) (by omega) (by omega) (by omega), waK (K := K + 3 + 1) (K' := K + 4) (by omega) (by omega) (by omega), waK (K := K + 4 + 1) (K' := K + 5) (by omega) (by omega) (by omega)]
  refine callK_of (c_laws_heldIntS x.Resource.Body (K + 5) (by omega) (by omega)) ?_
  have hK1 : 0 ≤ K + 5 + (ctL iCt x.Resource.Body : Nat) := by omega
  generalize eK1 : K + 5 + ((ctL iCt x.Resource.Body : Nat) : Int) = K1 at hK1
  have nK1 : ¬ K1 < 0 := by omega
  simp only [↓reduceIte, reduceEqDiff, reduceLT, reduceLeDiff, reduceAdd, reduceCtorEq, go_sem, hw, bk_eq hg, h0, h1, mkL_len, GCapture.mkd, nK1, eK1]
  intro _
  simp only [go_sem, waK (K := K1 + 1) (K' := K1 + 1) (by omega) (by omega) (by omega), waK (K := K1 + 1 + 1) (K' := K1 + 2) (by omega) (by omega) (by omega), waK (K := K1 + 2 + 1) (K' := K1 + 3) (by omega) (by omega) (by omega)]
  subst eK1
  rw [ctL_snoc hx]
  simp only [GCapture.ct]
  omega
 ·intro _
  simp only [↓reduceIte, reduceEqDiff, reduceLT, reduceCtorEq, go_sem, List.take_length, mkL_len]
def GCapture.mks (x : GCapture) (k : Int) : GCapture := { x with Resource := x.Resource.mks (k) }
def GCapture.cts (x : GCapture) : Nat := x.Resource.cts
theorem GCapture.cts_le (x : GCapture) : x.cts ≤ 16 * x.size := by
 simp only [GCapture.cts, GCapture.size]
 have hResource := GResource.cts_le x.Resource
 omega
@[go_sem] theorem GCapture.mks_len0 (x : GCapture) (k : Int) : ((x.mks k).Resource.Body).length = x.Resource.Body.length := mkL_len
def GChoice.mkd (x : GChoice) (k : Int) : GChoice := ⟨k, (k + 1)⟩
def GChoice.ct (x : GChoice) : Nat := 2
def GWander.mks (x : GWander) (k : Int) : GWander := { x with State := x.State.mks (k), Choices := mkL GChoice.mkd GChoice.ct x.Choices (k + (x.State.cts : Nat)), Labels := mkL iMk iCt x.Labels (k + (x.State.cts : Nat) + (ctL GChoice.ct x.Choices : Nat)) }
def GWander.cts (x : GWander) : Nat := x.State.cts + ctL GChoice.ct x.Choices + ctL iCt x.Labels
theorem GWander.cts_le (x : GWander) : x.cts ≤ 16 * x.size := by
 simp only [GWander.cts, GWander.size]
 have hState := GState.cts_le x.State
 have hChoices := ctL_le' (c := GChoice.ct) (fun y => by simp only [GChoice.ct]; omega) x.Choices
 have hLabels := ctL_le' (c := iCt) (fun y => by simp only [iCt]; omega) x.Labels
 omega
@[go_sem] theorem GWander.mks_len0 (x : GWander) (k : Int) : ((x.mks k).State.Regs).length = x.State.Regs.length := mkL_len
@[go_sem] theorem GWander.mks_len1 (x : GWander) (k : Int) : ((x.mks k).State.Slots).length = x.State.Slots.length := mkL_len
@[go_sem] theorem GWander.mks_len2 (x : GWander) (k : Int) : ((x.mks k).State.Nodes).length = x.State.Nodes.length := mkL_len
@[go_sem] theorem GWander.mks_len3 (x : GWander) (k : Int) : ((x.mks k).Choices).length = x.Choices.length := mkL_len
@[go_sem] theorem GWander.mks_len4 (x : GWander) (k : Int) : ((x.mks k).Labels).length = x.Labels.length := mkL_len
def GModel.mkd (x : GModel) (k : Int) : GModel := ⟨k, (k + 1), (k + 2), (bMk x.Fits (k + 3))⟩
def GModel.ct (x : GModel) : Nat := 4
def GShown.mkd (x : GShown) (k : Int) : GShown := ⟨k, ⟨(k + 1), (k + 2), (k + 3)⟩⟩
def GShown.ct (x : GShown) : Nat := 4
def GLeaf.mkd (x : GLeaf) (k : Int) : GLeaf := ⟨k, (k + 1), (bMk x.Hidden (k + 2)), (k + 3)⟩
def GLeaf.ct (x : GLeaf) : Nat := 4
def GEdition.mks (x : GEdition) (k : Int) : GEdition := { x with Captures := mkL GCapture.mkd GCapture.ct x.Captures (k), Hidden := mkL GAddress.mkd GAddress.ct x.Hidden (k + (ctL GCapture.ct x.Captures : Nat)) }
def GEdition.cts (x : GEdition) : Nat := ctL GCapture.ct x.Captures + ctL GAddress.ct x.Hidden
theorem GEdition.cts_le (x : GEdition) : x.cts ≤ 16 * x.size := by
 simp only [GEdition.cts, GEdition.size]
 have hCaptures := ctL_le (c := GCapture.ct) (s := GCapture.size) GCapture.ct_le x.Captures
 have hHidden := ctL_le' (c := GAddress.ct) (fun y => by simp only [GAddress.ct]; omega) x.Hidden
 omega
@[go_sem] theorem GEdition.mks_len0 (x : GEdition) (k : Int) : ((x.mks k).Captures).length = x.Captures.length := mkL_len
@[go_sem] theorem GEdition.mks_len1 (x : GEdition) (k : Int) : ((x.mks k).Hidden).length = x.Hidden.length := mkL_len
def GExclusion.mkd (x : GExclusion) (k : Int) : GExclusion := ⟨k, (k + 1), (k + 2), (k + 3), (k + 4)⟩
def GExclusion.ct (x : GExclusion) : Nat := 5
def m_laws_markExclusionS : MC :=
(.seq (pr [.mv 4 (ci 0)] [0,1])
(.seq (.seq (pr [.mv 5 (ci 0)] [0,1,5])
(.block 0 (.loop ([0,1,5], []) (.seq (.seq (pr [.mv 6 (.s 5), .mv 7 (.s 0), .len 8 false (.s 7), .bin 9 false .lss (.s 6) (.s 8)] [0,1,5,9])
(.cond (.s 9) .skip (.exit 0)))
(.seq (.block 1 (.seq (pr [.mv 12 (.s 0), .mv 13 (.s 5), .mv 14 (.s 1), .idx 15 5 (.s 12) (.s 13), .fld 16 (.s 15) 0, .store 1 (.s 16) (.s 14)] [0,1,5])
(.seq (pr [.mv 17 (.s 1), .bin 18 false .add (.s 17) (ci 1), .mv 1 (.s 18)] [0,1,5])
(.seq (pr [.mv 19 (.s 0), .mv 20 (.s 5), .mv 21 (.s 1), .idx 22 5 (.s 19) (.s 20), .fld 23 (.s 22) 1, .store 1 (.s 23) (.s 21)] [0,1,5])
(.seq (pr [.mv 24 (.s 1), .bin 25 false .add (.s 24) (ci 1), .mv 1 (.s 25)] [0,1,5])
(.seq (pr [.mv 26 (.s 0), .mv 27 (.s 5), .mv 28 (.s 1), .idx 29 5 (.s 26) (.s 27), .fld 30 (.s 29) 2, .store 1 (.s 30) (.s 28)] [0,1,5])
(.seq (pr [.mv 31 (.s 1), .bin 32 false .add (.s 31) (ci 1), .mv 1 (.s 32)] [0,1,5])
(.seq (pr [.mv 33 (.s 0), .mv 34 (.s 5), .mv 35 (.s 1), .idx 36 5 (.s 33) (.s 34), .fld 37 (.s 36) 3, .store 1 (.s 37) (.s 35)] [0,1,5])
(.seq (pr [.mv 38 (.s 1), .bin 39 false .add (.s 38) (ci 1), .mv 1 (.s 39)] [0,1,5])
(.seq (pr [.mv 40 (.s 0), .mv 41 (.s 5), .mv 42 (.s 1), .idx 43 5 (.s 40) (.s 41), .fld 44 (.s 43) 4, .store 1 (.s 44) (.s 42)] [0,1,5])
(pr [.mv 45 (.s 1), .bin 46 false .add (.s 45) (ci 1), .mv 1 (.s 46)] [0,1,5])))))))))))
(pr [.mv 10 (.s 5), .bin 11 false .add (.s 10) (ci 1), .mv 5 (.s 11)] [0,1,5]))))))
(.seq (pr [.mv 47 (.s 1), .mv 4 (.s 47)] [4])
.ret)))
theorem c_laws_markExclusionS (xs : List GExclusion) (k : Int) (hk : 0 ≤ k) (hN : k + (ctL GExclusion.ct xs : Nat) ≤ 4611686018427387904) : CtrI Tryz.prog n_laws_markExclusionS [oL 5 (xs.map GExclusion.enc), iI k] [some (5, (mkL GExclusion.mkd GExclusion.ct xs k).map GExclusion.enc)] [rI (k + (ctL GExclusion.ct xs : Nat))] := by
 refine ctrI_at (M := m_laws_markExclusionS) (m := 0) (n := 48) (res := [(.tmp 4, [false])]) hmix Tryz.func76 rfl (by kernel_rfl) rfl (by kernel_rfl) (by kernel_rfl) (Nat.le_of_ble_eq_true rfl) rfl rfl ?_; unfold m_laws_markExclusionS
 intro hb
 have hl := len_of_bd hb
 clear hb
 simp only [↓reduceIte, reduceEqDiff, reduceLT, reduceCtorEq, go_sem]
 refine loopK_rng xs (fun i => [(1, vI (k + (ctL GExclusion.ct (xs.take i) : Nat))), (5, vI i)]) (fun i => [(0, ⟨1, .row true 5 ((mkL GExclusion.mkd GExclusion.ct (xs.take i) k).map GExclusion.enc ++ (xs.drop i).map GExclusion.enc)⟩)]) (fun _ => True) hl ?_
 simp only [↓reduceIte, reduceEqDiff, reduceCtorEq, go_sem]
 refine ⟨?_, trivial, ?_, ?_⟩
 ·simp only [↓reduceIte, reduceEqDiff, reduceLT, reduceCtorEq, go_sem, List.take_zero, List.drop_zero, mkL_nil, ctL_nil]
  all_goals simp
 ·intro i x hx _ h0 h1 hw
  have hR := mid_of (mk := GExclusion.mkd) (c := GExclusion.ct) (k := k) (f := GExclusion.enc) hx
  have hA := mid_at (mk := GExclusion.mkd) (c := GExclusion.ct) (k := k) (f := GExclusion.enc) hx
  generalize hAe : (mkL GExclusion.mkd GExclusion.ct (xs.take i) k).map GExclusion.enc = A at hR hA
  generalize hBe : (xs.drop (i + 1)).map GExclusion.enc = B at hR hA
  obtain ⟨hg, hs, hl, hd⟩ := hA
  have hc := ctL_take_le (c := GExclusion.ct) (i + 1) (l := xs)
  rw [ctL_snoc hx] at hc
  have hK0 : 0 ≤ k + ((ctL GExclusion.ct (xs.take i) : Nat) : Int) := by omega
  have hK1 : k + ((ctL GExclusion.ct (xs.take i) : Nat) : Int) + (GExclusion.ct x : Nat) ≤ 4611686018427387904 := by omega
  generalize hK : k + ((ctL GExclusion.ct (xs.take i) : Nat) : Int) = K at hK0 hK1
  simp only [GExclusion.ct] at hK1
  simp only [↓reduceIte, reduceEqDiff, reduceLT, reduceLeDiff, reduceAdd, reduceCtorEq, go_sem, hw, hR, hg, hs, hl, h0, h1, waK (K := K + 1) (K' := K + 1) (by omega) (by omega) (by omega), waK (K := K + 1 + 1) (K' := K + 2) (by omega) (by omega) (by omega), waK (K := K + 2 + 1) (K' := K + 3) (by omega) (by omega) (by omega), waK (K := K + 3 + 1) (K' := K + 4) (by omega) (by omega) (by omega), waK (K := K + 4 + 1) (K' := K + 5) (by omega) (by omega) (by omega)]
  subst hK hAe hBe
  refine ⟨?_, mid_snoc hx⟩
  rw [ctL_snoc hx]
  simp only [GExclusion.ct]
  omega
 ·intro _
  simp only [↓reduceIte, reduceEqDiff, reduceLT, reduceCtorEq, go_sem, List.take_length, List.drop_length, List.map_nil, List.append_nil, mkL_len]
def m_laws_heldExclusionS : MC :=
(.seq (pr [.mv 4 (ci 0)] [0,1])
(.seq (.seq (pr [.mv 5 (ci 0)] [0,1,5])
(.block 0 (.loop ([0,1,5], []) (.seq (.seq (pr [.mv 6 (.s 5), .mv 7 (.s 0), .len 8 false (.s 7), .bin 9 false .lss (.s 6) (.s 8)] [0,1,5,9])
(.cond (.s 9) .skip (.exit 0)))
(.seq (.block 1 (.seq (.seq (pr [.mv 12 (.s 0), .mv 13 (.s 5), .idx 14 5 (.s 12) (.s 13), .fld 15 (.s 14) 0, .load 16 false 1 (.s 15), .mv 17 (.s 1), .bin 18 false .neq (.s 16) (.s 17)] [0,1,5,18])
(.cond (.s 18) (.seq (pr [.mv 4 (.c (.int .i64 (-1)))] [4])
.ret) .skip))
(.seq (pr [.mv 19 (.s 1), .bin 20 false .add (.s 19) (ci 1), .mv 1 (.s 20)] [0,1,5])
(.seq (.seq (pr [.mv 21 (.s 0), .mv 22 (.s 5), .idx 23 5 (.s 21) (.s 22), .fld 24 (.s 23) 1, .load 25 false 1 (.s 24), .mv 26 (.s 1), .bin 27 false .neq (.s 25) (.s 26)] [0,1,5,27])
(.cond (.s 27) (.seq (pr [.mv 4 (.c (.int .i64 (-1)))] [4])
.ret) .skip))
(.seq (pr [.mv 28 (.s 1), .bin 29 false .add (.s 28) (ci 1), .mv 1 (.s 29)] [0,1,5])
(.seq (.seq (pr [.mv 30 (.s 0), .mv 31 (.s 5), .idx 32 5 (.s 30) (.s 31), .fld 33 (.s 32) 2, .load 34 false 1 (.s 33), .mv 35 (.s 1), .bin 36 false .neq (.s 34) (.s 35)] [0,1,5,36])
(.cond (.s 36) (.seq (pr [.mv 4 (.c (.int .i64 (-1)))] [4])
.ret) .skip))
(.seq (pr [.mv 37 (.s 1), .bin 38 false .add (.s 37) (ci 1), .mv 1 (.s 38)] [0,1,5])
(.seq (.seq (pr [.mv 39 (.s 0), .mv 40 (.s 5), .idx 41 5 (.s 39) (.s 40), .fld 42 (.s 41) 3, .load 43 false 1 (.s 42), .mv 44 (.s 1), .bin 45 false .neq (.s 43) (.s 44)] [0,1,5,45])
(.cond (.s 45) (.seq (pr [.mv 4 (.c (.int .i64 (-1)))] [4])
.ret) .skip))
(.seq (pr [.mv 46 (.s 1), .bin 47 false .add (.s 46) (ci 1), .mv 1 (.s 47)] [0,1,5])
(.seq (.seq (pr [.mv 48 (.s 0), .mv 49 (.s 5), .idx 50 5 (.s 48) (.s 49), .fld 51 (.s 50) 4, .load 52 false 1 (.s 51), .mv 53 (.s 1), .bin 54 false .neq (.s 52) (.s 53)] [0,1,5,54])
(.cond (.s 54) (.seq (pr [.mv 4 (.c (.int .i64 (-1)))] [4])
.ret) .skip))
(pr [.mv 55 (.s 1), .bin 56 false .add (.s 55) (ci 1), .mv 1 (.s 56)] [0,1,5])))))))))))
(pr [.mv 10 (.s 5), .bin 11 false .add (.s 10) (ci 1), .mv 5 (.s 11)] [0,1,5]))))))
(.seq (pr [.mv 57 (.s 1), .mv 4 (.s 57)] [4])
.ret)))
theorem c_laws_heldExclusionS (xs : List GExclusion) (k : Int) (hk : 0 ≤ k) (hN : k + (ctL GExclusion.ct xs : Nat) ≤ 4611686018427387904) : Ctr Tryz.prog n_laws_heldExclusionS [aL 5 ((mkL GExclusion.mkd GExclusion.ct xs k).map GExclusion.enc), aI k] [rI (k + (ctL GExclusion.ct xs : Nat))] := by
 refine cA m_laws_heldExclusionS 0 58 [(.tmp 4, [false])] Tryz.func82 rfl rfl ?_; unfold m_laws_heldExclusionS
 intro hb
 simp only [bdA, bdL, bdT, bdR_map, wfB_i64, roomB, and_true, List.length_map] at hb
 have hl := hb.1.1
 rw [mkL_len] at hl
 clear hb
 simp only [↓reduceIte, reduceEqDiff, reduceLT, reduceCtorEq, go_sem]
 refine loopK_rng xs (fun i => [(1, vI (k + (ctL GExclusion.ct (xs.take i) : Nat))), (5, vI i)]) (fun i => []) (fun _ => True) hl ?_
 simp only [↓reduceIte, reduceEqDiff, reduceCtorEq, go_sem]
 refine ⟨?_, trivial, ?_, ?_⟩
 ·simp only [↓reduceIte, reduceEqDiff, reduceLT, reduceCtorEq, go_sem, List.take_zero, ctL_nil]
  all_goals simp
 ·intro i x hx _ h0 h1 hw
  have hg := mkL_get (mk := GExclusion.mkd) (c := GExclusion.ct) (k := k) hx
  have hc := ctL_take_le (c := GExclusion.ct) (i + 1) (l := xs)
  rw [ctL_snoc hx] at hc
  have hK0 : 0 ≤ k + ((ctL GExclusion.ct (xs.take i) : Nat) : Int) := by omega
  have hK1 : k + ((ctL GExclusion.ct (xs.take i) : Nat) : Int) + (GExclusion.ct x : Nat) ≤ 4611686018427387904 := by omega
  generalize hK : k + ((ctL GExclusion.ct (xs.take i) : Nat) : Int) = K at hK0 hK1 hg
  simp only [GExclusion.ct] at hK1
  simp only [↓reduceIte, reduceEqDiff, reduceLT, reduceLeDiff, reduceAdd, reduceCtorEq, go_sem, hw, bk_eq hg, h0, h1, mkL_len, GExclusion.mkd, waK (K := K + 1) (K' := K + 1) (by omega) (by omega) (by omega), waK (K := K + 1 + 1) (K' := K + 2) (by omega) (by omega) (by omega), waK (K := K + 2 + 1) (K' := K + 3) (by omega) (by omega) (by omega), waK (K := K + 3 + 1) (K' := K + 4) (by omega) (by omega) (by omega), waK (K := K + 4 + 1) (K' := K + 5) (by omega) (by omega) (by omega)]
  rw [ctL_snoc hx]
  simp only [GExclusion.ct]
  omega
 ·intro _
  simp only [↓reduceIte, reduceEqDiff, reduceLT, reduceCtorEq, go_sem, List.take_length, mkL_len]
def GStatement.mkd (x : GStatement) (k : Int) : GStatement := ⟨k, (k + 1), (k + 2), (k + 3)⟩
def GStatement.ct (x : GStatement) : Nat := 4
def m_laws_markStatementS : MC :=
(.seq (pr [.mv 4 (ci 0)] [0,1])
(.seq (.seq (pr [.mv 5 (ci 0)] [0,1,5])
(.block 0 (.loop ([0,1,5], []) (.seq (.seq (pr [.mv 6 (.s 5), .mv 7 (.s 0), .len 8 false (.s 7), .bin 9 false .lss (.s 6) (.s 8)] [0,1,5,9])
(.cond (.s 9) .skip (.exit 0)))
(.seq (.block 1 (.seq (pr [.mv 12 (.s 0), .mv 13 (.s 5), .mv 14 (.s 1), .idx 15 4 (.s 12) (.s 13), .fld 16 (.s 15) 0, .store 1 (.s 16) (.s 14)] [0,1,5])
(.seq (pr [.mv 17 (.s 1), .bin 18 false .add (.s 17) (ci 1), .mv 1 (.s 18)] [0,1,5])
(.seq (pr [.mv 19 (.s 0), .mv 20 (.s 5), .mv 21 (.s 1), .idx 22 4 (.s 19) (.s 20), .fld 23 (.s 22) 1, .store 1 (.s 23) (.s 21)] [0,1,5])
(.seq (pr [.mv 24 (.s 1), .bin 25 false .add (.s 24) (ci 1), .mv 1 (.s 25)] [0,1,5])
(.seq (pr [.mv 26 (.s 0), .mv 27 (.s 5), .mv 28 (.s 1), .idx 29 4 (.s 26) (.s 27), .fld 30 (.s 29) 2, .store 1 (.s 30) (.s 28)] [0,1,5])
(.seq (pr [.mv 31 (.s 1), .bin 32 false .add (.s 31) (ci 1), .mv 1 (.s 32)] [0,1,5])
(.seq (pr [.mv 33 (.s 0), .mv 34 (.s 5), .mv 35 (.s 1), .idx 36 4 (.s 33) (.s 34), .fld 37 (.s 36) 3, .store 1 (.s 37) (.s 35)] [0,1,5])
(pr [.mv 38 (.s 1), .bin 39 false .add (.s 38) (ci 1), .mv 1 (.s 39)] [0,1,5])))))))))
(pr [.mv 10 (.s 5), .bin 11 false .add (.s 10) (ci 1), .mv 5 (.s 11)] [0,1,5]))))))
(.seq (pr [.mv 40 (.s 1), .mv 4 (.s 40)] [4])
.ret)))
theorem c_laws_markStatementS (xs : List GStatement) (k : Int) (hk : 0 ≤ k) (hN : k + (ctL GStatement.ct xs : Nat) ≤ 4611686018427387904) : CtrI Tryz.prog n_laws_markStatementS [oL 4 (xs.map GStatement.enc), iI k] [some (4, (mkL GStatement.mkd GStatement.ct xs k).map GStatement.enc)] [rI (k + (ctL GStatement.ct xs : Nat))] := by
 refine ctrI_at (M := m_laws_markStatementS) (m := 0) (n := 41) (res := [(.tmp 4, [false])]) hmix Tryz.func77 rfl (by kernel_rfl) rfl (by kernel_rfl) (by kernel_rfl) (Nat.le_of_ble_eq_true rfl) rfl rfl ?_; unfold m_laws_markStatementS
 intro hb
 have hl := len_of_bd hb
 clear hb
 simp only [↓reduceIte, reduceEqDiff, reduceLT, reduceCtorEq, go_sem]
 refine loopK_rng xs (fun i => [(1, vI (k + (ctL GStatement.ct (xs.take i) : Nat))), (5, vI i)]) (fun i => [(0, ⟨1, .row true 4 ((mkL GStatement.mkd GStatement.ct (xs.take i) k).map GStatement.enc ++ (xs.drop i).map GStatement.enc)⟩)]) (fun _ => True) hl ?_
 simp only [↓reduceIte, reduceEqDiff, reduceCtorEq, go_sem]
 refine ⟨?_, trivial, ?_, ?_⟩
 ·simp only [↓reduceIte, reduceEqDiff, reduceLT, reduceCtorEq, go_sem, List.take_zero, List.drop_zero, mkL_nil, ctL_nil]
  all_goals simp
 ·intro i x hx _ h0 h1 hw
  have hR := mid_of (mk := GStatement.mkd) (c := GStatement.ct) (k := k) (f := GStatement.enc) hx
  have hA := mid_at (mk := GStatement.mkd) (c := GStatement.ct) (k := k) (f := GStatement.enc) hx
  generalize hAe : (mkL GStatement.mkd GStatement.ct (xs.take i) k).map GStatement.enc = A at hR hA
  generalize hBe : (xs.drop (i + 1)).map GStatement.enc = B at hR hA
  obtain ⟨hg, hs, hl, hd⟩ := hA
  have hc := ctL_take_le (c := GStatement.ct) (i + 1) (l := xs)
  rw [ctL_snoc hx] at hc
  have hK0 : 0 ≤ k + ((ctL GStatement.ct (xs.take i) : Nat) : Int) := by omega
  have hK1 : k + ((ctL GStatement.ct (xs.take i) : Nat) : Int) + (GStatement.ct x : Nat) ≤ 4611686018427387904 := by omega
  generalize hK : k + ((ctL GStatement.ct (xs.take i) : Nat) : Int) = K at hK0 hK1
  simp only [GStatement.ct] at hK1
  simp only [↓reduceIte, reduceEqDiff, reduceLT, reduceLeDiff, reduceAdd, reduceCtorEq, go_sem, hw, hR, hg, hs, hl, h0, h1, waK (K := K + 1) (K' := K + 1) (by omega) (by omega) (by omega), waK (K := K + 1 + 1) (K' := K + 2) (by omega) (by omega) (by omega), waK (K := K + 2 + 1) (K' := K + 3) (by omega) (by omega) (by omega), waK (K := K + 3 + 1) (K' := K + 4) (by omega) (by omega) (by omega)]
  subst hK hAe hBe
  refine ⟨?_, mid_snoc hx⟩
  rw [ctL_snoc hx]
  simp only [GStatement.ct]
  omega
 ·intro _
  simp only [↓reduceIte, reduceEqDiff, reduceLT, reduceCtorEq, go_sem, List.take_length, List.drop_length, List.map_nil, List.append_nil, mkL_len]
def m_laws_heldStatementS : MC :=
(.seq (pr [.mv 4 (ci 0)] [0,1])
(.seq (.seq (pr [.mv 5 (ci 0)] [0,1,5])
(.block 0 (.loop ([0,1,5], []) (.seq (.seq (pr [.mv 6 (.s 5), .mv 7 (.s 0), .len 8 false (.s 7), .bin 9 false .lss (.s 6) (.s 8)] [0,1,5,9])
(.cond (.s 9) .skip (.exit 0)))
(.seq (.block 1 (.seq (.seq (pr [.mv 12 (.s 0), .mv 13 (.s 5), .idx 14 4 (.s 12) (.s 13), .fld 15 (.s 14) 0, .load 16 false 1 (.s 15), .mv 17 (.s 1), .bin 18 false .neq (.s 16) (.s 17)] [0,1,5,18])
(.cond (.s 18) (.seq (pr [.mv 4 (.c (.int .i64 (-1)))] [4])
.ret) .skip))
(.seq (pr [.mv 19 (.s 1), .bin 20 false .add (.s 19) (ci 1), .mv 1 (.s 20)] [0,1,5])
(.seq (.seq (pr [.mv 21 (.s 0), .mv 22 (.s 5), .idx 23 4 (.s 21) (.s 22), .fld 24 (.s 23) 1, .load 25 false 1 (.s 24), .mv 26 (.s 1), .bin 27 false .neq (.s 25) (.s 26)] [0,1,5,27])
(.cond (.s 27) (.seq (pr [.mv 4 (.c (.int .i64 (-1)))] [4])
.ret) .skip))
(.seq (pr [.mv 28 (.s 1), .bin 29 false .add (.s 28) (ci 1), .mv 1 (.s 29)] [0,1,5])
(.seq (.seq (pr [.mv 30 (.s 0), .mv 31 (.s 5), .idx 32 4 (.s 30) (.s 31), .fld 33 (.s 32) 2, .load 34 false 1 (.s 33), .mv 35 (.s 1), .bin 36 false .neq (.s 34) (.s 35)] [0,1,5,36])
(.cond (.s 36) (.seq (pr [.mv 4 (.c (.int .i64 (-1)))] [4])
.ret) .skip))
(.seq (pr [.mv 37 (.s 1), .bin 38 false .add (.s 37) (ci 1), .mv 1 (.s 38)] [0,1,5])
(.seq (.seq (pr [.mv 39 (.s 0), .mv 40 (.s 5), .idx 41 4 (.s 39) (.s 40), .fld 42 (.s 41) 3, .load 43 false 1 (.s 42), .mv 44 (.s 1), .bin 45 false .neq (.s 43) (.s 44)] [0,1,5,45])
(.cond (.s 45) (.seq (pr [.mv 4 (.c (.int .i64 (-1)))] [4])
.ret) .skip))
(pr [.mv 46 (.s 1), .bin 47 false .add (.s 46) (ci 1), .mv 1 (.s 47)] [0,1,5])))))))))
(pr [.mv 10 (.s 5), .bin 11 false .add (.s 10) (ci 1), .mv 5 (.s 11)] [0,1,5]))))))
(.seq (pr [.mv 48 (.s 1), .mv 4 (.s 48)] [4])
.ret)))
theorem c_laws_heldStatementS (xs : List GStatement) (k : Int) (hk : 0 ≤ k) (hN : k + (ctL GStatement.ct xs : Nat) ≤ 4611686018427387904) : Ctr Tryz.prog n_laws_heldStatementS [aL 4 ((mkL GStatement.mkd GStatement.ct xs k).map GStatement.enc), aI k] [rI (k + (ctL GStatement.ct xs : Nat))] := by
 refine cA m_laws_heldStatementS 0 49 [(.tmp 4, [false])] Tryz.func85 rfl rfl ?_; unfold m_laws_heldStatementS
 intro hb
 simp only [bdA, bdL, bdT, bdR_map, wfB_i64, roomB, and_true, List.length_map] at hb
 have hl := hb.1.1
 rw [mkL_len] at hl
 clear hb
 simp only [↓reduceIte, reduceEqDiff, reduceLT, reduceCtorEq, go_sem]
 refine loopK_rng xs (fun i => [(1, vI (k + (ctL GStatement.ct (xs.take i) : Nat))), (5, vI i)]) (fun i => []) (fun _ => True) hl ?_
 simp only [↓reduceIte, reduceEqDiff, reduceCtorEq, go_sem]
 refine ⟨?_, trivial, ?_, ?_⟩
 ·simp only [↓reduceIte, reduceEqDiff, reduceLT, reduceCtorEq, go_sem, List.take_zero, ctL_nil]
  all_goals simp
 ·intro i x hx _ h0 h1 hw
  have hg := mkL_get (mk := GStatement.mkd) (c := GStatement.ct) (k := k) hx
  have hc := ctL_take_le (c := GStatement.ct) (i + 1) (l := xs)
  rw [ctL_snoc hx] at hc
  have hK0 : 0 ≤ k + ((ctL GStatement.ct (xs.take i) : Nat) : Int) := by omega
  have hK1 : k + ((ctL GStatement.ct (xs.take i) : Nat) : Int) + (GStatement.ct x : Nat) ≤ 4611686018427387904 := by omega
  generalize hK : k + ((ctL GStatement.ct (xs.take i) : Nat) : Int) = K at hK0 hK1 hg
  simp only [GStatement.ct] at hK1
  simp only [↓reduceIte, reduceEqDiff, reduceLT, reduceLeDiff, reduceAdd, reduceCtorEq, go_sem, hw, bk_eq hg, h0, h1, mkL_len, GStatement.mkd, waK (K := K + 1) (K' := K + 1) (by omega) (by omega) (by omega), waK (K := K + 1 + 1) (K' := K + 2) (by omega) (by omega) (by omega), waK (K := K + 2 + 1) (K' := K + 3) (by omega) (by omega) (by omega), waK (K := K + 3 + 1) (K' := K + 4) (by omega) (by omega) (by omega)]
  rw [ctL_snoc hx]
  simp only [GStatement.ct]
  omega
 ·intro _
  simp only [↓reduceIte, reduceEqDiff, reduceLT, reduceCtorEq, go_sem, List.take_length, mkL_len]
def GLibrary.mkd (x : GLibrary) (k : Int) : GLibrary := ⟨k, (mkL iMk iCt x.Digests (k + 1)), (bMk x.Up ((k + 1) + (ctL iCt x.Digests : Nat))), (bMk x.Lies (((k + 1) + (ctL iCt x.Digests : Nat)) + 1))⟩
def GLibrary.ct (x : GLibrary) : Nat := 3 + ctL iCt x.Digests
theorem GLibrary.ct_le (x : GLibrary) : x.ct ≤ 16 * (1 + x.size) := by
 simp only [GLibrary.ct, GLibrary.size]
 have h0 := ctL_le' (c := iCt) (fun y => by simp only [iCt]; omega) x.Digests
 omega
def m_laws_markLibraryS : MC :=
(.seq (pr [.mv 4 (ci 0)] [0,1])
(.seq (.seq (pr [.mv 5 (ci 0)] [0,1,5])
(.block 0 (.loop ([0,1,5], [1]) (.seq (.seq (pr [.mv 6 (.s 5), .mv 7 (.s 0), .len 8 false (.s 7), .bin 9 false .lss (.s 6) (.s 8)] [0,1,5,9])
(.cond (.s 9) .skip (.exit 0)))
(.seq (.block 1 (.seq (pr [.mv 12 (.s 0), .mv 13 (.s 5), .mv 14 (.s 1), .idx 15 4 (.s 12) (.s 13), .fld 16 (.s 15) 0, .store 1 (.s 16) (.s 14)] [0,1,5])
(.seq (pr [.mv 17 (.s 1), .bin 18 false .add (.s 17) (ci 1), .mv 1 (.s 18)] [0,1,5])
(.seq (pr [.mv 19 (.s 0), .mv 20 (.s 5), .idx 21 4 (.s 19) (.s 20), .fld 22 (.s 21) 1, .loadT 23 1 (.s 22), .mv 24 (.s 1), .callI 25 [] (.f n_laws_markIntS) [.s 23, .s 24] [1] [0], .mv 1 (.s 25)] [0,1,5])
(.seq (pr [.mv 26 (.s 0), .mv 27 (.s 5), .mv 28 (.s 1), .bin 29 false .rem (.s 28) (ci 3), .bin 30 false .eql (.s 29) (ci 0), .idx 31 4 (.s 26) (.s 27), .fld 32 (.s 31) 2, .store 1 (.s 32) (.s 30)] [0,1,5])
(.seq (pr [.mv 33 (.s 1), .bin 34 false .add (.s 33) (ci 1), .mv 1 (.s 34)] [0,1,5])
(.seq (pr [.mv 35 (.s 0), .mv 36 (.s 5), .mv 37 (.s 1), .bin 38 false .rem (.s 37) (ci 3), .bin 39 false .eql (.s 38) (ci 0), .idx 40 4 (.s 35) (.s 36), .fld 41 (.s 40) 3, .store 1 (.s 41) (.s 39)] [0,1,5])
(pr [.mv 42 (.s 1), .bin 43 false .add (.s 42) (ci 1), .mv 1 (.s 43)] [0,1,5]))))))))
(pr [.mv 10 (.s 5), .bin 11 false .add (.s 10) (ci 1), .mv 5 (.s 11)] [0,1,5]))))))
(.seq (pr [.mv 44 (.s 1), .mv 4 (.s 44)] [4])
.ret)))
theorem c_laws_markLibraryS (xs : List GLibrary) (k : Int) (hk : 0 ≤ k) (hN : k + (ctL GLibrary.ct xs : Nat) ≤ 4611686018427387904) : CtrI Tryz.prog n_laws_markLibraryS [oL 4 (xs.map GLibrary.enc), iI k] [some (4, (mkL GLibrary.mkd GLibrary.ct xs k).map GLibrary.enc)] [rI (k + (ctL GLibrary.ct xs : Nat))] := by
 refine ctrI_at (M := m_laws_markLibraryS) (m := 1) (n := 45) (res := [(.tmp 4, [false])]) hmix Tryz.func54 rfl (by kernel_rfl) rfl (by kernel_rfl) (by kernel_rfl) (Nat.le_of_ble_eq_true rfl) rfl rfl ?_; unfold m_laws_markLibraryS
 intro hb
 have hl := len_of_bd hb
 clear hb
 simp only [↓reduceIte, reduceEqDiff, reduceLT, reduceCtorEq, go_sem]
 refine loopK_rng xs (fun i => [(1, vI (k + (ctL GLibrary.ct (xs.take i) : Nat))), (5, vI i)]) (fun i => [(0, ⟨1, .row true 4 ((mkL GLibrary.mkd GLibrary.ct (xs.take i) k).map GLibrary.enc ++ (xs.drop i).map GLibrary.enc)⟩)]) (fun _ => True) hl ?_
 simp only [↓reduceIte, reduceEqDiff, reduceAdd, reduceCtorEq, go_sem]
 refine ⟨?_, trivial, ?_, ?_⟩
 ·simp only [↓reduceIte, reduceEqDiff, reduceLT, reduceCtorEq, go_sem, List.take_zero, List.drop_zero, mkL_nil, ctL_nil]
  all_goals simp
 ·intro i x hx _ h0 h1 hw
  have hR := mid_of (mk := GLibrary.mkd) (c := GLibrary.ct) (k := k) (f := GLibrary.enc) hx
  have hA := mid_at (mk := GLibrary.mkd) (c := GLibrary.ct) (k := k) (f := GLibrary.enc) hx
  generalize hAe : (mkL GLibrary.mkd GLibrary.ct (xs.take i) k).map GLibrary.enc = A at hR hA
  generalize hBe : (xs.drop (i + 1)).map GLibrary.enc = B at hR hA
  obtain ⟨hg, hs, hl, hd⟩ := hA
  have hc := ctL_take_le (c := GLibrary.ct) (i + 1) (l := xs)
  rw [ctL_snoc hx] at hc
  have hK0 : 0 ≤ k + ((ctL GLibrary.ct (xs.take i) : Nat) : Int) := by omega
  have hK1 : k + ((ctL GLibrary.ct (xs.take i) : Nat) : Int) + (GLibrary.ct x : Nat) ≤ 4611686018427387904 := by omega
  generalize hK : k + ((ctL GLibrary.ct (xs.take i) : Nat) : Int) = K at hK0 hK1
  simp only [GLibrary.ct] at hK1
  simp only [↓reduceIte, reduceEqDiff, reduceLT, reduceLeDiff, reduceAdd, reduceCtorEq, go_sem, hR, hg, hs, hl, h0, h1, waK (K := K + 1) (K' := K + 1) (by omega) (by omega) (by omega)]
  refine callIK_of (c_laws_markIntS x.Digests (K + 1) (by omega) (by omega)) ?_
  have hK1 : 0 ≤ K + 1 + (ctL iCt x.Digests : Nat) := by omega
  generalize eK1 : K + 1 + ((ctL iCt x.Digests : Nat) : Int) = K1 at hK1
  simp only [↓reduceIte, reduceEqDiff, reduceLT, reduceLeDiff, reduceAdd, reduceCtorEq, go_sem, hw, hg, hs, hl, hd, h0, h1, three_ne, waK (K := K1 + 1) (K' := K1 + 1) (by omega) (by omega) (by omega), waK (K := K1 + 1 + 1) (K' := K1 + 2) (by omega) (by omega) (by omega)]
  subst eK1
  subst hK hAe hBe
  refine ⟨?_, mid_snoc hx⟩
  rw [ctL_snoc hx]
  simp only [GLibrary.ct]
  omega
 ·intro _
  simp only [↓reduceIte, reduceEqDiff, reduceLT, reduceCtorEq, go_sem, List.take_length, List.drop_length, List.map_nil, List.append_nil, mkL_len]
def m_laws_heldLibraryS : MC :=
(.seq (pr [.mv 4 (ci 0)] [0,1])
(.seq (.seq (pr [.mv 5 (ci 0)] [0,1,5])
(.block 0 (.loop ([0,1,5], []) (.seq (.seq (pr [.mv 6 (.s 5), .mv 7 (.s 0), .len 8 false (.s 7), .bin 9 false .lss (.s 6) (.s 8)] [0,1,5,9])
(.cond (.s 9) .skip (.exit 0)))
(.seq (.block 1 (.seq (.seq (pr [.mv 12 (.s 0), .mv 13 (.s 5), .idx 14 4 (.s 12) (.s 13), .fld 15 (.s 14) 0, .load 16 false 1 (.s 15), .mv 17 (.s 1), .bin 18 false .neq (.s 16) (.s 17)] [0,1,5,18])
(.cond (.s 18) (.seq (pr [.mv 4 (.c (.int .i64 (-1)))] [4])
.ret) .skip))
(.seq (pr [.mv 19 (.s 1), .bin 20 false .add (.s 19) (ci 1), .mv 1 (.s 20)] [0,1,5])
(.seq (pr [.mv 21 (.s 0), .mv 22 (.s 5), .idx 23 4 (.s 21) (.s 22), .fld 24 (.s 23) 1, .load 25 false 1 (.s 24), .mv 26 (.s 1), .call 27 [] (.f n_laws_heldIntS) [.s 25, .s 26], .mv 1 (.s 27)] [0,1,5])
(.seq (.seq (pr [.mv 28 (.s 1), .bin 29 false .lss (.s 28) (ci 0)] [0,1,5,29])
(.cond (.s 29) (.seq (pr [.mv 4 (.c (.int .i64 (-1)))] [4])
.ret) .skip))
(.seq (.seq (pr [.mv 30 (.s 0), .mv 31 (.s 5), .idx 32 4 (.s 30) (.s 31), .fld 33 (.s 32) 2, .load 34 false 1 (.s 33), .mv 35 (.s 1), .bin 36 false .rem (.s 35) (ci 3), .bin 37 false .eql (.s 36) (ci 0), .bin 38 true .neq (.s 34) (.s 37)] [0,1,5,38])
(.cond (.s 38) (.seq (pr [.mv 4 (.c (.int .i64 (-1)))] [4])
.ret) .skip))
(.seq (pr [.mv 39 (.s 1), .bin 40 false .add (.s 39) (ci 1), .mv 1 (.s 40)] [0,1,5])
(.seq (.seq (pr [.mv 41 (.s 0), .mv 42 (.s 5), .idx 43 4 (.s 41) (.s 42), .fld 44 (.s 43) 3, .load 45 false 1 (.s 44), .mv 46 (.s 1), .bin 47 false .rem (.s 46) (ci 3), .bin 48 false .eql (.s 47) (ci 0), .bin 49 true .neq (.s 45) (.s 48)] [0,1,5,49])
(.cond (.s 49) (.seq (pr [.mv 4 (.c (.int .i64 (-1)))] [4])
.ret) .skip))
(pr [.mv 50 (.s 1), .bin 51 false .add (.s 50) (ci 1), .mv 1 (.s 51)] [0,1,5])))))))))
(pr [.mv 10 (.s 5), .bin 11 false .add (.s 10) (ci 1), .mv 5 (.s 11)] [0,1,5]))))))
(.seq (pr [.mv 52 (.s 1), .mv 4 (.s 52)] [4])
.ret)))
theorem c_laws_heldLibraryS (xs : List GLibrary) (k : Int) (hk : 0 ≤ k) (hN : k + (ctL GLibrary.ct xs : Nat) ≤ 4611686018427387904) : Ctr Tryz.prog n_laws_heldLibraryS [aL 4 ((mkL GLibrary.mkd GLibrary.ct xs k).map GLibrary.enc), aI k] [rI (k + (ctL GLibrary.ct xs : Nat))] := by
 refine cA m_laws_heldLibraryS 0 53 [(.tmp 4, [false])] Tryz.func83 rfl rfl ?_; unfold m_laws_heldLibraryS
 intro hb
 simp only [bdA, bdL, bdT, bdR_map, wfB_i64, roomB, and_true, List.length_map] at hb
 have hl := hb.1.1
 rw [mkL_len] at hl
 clear hb
 simp only [↓reduceIte, reduceEqDiff, reduceLT, reduceCtorEq, go_sem]
 refine loopK_rng xs (fun i => [(1, vI (k + (ctL GLibrary.ct (xs.take i) : Nat))), (5, vI i)]) (fun i => []) (fun _ => True) hl ?_
 simp only [↓reduceIte, reduceEqDiff, reduceCtorEq, go_sem]
 refine ⟨?_, trivial, ?_, ?_⟩
 ·simp only [↓reduceIte, reduceEqDiff, reduceLT, reduceCtorEq, go_sem, List.take_zero, ctL_nil]
  all_goals simp
 ·intro i x hx _ h0 h1 hw
  have hg := mkL_get (mk := GLibrary.mkd) (c := GLibrary.ct) (k := k) hx
  have hc := ctL_take_le (c := GLibrary.ct) (i + 1) (l := xs)
  rw [ctL_snoc hx] at hc
  have hK0 : 0 ≤ k + ((ctL GLibrary.ct (xs.take i) : Nat) : Int) := by omega
  have hK1 : k + ((ctL GLibrary.ct (xs.take i) : Nat) : Int) + (GLibrary.ct x : Nat) ≤ 4611686018427387904 := by omega
  generalize hK : k + ((ctL GLibrary.ct (xs.take i) : Nat) : Int) = K at hK0 hK1 hg
  simp only [GLibrary.ct] at hK1
  try simp only [↓reduceIte, reduceEqDiff, reduceLT, reduceLeDiff, reduceAdd, reduceCtorEq, go_sem, bk_eq hg, h0, h1, mkL_len, GLibrary.mkd, bMk, waK (K := K + 1) (K' := K + 1) (by omega) (by omega) (by omega)]
  refine callK_of (c_laws_heldIntS x.Digests (K + 1) (by omega) (by omega)) ?_
  have hK1 : 0 ≤ K + 1 + (ctL iCt x.Digests : Nat) := by omega
  generalize eK1 : K + 1 + ((ctL iCt x.Digests : Nat) : Int) = K1 at hK1
  have nK1 : ¬ K1 < 0 := by omega
  simp only [↓reduceIte, reduceEqDiff, reduceLT, reduceLeDiff, reduceAdd, reduceCtorEq, go_sem, hw, bk_eq hg, h0, h1, mkL_len, GLibrary.mkd, three_ne, bMk, nK1, eK1]
  intro _
  simp only [go_sem, waK (K := K1 + 1) (K' := K1 + 1) (by omega) (by omega) (by omega), waK (K := K1 + 1 + 1) (K' := K1 + 2) (by omega) (by omega) (by omega)]
  subst eK1
  rw [ctL_snoc hx]
  simp only [GLibrary.ct]
  omega
 ·intro _
  simp only [↓reduceIte, reduceEqDiff, reduceLT, reduceCtorEq, go_sem, List.take_length, mkL_len]
def GLibrary.mks (x : GLibrary) (k : Int) : GLibrary := { x with Digests := mkL iMk iCt x.Digests (k) }
def GLibrary.cts (x : GLibrary) : Nat := ctL iCt x.Digests
theorem GLibrary.cts_le (x : GLibrary) : x.cts ≤ 16 * x.size := by
 simp only [GLibrary.cts, GLibrary.size]
 have hDigests := ctL_le' (c := iCt) (fun y => by simp only [iCt]; omega) x.Digests
 omega
@[go_sem] theorem GLibrary.mks_len0 (x : GLibrary) (k : Int) : ((x.mks k).Digests).length = x.Digests.length := mkL_len
def GContainer.mkd (x : GContainer) (k : Int) : GContainer := ⟨(mkL GOp.mkd GOp.ct x.Script k), (mkL GEntry.mkd GEntry.ct x.Entries (k + (ctL GOp.ct x.Script : Nat))), (mkL GCapture.mkd GCapture.ct x.Captures ((k + (ctL GOp.ct x.Script : Nat)) + (ctL GEntry.ct x.Entries : Nat))), (((k + (ctL GOp.ct x.Script : Nat)) + (ctL GEntry.ct x.Entries : Nat)) + (ctL GCapture.ct x.Captures : Nat))⟩
def GContainer.ct (x : GContainer) : Nat := 1 + ctL GOp.ct x.Script + ctL GEntry.ct x.Entries + ctL GCapture.ct x.Captures
theorem GContainer.ct_le (x : GContainer) : x.ct ≤ 16 * (1 + x.size) := by
 simp only [GContainer.ct, GContainer.size]
 have h0 := ctL_le' (c := GOp.ct) (fun y => by simp only [GOp.ct]; omega) x.Script
 have h1 := ctL_le' (c := GEntry.ct) (fun y => by simp only [GEntry.ct]; omega) x.Entries
 have h2 := ctL_le (c := GCapture.ct) (s := GCapture.size) GCapture.ct_le x.Captures
 omega
def m_laws_markContainerS : MC :=
(.seq (pr [.mv 4 (ci 0)] [0,1])
(.seq (.seq (pr [.mv 5 (ci 0)] [0,1,5])
(.block 0 (.loop ([0,1,5], [1,2,3]) (.seq (.seq (pr [.mv 6 (.s 5), .mv 7 (.s 0), .len 8 false (.s 7), .bin 9 false .lss (.s 6) (.s 8)] [0,1,5,9])
(.cond (.s 9) .skip (.exit 0)))
(.seq (.block 1 (.seq (pr [.mv 12 (.s 0), .mv 13 (.s 5), .idx 14 4 (.s 12) (.s 13), .fld 15 (.s 14) 0, .loadT 16 1 (.s 15), .mv 17 (.s 1), .callI 18 [] (.f n_laws_markOpS) [.s 16, .s 17] [1] [0], .mv 1 (.s 18)] [0,1,5])
(.seq (pr [.mv 19 (.s 0), .mv 20 (.s 5), .idx 21 4 (.s 19) (.s 20), .fld 22 (.s 21) 1, .loadT 23 2 (.s 22), .mv 24 (.s 1), .callI 25 [] (.f n_laws_markEntryS) [.s 23, .s 24] [2] [0], .mv 1 (.s 25)] [0,1,5])
(.seq (pr [.mv 26 (.s 0), .mv 27 (.s 5), .idx 28 4 (.s 26) (.s 27), .fld 29 (.s 28) 2, .loadT 30 3 (.s 29), .mv 31 (.s 1), .callI 32 [] (.f n_laws_markCaptureS) [.s 30, .s 31] [3] [0], .mv 1 (.s 32)] [0,1,5])
(.seq (pr [.mv 33 (.s 0), .mv 34 (.s 5), .mv 35 (.s 1), .idx 36 4 (.s 33) (.s 34), .fld 37 (.s 36) 3, .store 1 (.s 37) (.s 35)] [0,1,5])
(pr [.mv 38 (.s 1), .bin 39 false .add (.s 38) (ci 1), .mv 1 (.s 39)] [0,1,5]))))))
(pr [.mv 10 (.s 5), .bin 11 false .add (.s 10) (ci 1), .mv 5 (.s 11)] [0,1,5]))))))
(.seq (pr [.mv 40 (.s 1), .mv 4 (.s 40)] [4])
.ret)))
theorem c_laws_markContainerS (xs : List GContainer) (k : Int) (hk : 0 ≤ k) (hN : k + (ctL GContainer.ct xs : Nat) ≤ 4611686018427387904) : CtrI Tryz.prog n_laws_markContainerS [oL 4 (xs.map GContainer.enc), iI k] [some (4, (mkL GContainer.mkd GContainer.ct xs k).map GContainer.enc)] [rI (k + (ctL GContainer.ct xs : Nat))] := by
 refine ctrI_at (M := m_laws_markContainerS) (m := 3) (n := 41) (res := [(.tmp 4, [false])]) hmix Tryz.func149 rfl (by kernel_rfl) rfl (by kernel_rfl) (by kernel_rfl) (Nat.le_of_ble_eq_true rfl) rfl rfl ?_; unfold m_laws_markContainerS
 intro hb
 have hl := len_of_bd hb
 clear hb
 simp only [↓reduceIte, reduceEqDiff, reduceLT, reduceCtorEq, go_sem]
 refine loopK_rng xs (fun i => [(1, vI (k + (ctL GContainer.ct (xs.take i) : Nat))), (5, vI i)]) (fun i => [(0, ⟨1, .row true 4 ((mkL GContainer.mkd GContainer.ct (xs.take i) k).map GContainer.enc ++ (xs.drop i).map GContainer.enc)⟩)]) (fun _ => True) hl ?_
 simp only [↓reduceIte, reduceEqDiff, reduceAdd, reduceCtorEq, go_sem]
 refine ⟨?_, trivial, ?_, ?_⟩
 ·simp only [↓reduceIte, reduceEqDiff, reduceLT, reduceCtorEq, go_sem, List.take_zero, List.drop_zero, mkL_nil, ctL_nil]
  all_goals simp
 ·intro i x hx _ h0 h1 hw
  have hR := mid_of (mk := GContainer.mkd) (c := GContainer.ct) (k := k) (f := GContainer.enc) hx
  have hA := mid_at (mk := GContainer.mkd) (c := GContainer.ct) (k := k) (f := GContainer.enc) hx
  generalize hAe : (mkL GContainer.mkd GContainer.ct (xs.take i) k).map GContainer.enc = A at hR hA
  generalize hBe : (xs.drop (i + 1)).map GContainer.enc = B at hR hA
  obtain ⟨hg, hs, hl, hd⟩ := hA
  have hc := ctL_take_le (c := GContainer.ct) (i + 1) (l := xs)
  rw [ctL_snoc hx] at hc
  have hK0 : 0 ≤ k + ((ctL GContainer.ct (xs.take i) : Nat) : Int) := by omega
  have hK1 : k + ((ctL GContainer.ct (xs.take i) : Nat) : Int) + (GContainer.ct x : Nat) ≤ 4611686018427387904 := by omega
  generalize hK : k + ((ctL GContainer.ct (xs.take i) : Nat) : Int) = K at hK0 hK1
  simp only [GContainer.ct] at hK1
  simp only [↓reduceIte, reduceEqDiff, reduceLT, reduceAdd, reduceCtorEq, go_sem, hR, hg, hl, h0, h1]
  refine callIK_of (c_laws_markOpS x.Script K (by omega) (by omega)) ?_
  have hK1 : 0 ≤ K + (ctL GOp.ct x.Script : Nat) := by omega
  generalize eK1 : K + ((ctL GOp.ct x.Script : Nat) : Int) = K1 at hK1
  simp only [↓reduceIte, reduceEqDiff, reduceLT, reduceAdd, reduceCtorEq, go_sem, hg, hs, hl, hd, h0, h1]
  refine callIK_of (c_laws_markEntryS x.Entries K1 (by omega) (by omega)) ?_
  have hK2 : 0 ≤ K1 + (ctL GEntry.ct x.Entries : Nat) := by omega
  generalize eK2 : K1 + ((ctL GEntry.ct x.Entries : Nat) : Int) = K2 at hK2
  simp only [↓reduceIte, reduceEqDiff, reduceLT, reduceAdd, reduceCtorEq, go_sem, hg, hs, hl, hd, h0, h1]
  refine callIK_of (c_laws_markCaptureS x.Captures K2 (by omega) (by omega)) ?_
  have hK3 : 0 ≤ K2 + (ctL GCapture.ct x.Captures : Nat) := by omega
  generalize eK3 : K2 + ((ctL GCapture.ct x.Captures : Nat) : Int) = K3 at hK3
  simp only [↓reduceIte, reduceEqDiff, reduceLT, reduceAdd, reduceCtorEq, go_sem, hw, hg, hs, hl, hd, h0, h1, waK (K := K3 + 1) (K' := K3 + 1) (by omega) (by omega) (by omega)]
  subst eK3
  subst eK2
  subst eK1
  subst hK hAe hBe
  refine ⟨?_, mid_snoc hx⟩
  rw [ctL_snoc hx]
  simp only [GContainer.ct]
  omega
 ·intro _
  simp only [↓reduceIte, reduceEqDiff, reduceLT, reduceCtorEq, go_sem, List.take_length, List.drop_length, List.map_nil, List.append_nil, mkL_len]
def m_laws_heldContainerS : MC :=
(.seq (pr [.mv 4 (ci 0)] [0,1])
(.seq (.seq (pr [.mv 5 (ci 0)] [0,1,5])
(.block 0 (.loop ([0,1,5], []) (.seq (.seq (pr [.mv 6 (.s 5), .mv 7 (.s 0), .len 8 false (.s 7), .bin 9 false .lss (.s 6) (.s 8)] [0,1,5,9])
(.cond (.s 9) .skip (.exit 0)))
(.seq (.block 1 (.seq (pr [.mv 12 (.s 0), .mv 13 (.s 5), .idx 14 4 (.s 12) (.s 13), .fld 15 (.s 14) 0, .load 16 false 1 (.s 15), .mv 17 (.s 1), .call 18 [] (.f n_laws_heldOpS) [.s 16, .s 17], .mv 1 (.s 18)] [0,1,5])
(.seq (.seq (pr [.mv 19 (.s 1), .bin 20 false .lss (.s 19) (ci 0)] [0,1,5,20])
(.cond (.s 20) (.seq (pr [.mv 4 (.c (.int .i64 (-1)))] [4])
.ret) .skip))
(.seq (pr [.mv 21 (.s 0), .mv 22 (.s 5), .idx 23 4 (.s 21) (.s 22), .fld 24 (.s 23) 1, .load 25 false 1 (.s 24), .mv 26 (.s 1), .call 27 [] (.f n_laws_heldEntryS) [.s 25, .s 26], .mv 1 (.s 27)] [0,1,5])
(.seq (.seq (pr [.mv 28 (.s 1), .bin 29 false .lss (.s 28) (ci 0)] [0,1,5,29])
(.cond (.s 29) (.seq (pr [.mv 4 (.c (.int .i64 (-1)))] [4])
.ret) .skip))
(.seq (pr [.mv 30 (.s 0), .mv 31 (.s 5), .idx 32 4 (.s 30) (.s 31), .fld 33 (.s 32) 2, .load 34 false 1 (.s 33), .mv 35 (.s 1), .call 36 [] (.f n_laws_heldCaptureS) [.s 34, .s 35], .mv 1 (.s 36)] [0,1,5])
(.seq (.seq (pr [.mv 37 (.s 1), .bin 38 false .lss (.s 37) (ci 0)] [0,1,5,38])
(.cond (.s 38) (.seq (pr [.mv 4 (.c (.int .i64 (-1)))] [4])
.ret) .skip))
(.seq (.seq (pr [.mv 39 (.s 0), .mv 40 (.s 5), .idx 41 4 (.s 39) (.s 40), .fld 42 (.s 41) 3, .load 43 false 1 (.s 42), .mv 44 (.s 1), .bin 45 false .neq (.s 43) (.s 44)] [0,1,5,45])
(.cond (.s 45) (.seq (pr [.mv 4 (.c (.int .i64 (-1)))] [4])
.ret) .skip))
(pr [.mv 46 (.s 1), .bin 47 false .add (.s 46) (ci 1), .mv 1 (.s 47)] [0,1,5])))))))))
(pr [.mv 10 (.s 5), .bin 11 false .add (.s 10) (ci 1), .mv 5 (.s 11)] [0,1,5]))))))
(.seq (pr [.mv 48 (.s 1), .mv 4 (.s 48)] [4])
.ret)))
theorem c_laws_heldContainerS (xs : List GContainer) (k : Int) (hk : 0 ≤ k) (hN : k + (ctL GContainer.ct xs : Nat) ≤ 4611686018427387904) : Ctr Tryz.prog n_laws_heldContainerS [aL 4 ((mkL GContainer.mkd GContainer.ct xs k).map GContainer.enc), aI k] [rI (k + (ctL GContainer.ct xs : Nat))] := by
 refine cA m_laws_heldContainerS 0 49 [(.tmp 4, [false])] Tryz.func151 rfl rfl ?_; unfold m_laws_heldContainerS
 intro hb
 simp only [bdA, bdL, bdT, bdR_map, wfB_i64, roomB, and_true, List.length_map] at hb
 have hl := hb.1.1
 rw [mkL_len] at hl
 clear hb
 simp only [↓reduceIte, reduceEqDiff, reduceLT, reduceCtorEq, go_sem]
 refine loopK_rng xs (fun i => [(1, vI (k + (ctL GContainer.ct (xs.take i) : Nat))), (5, vI i)]) (fun i => []) (fun _ => True) hl ?_
 simp only [↓reduceIte, reduceEqDiff, reduceCtorEq, go_sem]
 refine ⟨?_, trivial, ?_, ?_⟩
 ·simp only [↓reduceIte, reduceEqDiff, reduceLT, reduceCtorEq, go_sem, List.take_zero, ctL_nil]
  all_goals simp
 ·intro i x hx _ h0 h1 hw
  have hg := mkL_get (mk := GContainer.mkd) (c := GContainer.ct) (k := k) hx
  have hc := ctL_take_le (c := GContainer.ct) (i + 1) (l := xs)
  rw [ctL_snoc hx] at hc
  have hK0 : 0 ≤ k + ((ctL GContainer.ct (xs.take i) : Nat) : Int) := by omega
  have hK1 : k + ((ctL GContainer.ct (xs.take i) : Nat) : Int) + (GContainer.ct x : Nat) ≤ 4611686018427387904 := by omega
  generalize hK : k + ((ctL GContainer.ct (xs.take i) : Nat) : Int) = K at hK0 hK1 hg
  simp only [GContainer.ct] at hK1
  try simp only [↓reduceIte, reduceEqDiff, reduceLT, reduceLeDiff, reduceAdd, reduceCtorEq, go_sem, bk_eq hg, h0, h1, mkL_len, GContainer.mkd]
  refine callK_of (c_laws_heldOpS x.Script K (by omega) (by omega)) ?_
  have hK1 : 0 ≤ K + (ctL GOp.ct x.Script : Nat) := by omega
  generalize eK1 : K + ((ctL GOp.ct x.Script : Nat) : Int) = K1 at hK1
  have nK1 : ¬ K1 < 0 := by omega
  simp only [↓reduceIte, reduceEqDiff, reduceLT, reduceLeDiff, reduceAdd, reduceCtorEq, go_sem, bk_eq hg, h0, h1, mkL_len, GContainer.mkd, nK1, eK1]
  intro _
  try simp only [↓reduceIte, reduceEqDiff, reduceLT, reduceLeDiff, reduceAdd, reduceMul, reduceCtorEq, reduceReplicate, go_sem, hw, bk_eq hg, h0, h1, mkL_len, hK, GContainer.mkd, bne_self_eq_false, beq_self_eq_true, three_ne, bMk, nK1, eK1, waK (K := K1) (K' := K1) rfl (by omega) (by omega), waK (K := K1 + 1) (K' := K1 + 1) (by omega) (by omega) (by omega)]
  refine callK_of (c_laws_heldEntryS x.Entries K1 (by omega) (by omega)) ?_
  have hK2 : 0 ≤ K1 + (ctL GEntry.ct x.Entries : Nat) := by omega
  generalize eK2 : K1 + ((ctL GEntry.ct x.Entries : Nat) : Int) = K2 at hK2
  have nK2 : ¬ K2 < 0 := by omega
  simp only [↓reduceIte, reduceEqDiff, reduceLT, reduceLeDiff, reduceAdd, reduceCtorEq, go_sem, bk_eq hg, h0, h1, mkL_len, GContainer.mkd, eK1, nK2, eK2]
  intro _
  try simp only [↓reduceIte, reduceEqDiff, reduceLT, reduceLeDiff, reduceAdd, reduceMul, reduceCtorEq, reduceReplicate, go_sem, hw, bk_eq hg, h0, h1, mkL_len, hK, GContainer.mkd, bne_self_eq_false, beq_self_eq_true, three_ne, bMk, nK1, eK1, nK2, eK2, waK (K := K2) (K' := K2) rfl (by omega) (by omega), waK (K := K2 + 1) (K' := K2 + 1) (by omega) (by omega) (by omega)]
  refine callK_of (c_laws_heldCaptureS x.Captures K2 (by omega) (by omega)) ?_
  have hK3 : 0 ≤ K2 + (ctL GCapture.ct x.Captures : Nat) := by omega
  generalize eK3 : K2 + ((ctL GCapture.ct x.Captures : Nat) : Int) = K3 at hK3
  have nK3 : ¬ K3 < 0 := by omega
  simp only [↓reduceIte, reduceEqDiff, reduceLT, reduceAdd, reduceCtorEq, go_sem, hw, bk_eq hg, h0, h1, mkL_len, GContainer.mkd, eK1, eK2, nK3, eK3]
  intro _
  simp only [go_sem, waK (K := K3 + 1) (K' := K3 + 1) (by omega) (by omega) (by omega)]
  subst eK3
  subst eK2
  subst eK1
  rw [ctL_snoc hx]
  simp only [GContainer.ct]
  omega
 ·intro _
  simp only [↓reduceIte, reduceEqDiff, reduceLT, reduceCtorEq, go_sem, List.take_length, mkL_len]
def GContainer.mks (x : GContainer) (k : Int) : GContainer := { x with Script := mkL GOp.mkd GOp.ct x.Script (k), Entries := mkL GEntry.mkd GEntry.ct x.Entries (k + (ctL GOp.ct x.Script : Nat)), Captures := mkL GCapture.mkd GCapture.ct x.Captures (k + (ctL GOp.ct x.Script : Nat) + (ctL GEntry.ct x.Entries : Nat)) }
def GContainer.cts (x : GContainer) : Nat := ctL GOp.ct x.Script + ctL GEntry.ct x.Entries + ctL GCapture.ct x.Captures
theorem GContainer.cts_le (x : GContainer) : x.cts ≤ 16 * x.size := by
 simp only [GContainer.cts, GContainer.size]
 have hScript := ctL_le' (c := GOp.ct) (fun y => by simp only [GOp.ct]; omega) x.Script
 have hEntries := ctL_le' (c := GEntry.ct) (fun y => by simp only [GEntry.ct]; omega) x.Entries
 have hCaptures := ctL_le (c := GCapture.ct) (s := GCapture.size) GCapture.ct_le x.Captures
 omega
@[go_sem] theorem GContainer.mks_len0 (x : GContainer) (k : Int) : ((x.mks k).Script).length = x.Script.length := mkL_len
@[go_sem] theorem GContainer.mks_len1 (x : GContainer) (k : Int) : ((x.mks k).Entries).length = x.Entries.length := mkL_len
@[go_sem] theorem GContainer.mks_len2 (x : GContainer) (k : Int) : ((x.mks k).Captures).length = x.Captures.length := mkL_len
def GFound.mkd (x : GFound) (k : Int) : GFound := ⟨⟨k, (k + 1), (k + 2)⟩, (k + 3), (k + 4), (k + 5)⟩
def GFound.ct (x : GFound) : Nat := 6
def m_laws_markFoundS : MC :=
(.seq (pr [.mv 4 (ci 0)] [0,1])
(.seq (.seq (pr [.mv 5 (ci 0)] [0,1,5])
(.block 0 (.loop ([0,1,5], []) (.seq (.seq (pr [.mv 6 (.s 5), .mv 7 (.s 0), .len 8 false (.s 7), .bin 9 false .lss (.s 6) (.s 8)] [0,1,5,9])
(.cond (.s 9) .skip (.exit 0)))
(.seq (.block 1 (.seq (pr [.mv 12 (.s 0), .mv 13 (.s 5), .mv 14 (.s 1), .idx 15 6 (.s 12) (.s 13), .fld 16 (.s 15) 0, .fld 17 (.s 16) 0, .store 1 (.s 17) (.s 14)] [0,1,5])
(.seq (pr [.mv 18 (.s 1), .bin 19 false .add (.s 18) (ci 1), .mv 1 (.s 19)] [0,1,5])
(.seq (pr [.mv 20 (.s 0), .mv 21 (.s 5), .mv 22 (.s 1), .idx 23 6 (.s 20) (.s 21), .fld 24 (.s 23) 0, .fld 25 (.s 24) 1, .store 1 (.s 25) (.s 22)] [0,1,5])
(.seq (pr [.mv 26 (.s 1), .bin 27 false .add (.s 26) (ci 1), .mv 1 (.s 27)] [0,1,5])
(.seq (pr [.mv 28 (.s 0), .mv 29 (.s 5), .mv 30 (.s 1), .idx 31 6 (.s 28) (.s 29), .fld 32 (.s 31) 0, .fld 33 (.s 32) 2, .store 1 (.s 33) (.s 30)] [0,1,5])
(.seq (pr [.mv 34 (.s 1), .bin 35 false .add (.s 34) (ci 1), .mv 1 (.s 35)] [0,1,5])
(.seq (pr [.mv 36 (.s 0), .mv 37 (.s 5), .mv 38 (.s 1), .idx 39 6 (.s 36) (.s 37), .fld 40 (.s 39) 3, .store 1 (.s 40) (.s 38)] [0,1,5])
(.seq (pr [.mv 41 (.s 1), .bin 42 false .add (.s 41) (ci 1), .mv 1 (.s 42)] [0,1,5])
(.seq (pr [.mv 43 (.s 0), .mv 44 (.s 5), .mv 45 (.s 1), .idx 46 6 (.s 43) (.s 44), .fld 47 (.s 46) 4, .store 1 (.s 47) (.s 45)] [0,1,5])
(.seq (pr [.mv 48 (.s 1), .bin 49 false .add (.s 48) (ci 1), .mv 1 (.s 49)] [0,1,5])
(.seq (pr [.mv 50 (.s 0), .mv 51 (.s 5), .mv 52 (.s 1), .idx 53 6 (.s 50) (.s 51), .fld 54 (.s 53) 5, .store 1 (.s 54) (.s 52)] [0,1,5])
(pr [.mv 55 (.s 1), .bin 56 false .add (.s 55) (ci 1), .mv 1 (.s 56)] [0,1,5])))))))))))))
(pr [.mv 10 (.s 5), .bin 11 false .add (.s 10) (ci 1), .mv 5 (.s 11)] [0,1,5]))))))
(.seq (pr [.mv 57 (.s 1), .mv 4 (.s 57)] [4])
.ret)))
theorem c_laws_markFoundS (xs : List GFound) (k : Int) (hk : 0 ≤ k) (hN : k + (ctL GFound.ct xs : Nat) ≤ 4611686018427387904) : CtrI Tryz.prog n_laws_markFoundS [oL 6 (xs.map GFound.enc), iI k] [some (6, (mkL GFound.mkd GFound.ct xs k).map GFound.enc)] [rI (k + (ctL GFound.ct xs : Nat))] := by
 refine ctrI_at (M := m_laws_markFoundS) (m := 0) (n := 58) (res := [(.tmp 4, [false])]) hmix Tryz.func150 rfl (by kernel_rfl) rfl (by kernel_rfl) (by kernel_rfl) (Nat.le_of_ble_eq_true rfl) rfl rfl ?_; unfold m_laws_markFoundS
 intro hb
 have hl := len_of_bd hb
 clear hb
 simp only [↓reduceIte, reduceEqDiff, reduceLT, reduceCtorEq, go_sem]
 refine loopK_rng xs (fun i => [(1, vI (k + (ctL GFound.ct (xs.take i) : Nat))), (5, vI i)]) (fun i => [(0, ⟨1, .row true 6 ((mkL GFound.mkd GFound.ct (xs.take i) k).map GFound.enc ++ (xs.drop i).map GFound.enc)⟩)]) (fun _ => True) hl ?_
 simp only [↓reduceIte, reduceEqDiff, reduceCtorEq, go_sem]
 refine ⟨?_, trivial, ?_, ?_⟩
 ·simp only [↓reduceIte, reduceEqDiff, reduceLT, reduceCtorEq, go_sem, List.take_zero, List.drop_zero, mkL_nil, ctL_nil]
  all_goals simp
 ·intro i x hx _ h0 h1 hw
  have hR := mid_of (mk := GFound.mkd) (c := GFound.ct) (k := k) (f := GFound.enc) hx
  have hA := mid_at (mk := GFound.mkd) (c := GFound.ct) (k := k) (f := GFound.enc) hx
  generalize hAe : (mkL GFound.mkd GFound.ct (xs.take i) k).map GFound.enc = A at hR hA
  generalize hBe : (xs.drop (i + 1)).map GFound.enc = B at hR hA
  obtain ⟨hg, hs, hl, hd⟩ := hA
  have hc := ctL_take_le (c := GFound.ct) (i + 1) (l := xs)
  rw [ctL_snoc hx] at hc
  have hK0 : 0 ≤ k + ((ctL GFound.ct (xs.take i) : Nat) : Int) := by omega
  have hK1 : k + ((ctL GFound.ct (xs.take i) : Nat) : Int) + (GFound.ct x : Nat) ≤ 4611686018427387904 := by omega
  generalize hK : k + ((ctL GFound.ct (xs.take i) : Nat) : Int) = K at hK0 hK1
  simp only [GFound.ct] at hK1
  simp only [↓reduceIte, reduceEqDiff, reduceLT, reduceLeDiff, reduceAdd, reduceCtorEq, go_sem, hw, hR, hg, hs, hl, h0, h1, waK (K := K + 1) (K' := K + 1) (by omega) (by omega) (by omega), waK (K := K + 1 + 1) (K' := K + 2) (by omega) (by omega) (by omega), waK (K := K + 2 + 1) (K' := K + 3) (by omega) (by omega) (by omega), waK (K := K + 3 + 1) (K' := K + 4) (by omega) (by omega) (by omega), waK (K := K + 4 + 1) (K' := K + 5) (by omega) (by omega) (by omega), waK (K := K + 5 + 1) (K' := K + 6) (by omega) (by omega) (by omega)]
  subst hK hAe hBe
  refine ⟨?_, mid_snoc hx⟩
  rw [ctL_snoc hx]
  simp only [GFound.ct]
  omega
 ·intro _
  simp only [↓reduceIte, reduceEqDiff, reduceLT, reduceCtorEq, go_sem, List.take_length, List.drop_length, List.map_nil, List.append_nil, mkL_len]
def m_laws_heldFoundS : MC :=
(.seq (pr [.mv 4 (ci 0)] [0,1])
(.seq (.seq (pr [.mv 5 (ci 0)] [0,1,5])
(.block 0 (.loop ([0,1,5], []) (.seq (.seq (pr [.mv 6 (.s 5), .mv 7 (.s 0), .len 8 false (.s 7), .bin 9 false .lss (.s 6) (.s 8)] [0,1,5,9])
(.cond (.s 9) .skip (.exit 0)))
(.seq (.block 1 (.seq (.seq (pr [.mv 12 (.s 0), .mv 13 (.s 5), .idx 14 6 (.s 12) (.s 13), .fld 15 (.s 14) 0, .fld 16 (.s 15) 0, .load 17 false 1 (.s 16), .mv 18 (.s 1), .bin 19 false .neq (.s 17) (.s 18)] [0,1,5,19])
(.cond (.s 19) (.seq (pr [.mv 4 (.c (.int .i64 (-1)))] [4])
.ret) .skip))
(.seq (pr [.mv 20 (.s 1), .bin 21 false .add (.s 20) (ci 1), .mv 1 (.s 21)] [0,1,5])
(.seq (.seq (pr [.mv 22 (.s 0), .mv 23 (.s 5), .idx 24 6 (.s 22) (.s 23), .fld 25 (.s 24) 0, .fld 26 (.s 25) 1, .load 27 false 1 (.s 26), .mv 28 (.s 1), .bin 29 false .neq (.s 27) (.s 28)] [0,1,5,29])
(.cond (.s 29) (.seq (pr [.mv 4 (.c (.int .i64 (-1)))] [4])
.ret) .skip))
(.seq (pr [.mv 30 (.s 1), .bin 31 false .add (.s 30) (ci 1), .mv 1 (.s 31)] [0,1,5])
(.seq (.seq (pr [.mv 32 (.s 0), .mv 33 (.s 5), .idx 34 6 (.s 32) (.s 33), .fld 35 (.s 34) 0, .fld 36 (.s 35) 2, .load 37 false 1 (.s 36), .mv 38 (.s 1), .bin 39 false .neq (.s 37) (.s 38)] [0,1,5,39])
(.cond (.s 39) (.seq (pr [.mv 4 (.c (.int .i64 (-1)))] [4])
.ret) .skip))
(.seq (pr [.mv 40 (.s 1), .bin 41 false .add (.s 40) (ci 1), .mv 1 (.s 41)] [0,1,5])
(.seq (.seq (pr [.mv 42 (.s 0), .mv 43 (.s 5), .idx 44 6 (.s 42) (.s 43), .fld 45 (.s 44) 3, .load 46 false 1 (.s 45), .mv 47 (.s 1), .bin 48 false .neq (.s 46) (.s 47)] [0,1,5,48])
(.cond (.s 48) (.seq (pr [.mv 4 (.c (.int .i64 (-1)))] [4])
.ret) .skip))
(.seq (pr [.mv 49 (.s 1), .bin 50 false .add (.s 49) (ci 1), .mv 1 (.s 50)] [0,1,5])
(.seq (.seq (pr [.mv 51 (.s 0), .mv 52 (.s 5), .idx 53 6 (.s 51) (.s 52), .fld 54 (.s 53) 4, .load 55 false 1 (.s 54), .mv 56 (.s 1), .bin 57 false .neq (.s 55) (.s 56)] [0,1,5,57])
(.cond (.s 57) (.seq (pr [.mv 4 (.c (.int .i64 (-1)))] [4])
.ret) .skip))
(.seq (pr [.mv 58 (.s 1), .bin 59 false .add (.s 58) (ci 1), .mv 1 (.s 59)] [0,1,5])
(.seq (.seq (pr [.mv 60 (.s 0), .mv 61 (.s 5), .idx 62 6 (.s 60) (.s 61), .fld 63 (.s 62) 5, .load 64 false 1 (.s 63), .mv 65 (.s 1), .bin 66 false .neq (.s 64) (.s 65)] [0,1,5,66])
(.cond (.s 66) (.seq (pr [.mv 4 (.c (.int .i64 (-1)))] [4])
.ret) .skip))
(pr [.mv 67 (.s 1), .bin 68 false .add (.s 67) (ci 1), .mv 1 (.s 68)] [0,1,5])))))))))))))
(pr [.mv 10 (.s 5), .bin 11 false .add (.s 10) (ci 1), .mv 5 (.s 11)] [0,1,5]))))))
(.seq (pr [.mv 69 (.s 1), .mv 4 (.s 69)] [4])
.ret)))
theorem c_laws_heldFoundS (xs : List GFound) (k : Int) (hk : 0 ≤ k) (hN : k + (ctL GFound.ct xs : Nat) ≤ 4611686018427387904) : Ctr Tryz.prog n_laws_heldFoundS [aL 6 ((mkL GFound.mkd GFound.ct xs k).map GFound.enc), aI k] [rI (k + (ctL GFound.ct xs : Nat))] := by
 refine cA m_laws_heldFoundS 0 70 [(.tmp 4, [false])] Tryz.func152 rfl rfl ?_; unfold m_laws_heldFoundS
 intro hb
 simp only [bdA, bdL, bdT, bdR_map, wfB_i64, roomB, and_true, List.length_map] at hb
 have hl := hb.1.1
 rw [mkL_len] at hl
 clear hb
 simp only [↓reduceIte, reduceEqDiff, reduceLT, reduceCtorEq, go_sem]
 refine loopK_rng xs (fun i => [(1, vI (k + (ctL GFound.ct (xs.take i) : Nat))), (5, vI i)]) (fun i => []) (fun _ => True) hl ?_
 simp only [↓reduceIte, reduceEqDiff, reduceCtorEq, go_sem]
 refine ⟨?_, trivial, ?_, ?_⟩
 ·simp only [↓reduceIte, reduceEqDiff, reduceLT, reduceCtorEq, go_sem, List.take_zero, ctL_nil]
  all_goals simp
 ·intro i x hx _ h0 h1 hw
  have hg := mkL_get (mk := GFound.mkd) (c := GFound.ct) (k := k) hx
  have hc := ctL_take_le (c := GFound.ct) (i + 1) (l := xs)
  rw [ctL_snoc hx] at hc
  have hK0 : 0 ≤ k + ((ctL GFound.ct (xs.take i) : Nat) : Int) := by omega
  have hK1 : k + ((ctL GFound.ct (xs.take i) : Nat) : Int) + (GFound.ct x : Nat) ≤ 4611686018427387904 := by omega
  generalize hK : k + ((ctL GFound.ct (xs.take i) : Nat) : Int) = K at hK0 hK1 hg
  simp only [GFound.ct] at hK1
  simp only [↓reduceIte, reduceEqDiff, reduceLT, reduceLeDiff, reduceAdd, reduceCtorEq, go_sem, hw, bk_eq hg, h0, h1, mkL_len, GFound.mkd, waK (K := K + 1) (K' := K + 1) (by omega) (by omega) (by omega), waK (K := K + 1 + 1) (K' := K + 2) (by omega) (by omega) (by omega), waK (K := K + 2 + 1) (K' := K + 3) (by omega) (by omega) (by omega), waK (K := K + 3 + 1) (K' := K + 4) (by omega) (by omega) (by omega), waK (K := K + 4 + 1) (K' := K + 5) (by omega) (by omega) (by omega), waK (K := K + 5 + 1) (K' := K + 6) (by omega) (by omega) (by omega)]
  rw [ctL_snoc hx]
  simp only [GFound.ct]
  omega
 ·intro _
  simp only [↓reduceIte, reduceEqDiff, reduceLT, reduceCtorEq, go_sem, List.take_length, mkL_len]
def GDisk.mks (x : GDisk) (k : Int) : GDisk := { x with Containers := mkL GContainer.mkd GContainer.ct x.Containers (k), Index := mkL GFound.mkd GFound.ct x.Index (k + (ctL GContainer.ct x.Containers : Nat)), Wanted := mkL GContainer.mkd GContainer.ct x.Wanted (k + (ctL GContainer.ct x.Containers : Nat) + (ctL GFound.ct x.Index : Nat)) }
def GDisk.cts (x : GDisk) : Nat := ctL GContainer.ct x.Containers + ctL GFound.ct x.Index + ctL GContainer.ct x.Wanted
theorem GDisk.cts_le (x : GDisk) : x.cts ≤ 16 * x.size := by
 simp only [GDisk.cts, GDisk.size]
 have hContainers := ctL_le (c := GContainer.ct) (s := GContainer.size) GContainer.ct_le x.Containers
 have hIndex := ctL_le' (c := GFound.ct) (fun y => by simp only [GFound.ct]; omega) x.Index
 have hWanted := ctL_le (c := GContainer.ct) (s := GContainer.size) GContainer.ct_le x.Wanted
 omega
@[go_sem] theorem GDisk.mks_len0 (x : GDisk) (k : Int) : ((x.mks k).Containers).length = x.Containers.length := mkL_len
@[go_sem] theorem GDisk.mks_len1 (x : GDisk) (k : Int) : ((x.mks k).Index).length = x.Index.length := mkL_len
@[go_sem] theorem GDisk.mks_len2 (x : GDisk) (k : Int) : ((x.mks k).Wanted).length = x.Wanted.length := mkL_len
def m_laws_markDisk : MC :=
(.seq (pr [.box 2 3 (.s 0), .mv 4 (ci 0)] [1,2])
(.seq (pr [.fld 5 (.s 2) 0, .load 6 false 1 (.s 5), .mv 7 (.s 1), .callI 8 [] (.f n_laws_markContainerS) [.s 6, .s 7] [0] [], .mv 1 (.s 8)] [1,2])
(.seq (pr [.fld 9 (.s 2) 1, .load 10 false 1 (.s 9), .mv 11 (.s 1), .callI 12 [] (.f n_laws_markFoundS) [.s 10, .s 11] [1] [], .mv 1 (.s 12)] [1,2])
(.seq (pr [.fld 13 (.s 2) 2, .load 14 false 1 (.s 13), .mv 15 (.s 1), .callI 16 [] (.f n_laws_markContainerS) [.s 14, .s 15] [2] [], .mv 1 (.s 16)] [1])
(.seq (pr [.mv 17 (.s 1), .mv 4 (.s 17)] [4])
.ret)))))
theorem c_laws_markDisk (x : GDisk) (k : Int) (hk : 0 ≤ k) (hN : k + (x.cts : Nat) ≤ 4611686018427387904) : CtrI Tryz.prog n_laws_markDisk [oS x.enc, iI k] [some (4, (x.mks k).Containers.map GContainer.enc), some (6, (x.mks k).Index.map GFound.enc), some (4, (x.mks k).Wanted.map GContainer.enc)] [rI (k + (x.cts : Nat))] := by
 refine ctrI_at (M := m_laws_markDisk) (m := 1) (n := 18) (res := [(.tmp 4, [false])]) hmix Tryz.func75 rfl (by kernel_rfl) rfl (by kernel_rfl) (by kernel_rfl) (Nat.le_of_ble_eq_true rfl) rfl rfl ?_; unfold m_laws_markDisk
 intro hb
 clear hb
 simp only [GDisk.cts] at hN ⊢
 simp only [↓reduceIte, reduceEqDiff, reduceLT, reduceLeDiff, reduceAdd, reduceCtorEq, go_sem]
 refine callIK_of (c_laws_markContainerS x.Containers (k) (by omega) (by omega)) ?_
 simp only [↓reduceIte, reduceEqDiff, reduceLT, reduceLeDiff, reduceAdd, reduceCtorEq, go_sem]
 refine callIK_of (c_laws_markFoundS x.Index (k + (ctL GContainer.ct x.Containers : Nat)) (by omega) (by omega)) ?_
 simp only [↓reduceIte, reduceEqDiff, reduceLT, reduceAdd, reduceCtorEq, go_sem]
 refine callIK_of (c_laws_markContainerS x.Wanted (k + (ctL GContainer.ct x.Containers : Nat) + (ctL GFound.ct x.Index : Nat)) (by omega) (by omega)) ?_
 simp only [↓reduceIte, reduceLT, reduceAdd, reduceCtorEq, go_sem]
 all_goals (try omega)
 repeat' (first | rfl | omega | refine And.intro ?_ ?_)
def m_laws_heldDisk : MC :=
(.seq (pr [.box 2 0 (.s 0), .mv 4 (ci 0)] [1,2])
(.seq (pr [.fld 5 (.s 2) 0, .load 6 false 1 (.s 5), .mv 7 (.s 1), .call 8 [] (.f n_laws_heldContainerS) [.s 6, .s 7], .mv 1 (.s 8)] [1,2])
(.seq (.seq (pr [.mv 9 (.s 1), .bin 10 false .lss (.s 9) (ci 0)] [1,2,10])
(.cond (.s 10) (.seq (pr [.mv 4 (.c (.int .i64 (-1)))] [4])
.ret) .skip))
(.seq (pr [.fld 11 (.s 2) 1, .load 12 false 1 (.s 11), .mv 13 (.s 1), .call 14 [] (.f n_laws_heldFoundS) [.s 12, .s 13], .mv 1 (.s 14)] [1,2])
(.seq (.seq (pr [.mv 15 (.s 1), .bin 16 false .lss (.s 15) (ci 0)] [1,2,16])
(.cond (.s 16) (.seq (pr [.mv 4 (.c (.int .i64 (-1)))] [4])
.ret) .skip))
(.seq (pr [.fld 17 (.s 2) 2, .load 18 false 1 (.s 17), .mv 19 (.s 1), .call 20 [] (.f n_laws_heldContainerS) [.s 18, .s 19], .mv 1 (.s 20)] [1])
(.seq (.seq (pr [.mv 21 (.s 1), .bin 22 false .lss (.s 21) (ci 0)] [1,22])
(.cond (.s 22) (.seq (pr [.mv 4 (.c (.int .i64 (-1)))] [4])
.ret) .skip))
(.seq (pr [.mv 23 (.s 1), .mv 4 (.s 23)] [4])
.ret))))))))
theorem c_laws_heldDisk (x : GDisk) (k : Int) (hk : 0 ≤ k) (hN : k + (x.cts : Nat) ≤ 4611686018427387904) : Ctr Tryz.prog n_laws_heldDisk [aS (x.mks k).enc, aI k] [rI (k + (x.cts : Nat))] := by
 refine cA m_laws_heldDisk 1 24 [(.tmp 4, [false])] Tryz.func81 rfl rfl ?_; unfold m_laws_heldDisk
 intro hb
 clear hb
 simp only [GDisk.cts] at hN ⊢
 simp only [↓reduceIte, reduceEqDiff, reduceLT, reduceLeDiff, reduceAdd, reduceCtorEq, go_sem]
 refine callK_of (c_laws_heldContainerS x.Containers (k) (by omega) (by omega)) ?_
 have n1 : ¬ k + (ctL GContainer.ct x.Containers : Nat) < 0 := by omega
 simp only [↓reduceIte, reduceEqDiff, reduceLT, reduceLeDiff, reduceAdd, reduceCtorEq, go_sem, n1]
 try intro _
 refine callK_of (c_laws_heldFoundS x.Index (k + (ctL GContainer.ct x.Containers : Nat)) (by omega) (by omega)) ?_
 have n2 : ¬ k + (ctL GContainer.ct x.Containers : Nat) + (ctL GFound.ct x.Index : Nat) < 0 := by omega
 simp only [↓reduceIte, reduceEqDiff, reduceLT, reduceAdd, reduceCtorEq, go_sem, n2]
 try intro _
 refine callK_of (c_laws_heldContainerS x.Wanted (k + (ctL GContainer.ct x.Containers : Nat) + (ctL GFound.ct x.Index : Nat)) (by omega) (by omega)) ?_
 have n3 : ¬ k + (ctL GContainer.ct x.Containers : Nat) + (ctL GFound.ct x.Index : Nat) + (ctL GContainer.ct x.Wanted : Nat) < 0 := by omega
 simp only [↓reduceIte, reduceEqDiff, reduceLT, reduceCtorEq, go_sem, n3]
 try intro _
 all_goals (try omega)
 all_goals (try simp only [n1, n2, n3])
def GArchive.mks (x : GArchive) (k : Int) : GArchive := { x with Site := mkL GVersion.mkd GVersion.ct x.Site (k), Script := mkL GOp.mkd GOp.ct x.Script (k + (ctL GVersion.ct x.Site : Nat)), Disk := x.Disk.mks (k + (ctL GVersion.ct x.Site : Nat) + (ctL GOp.ct x.Script : Nat)), Exclusions := mkL GExclusion.mkd GExclusion.ct x.Exclusions (k + (ctL GVersion.ct x.Site : Nat) + (ctL GOp.ct x.Script : Nat) + (x.Disk.cts : Nat)), Libraries := mkL GLibrary.mkd GLibrary.ct x.Libraries (k + (ctL GVersion.ct x.Site : Nat) + (ctL GOp.ct x.Script : Nat) + (x.Disk.cts : Nat) + (ctL GExclusion.ct x.Exclusions : Nat)), Keys := mkL iMk iCt x.Keys (k + (ctL GVersion.ct x.Site : Nat) + (ctL GOp.ct x.Script : Nat) + (x.Disk.cts : Nat) + (ctL GExclusion.ct x.Exclusions : Nat) + (ctL GLibrary.ct x.Libraries : Nat)), Statements := mkL GStatement.mkd GStatement.ct x.Statements (k + (ctL GVersion.ct x.Site : Nat) + (ctL GOp.ct x.Script : Nat) + (x.Disk.cts : Nat) + (ctL GExclusion.ct x.Exclusions : Nat) + (ctL GLibrary.ct x.Libraries : Nat) + (ctL iCt x.Keys : Nat)) }
def GArchive.cts (x : GArchive) : Nat := ctL GVersion.ct x.Site + ctL GOp.ct x.Script + x.Disk.cts + ctL GExclusion.ct x.Exclusions + ctL GLibrary.ct x.Libraries + ctL iCt x.Keys + ctL GStatement.ct x.Statements
theorem GArchive.cts_le (x : GArchive) : x.cts ≤ 16 * x.size := by
 simp only [GArchive.cts, GArchive.size]
 have hSite := ctL_le (c := GVersion.ct) (s := GVersion.size) GVersion.ct_le x.Site
 have hScript := ctL_le' (c := GOp.ct) (fun y => by simp only [GOp.ct]; omega) x.Script
 have hDisk := GDisk.cts_le x.Disk
 have hExclusions := ctL_le' (c := GExclusion.ct) (fun y => by simp only [GExclusion.ct]; omega) x.Exclusions
 have hLibraries := ctL_le (c := GLibrary.ct) (s := GLibrary.size) GLibrary.ct_le x.Libraries
 have hKeys := ctL_le' (c := iCt) (fun y => by simp only [iCt]; omega) x.Keys
 have hStatements := ctL_le' (c := GStatement.ct) (fun y => by simp only [GStatement.ct]; omega) x.Statements
 omega
@[go_sem] theorem GArchive.mks_len0 (x : GArchive) (k : Int) : ((x.mks k).Site).length = x.Site.length := mkL_len
@[go_sem] theorem GArchive.mks_len1 (x : GArchive) (k : Int) : ((x.mks k).Script).length = x.Script.length := mkL_len
@[go_sem] theorem GArchive.mks_len2 (x : GArchive) (k : Int) : ((x.mks k).Disk.Containers).length = x.Disk.Containers.length := mkL_len
@[go_sem] theorem GArchive.mks_len3 (x : GArchive) (k : Int) : ((x.mks k).Disk.Index).length = x.Disk.Index.length := mkL_len
@[go_sem] theorem GArchive.mks_len4 (x : GArchive) (k : Int) : ((x.mks k).Disk.Wanted).length = x.Disk.Wanted.length := mkL_len
@[go_sem] theorem GArchive.mks_len5 (x : GArchive) (k : Int) : ((x.mks k).Exclusions).length = x.Exclusions.length := mkL_len
@[go_sem] theorem GArchive.mks_len6 (x : GArchive) (k : Int) : ((x.mks k).Libraries).length = x.Libraries.length := mkL_len
@[go_sem] theorem GArchive.mks_len7 (x : GArchive) (k : Int) : ((x.mks k).Keys).length = x.Keys.length := mkL_len
@[go_sem] theorem GArchive.mks_len8 (x : GArchive) (k : Int) : ((x.mks k).Statements).length = x.Statements.length := mkL_len
def m_laws_markArchive : MC :=
(.seq (pr [.box 2 9 (.s 0), .mv 4 (ci 0)] [1,2])
(.seq (pr [.fld 5 (.s 2) 0, .load 6 false 1 (.s 5), .mv 7 (.s 1), .callI 8 [] (.f n_laws_markVersionS) [.s 6, .s 7] [0] [], .mv 1 (.s 8)] [1,2])
(.seq (pr [.fld 9 (.s 2) 1, .load 10 false 1 (.s 9), .mv 11 (.s 1), .callI 12 [] (.f n_laws_markOpS) [.s 10, .s 11] [1] [], .mv 1 (.s 12)] [1,2])
(.seq (pr [.fld 13 (.s 2) 2, .load 14 true 3 (.s 13), .mv 15 (.s 1), .callI 16 [] (.f n_laws_markDisk) [.s 14, .s 15] [2,3,4] [], .mv 1 (.s 16)] [1,2])
(.seq (pr [.fld 17 (.s 2) 5, .load 18 false 1 (.s 17), .mv 19 (.s 1), .callI 20 [] (.f n_laws_markExclusionS) [.s 18, .s 19] [5] [], .mv 1 (.s 20)] [1,2])
(.seq (pr [.fld 21 (.s 2) 6, .load 22 false 1 (.s 21), .mv 23 (.s 1), .callI 24 [] (.f n_laws_markLibraryS) [.s 22, .s 23] [6] [], .mv 1 (.s 24)] [1,2])
(.seq (pr [.fld 25 (.s 2) 7, .load 26 false 1 (.s 25), .mv 27 (.s 1), .callI 28 [] (.f n_laws_markIntS) [.s 26, .s 27] [7] [], .mv 1 (.s 28)] [1,2])
(.seq (pr [.fld 29 (.s 2) 8, .load 30 false 1 (.s 29), .mv 31 (.s 1), .callI 32 [] (.f n_laws_markStatementS) [.s 30, .s 31] [8] [], .mv 1 (.s 32)] [1])
(.seq (pr [.mv 33 (.s 1), .mv 4 (.s 33)] [4])
.ret)))))))))
theorem c_laws_markArchive (x : GArchive) (k : Int) (hk : 0 ≤ k) (hN : k + (x.cts : Nat) ≤ 4611686018427387904) : CtrI Tryz.prog n_laws_markArchive [oS x.enc, iI k] [some (9, (x.mks k).Site.map GVersion.enc), some (4, (x.mks k).Script.map GOp.enc), some (4, (x.mks k).Disk.Containers.map GContainer.enc), some (6, (x.mks k).Disk.Index.map GFound.enc), some (4, (x.mks k).Disk.Wanted.map GContainer.enc), some (5, (x.mks k).Exclusions.map GExclusion.enc), some (4, (x.mks k).Libraries.map GLibrary.enc), some (1, (x.mks k).Keys.map encI), some (4, (x.mks k).Statements.map GStatement.enc)] [rI (k + (x.cts : Nat))] := by
 refine ctrI_at (M := m_laws_markArchive) (m := 1) (n := 34) (res := [(.tmp 4, [false])]) hmix Tryz.func19 rfl (by kernel_rfl) rfl (by kernel_rfl) (by kernel_rfl) (Nat.le_of_ble_eq_true rfl) rfl rfl ?_; unfold m_laws_markArchive
 intro hb
 clear hb
 simp only [GArchive.cts] at hN ⊢
 simp only [↓reduceIte, reduceEqDiff, reduceLT, reduceLeDiff, reduceAdd, reduceCtorEq, go_sem]
 refine callIK_of (c_laws_markVersionS x.Site (k) (by omega) (by omega)) ?_
 simp only [↓reduceIte, reduceEqDiff, reduceLT, reduceLeDiff, reduceAdd, reduceCtorEq, go_sem]
 refine callIK_of (c_laws_markOpS x.Script (k + (ctL GVersion.ct x.Site : Nat)) (by omega) (by omega)) ?_
 simp only [↓reduceIte, reduceEqDiff, reduceLT, reduceLeDiff, reduceAdd, reduceCtorEq, go_sem]
 refine callIK_of (c_laws_markDisk x.Disk (k + (ctL GVersion.ct x.Site : Nat) + (ctL GOp.ct x.Script : Nat)) (by omega) (by omega)) ?_
 simp only [↓reduceIte, reduceEqDiff, reduceLT, reduceLeDiff, reduceAdd, reduceCtorEq, go_sem]
 refine callIK_of (c_laws_markExclusionS x.Exclusions (k + (ctL GVersion.ct x.Site : Nat) + (ctL GOp.ct x.Script : Nat) + (x.Disk.cts : Nat)) (by omega) (by omega)) ?_
 simp only [↓reduceIte, reduceEqDiff, reduceLT, reduceLeDiff, reduceAdd, reduceCtorEq, go_sem]
 refine callIK_of (c_laws_markLibraryS x.Libraries (k + (ctL GVersion.ct x.Site : Nat) + (ctL GOp.ct x.Script : Nat) + (x.Disk.cts : Nat) + (ctL GExclusion.ct x.Exclusions : Nat)) (by omega) (by omega)) ?_
 simp only [↓reduceIte, reduceEqDiff, reduceLT, reduceLeDiff, reduceAdd, reduceCtorEq, go_sem]
 refine callIK_of (c_laws_markIntS x.Keys (k + (ctL GVersion.ct x.Site : Nat) + (ctL GOp.ct x.Script : Nat) + (x.Disk.cts : Nat) + (ctL GExclusion.ct x.Exclusions : Nat) + (ctL GLibrary.ct x.Libraries : Nat)) (by omega) (by omega)) ?_
 simp only [↓reduceIte, reduceEqDiff, reduceLT, reduceLeDiff, reduceAdd, reduceCtorEq, go_sem]
 refine callIK_of (c_laws_markStatementS x.Statements (k + (ctL GVersion.ct x.Site : Nat) + (ctL GOp.ct x.Script : Nat) + (x.Disk.cts : Nat) + (ctL GExclusion.ct x.Exclusions : Nat) + (ctL GLibrary.ct x.Libraries : Nat) + (ctL iCt x.Keys : Nat)) (by omega) (by omega)) ?_
 simp only [↓reduceIte, reduceLT, reduceAdd, reduceCtorEq, go_sem]
 all_goals (try omega)
 repeat' (first | rfl | omega | refine And.intro ?_ ?_)
def m_laws_heldArchive : MC :=
(.seq (pr [.box 2 0 (.s 0), .mv 4 (ci 0)] [1,2])
(.seq (pr [.fld 5 (.s 2) 0, .load 6 false 1 (.s 5), .mv 7 (.s 1), .call 8 [] (.f n_laws_heldVersionS) [.s 6, .s 7], .mv 1 (.s 8)] [1,2])
(.seq (.seq (pr [.mv 9 (.s 1), .bin 10 false .lss (.s 9) (ci 0)] [1,2,10])
(.cond (.s 10) (.seq (pr [.mv 4 (.c (.int .i64 (-1)))] [4])
.ret) .skip))
(.seq (pr [.fld 11 (.s 2) 1, .load 12 false 1 (.s 11), .mv 13 (.s 1), .call 14 [] (.f n_laws_heldOpS) [.s 12, .s 13], .mv 1 (.s 14)] [1,2])
(.seq (.seq (pr [.mv 15 (.s 1), .bin 16 false .lss (.s 15) (ci 0)] [1,2,16])
(.cond (.s 16) (.seq (pr [.mv 4 (.c (.int .i64 (-1)))] [4])
.ret) .skip))
(.seq (pr [.fld 17 (.s 2) 2, .load 18 true 3 (.s 17), .mv 19 (.s 1), .call 20 [] (.f n_laws_heldDisk) [.s 18, .s 19], .mv 1 (.s 20)] [1,2])
(.seq (.seq (pr [.mv 21 (.s 1), .bin 22 false .lss (.s 21) (ci 0)] [1,2,22])
(.cond (.s 22) (.seq (pr [.mv 4 (.c (.int .i64 (-1)))] [4])
.ret) .skip))
(.seq (pr [.fld 23 (.s 2) 5, .load 24 false 1 (.s 23), .mv 25 (.s 1), .call 26 [] (.f n_laws_heldExclusionS) [.s 24, .s 25], .mv 1 (.s 26)] [1,2])
(.seq (.seq (pr [.mv 27 (.s 1), .bin 28 false .lss (.s 27) (ci 0)] [1,2,28])
(.cond (.s 28) (.seq (pr [.mv 4 (.c (.int .i64 (-1)))] [4])
.ret) .skip))
(.seq (pr [.fld 29 (.s 2) 6, .load 30 false 1 (.s 29), .mv 31 (.s 1), .call 32 [] (.f n_laws_heldLibraryS) [.s 30, .s 31], .mv 1 (.s 32)] [1,2])
(.seq (.seq (pr [.mv 33 (.s 1), .bin 34 false .lss (.s 33) (ci 0)] [1,2,34])
(.cond (.s 34) (.seq (pr [.mv 4 (.c (.int .i64 (-1)))] [4])
.ret) .skip))
(.seq (pr [.fld 35 (.s 2) 7, .load 36 false 1 (.s 35), .mv 37 (.s 1), .call 38 [] (.f n_laws_heldIntS) [.s 36, .s 37], .mv 1 (.s 38)] [1,2])
(.seq (.seq (pr [.mv 39 (.s 1), .bin 40 false .lss (.s 39) (ci 0)] [1,2,40])
(.cond (.s 40) (.seq (pr [.mv 4 (.c (.int .i64 (-1)))] [4])
.ret) .skip))
(.seq (pr [.fld 41 (.s 2) 8, .load 42 false 1 (.s 41), .mv 43 (.s 1), .call 44 [] (.f n_laws_heldStatementS) [.s 42, .s 43], .mv 1 (.s 44)] [1])
(.seq (.seq (pr [.mv 45 (.s 1), .bin 46 false .lss (.s 45) (ci 0)] [1,46])
(.cond (.s 46) (.seq (pr [.mv 4 (.c (.int .i64 (-1)))] [4])
.ret) .skip))
(.seq (pr [.mv 47 (.s 1), .mv 4 (.s 47)] [4])
.ret))))))))))))))))
theorem c_laws_heldArchive (x : GArchive) (k : Int) (hk : 0 ≤ k) (hN : k + (x.cts : Nat) ≤ 4611686018427387904) : Ctr Tryz.prog n_laws_heldArchive [aS (x.mks k).enc, aI k] [rI (k + (x.cts : Nat))] := by
 refine cA m_laws_heldArchive 1 48 [(.tmp 4, [false])] Tryz.func21 rfl rfl ?_; unfold m_laws_heldArchive
 intro hb
 clear hb
 simp only [GArchive.cts] at hN ⊢
 simp only [↓reduceIte, reduceEqDiff, reduceLT, reduceLeDiff, reduceAdd, reduceCtorEq, go_sem]
 refine callK_of (c_laws_heldVersionS x.Site (k) (by omega) (by omega)) ?_
 have n1 : ¬ k + (ctL GVersion.ct x.Site : Nat) < 0 := by omega
 simp only [↓reduceIte, reduceEqDiff, reduceLT, reduceLeDiff, reduceAdd, reduceCtorEq, go_sem, n1]
 try intro _
 refine callK_of (c_laws_heldOpS x.Script (k + (ctL GVersion.ct x.Site : Nat)) (by omega) (by omega)) ?_
 have n2 : ¬ k + (ctL GVersion.ct x.Site : Nat) + (ctL GOp.ct x.Script : Nat) < 0 := by omega
 simp only [↓reduceIte, reduceEqDiff, reduceLT, reduceLeDiff, reduceAdd, reduceCtorEq, go_sem, n2]
 try intro _
 refine callK_of (c_laws_heldDisk x.Disk (k + (ctL GVersion.ct x.Site : Nat) + (ctL GOp.ct x.Script : Nat)) (by omega) (by omega)) ?_
 have n3 : ¬ k + (ctL GVersion.ct x.Site : Nat) + (ctL GOp.ct x.Script : Nat) + (x.Disk.cts : Nat) < 0 := by omega
 simp only [↓reduceIte, reduceEqDiff, reduceLT, reduceLeDiff, reduceAdd, reduceCtorEq, go_sem, n3]
 try intro _
 refine callK_of (c_laws_heldExclusionS x.Exclusions (k + (ctL GVersion.ct x.Site : Nat) + (ctL GOp.ct x.Script : Nat) + (x.Disk.cts : Nat)) (by omega) (by omega)) ?_
 have n4 : ¬ k + (ctL GVersion.ct x.Site : Nat) + (ctL GOp.ct x.Script : Nat) + (x.Disk.cts : Nat) + (ctL GExclusion.ct x.Exclusions : Nat) < 0 := by omega
 simp only [↓reduceIte, reduceEqDiff, reduceLT, reduceLeDiff, reduceAdd, reduceCtorEq, go_sem, n4]
 try intro _
 refine callK_of (c_laws_heldLibraryS x.Libraries (k + (ctL GVersion.ct x.Site : Nat) + (ctL GOp.ct x.Script : Nat) + (x.Disk.cts : Nat) + (ctL GExclusion.ct x.Exclusions : Nat)) (by omega) (by omega)) ?_
 have n5 : ¬ k + (ctL GVersion.ct x.Site : Nat) + (ctL GOp.ct x.Script : Nat) + (x.Disk.cts : Nat) + (ctL GExclusion.ct x.Exclusions : Nat) + (ctL GLibrary.ct x.Libraries : Nat) < 0 := by omega
 simp only [↓reduceIte, reduceEqDiff, reduceLT, reduceLeDiff, reduceAdd, reduceCtorEq, go_sem, n5]
 try intro _
 refine callK_of (c_laws_heldIntS x.Keys (k + (ctL GVersion.ct x.Site : Nat) + (ctL GOp.ct x.Script : Nat) + (x.Disk.cts : Nat) + (ctL GExclusion.ct x.Exclusions : Nat) + (ctL GLibrary.ct x.Libraries : Nat)) (by omega) (by omega)) ?_
 have n6 : ¬ k + (ctL GVersion.ct x.Site : Nat) + (ctL GOp.ct x.Script : Nat) + (x.Disk.cts : Nat) + (ctL GExclusion.ct x.Exclusions : Nat) + (ctL GLibrary.ct x.Libraries : Nat) + (ctL iCt x.Keys : Nat) < 0 := by omega
 simp only [↓reduceIte, reduceEqDiff, reduceLT, reduceLeDiff, reduceAdd, reduceCtorEq, go_sem, n6]
 try intro _
 refine callK_of (c_laws_heldStatementS x.Statements (k + (ctL GVersion.ct x.Site : Nat) + (ctL GOp.ct x.Script : Nat) + (x.Disk.cts : Nat) + (ctL GExclusion.ct x.Exclusions : Nat) + (ctL GLibrary.ct x.Libraries : Nat) + (ctL iCt x.Keys : Nat)) (by omega) (by omega)) ?_
 have n7 : ¬ k + (ctL GVersion.ct x.Site : Nat) + (ctL GOp.ct x.Script : Nat) + (x.Disk.cts : Nat) + (ctL GExclusion.ct x.Exclusions : Nat) + (ctL GLibrary.ct x.Libraries : Nat) + (ctL iCt x.Keys : Nat) + (ctL GStatement.ct x.Statements : Nat) < 0 := by omega
 simp only [↓reduceIte, reduceEqDiff, reduceLT, reduceCtorEq, go_sem, n7]
 try intro _
 all_goals (try omega)
 all_goals (try simp only [n1, n2, n3, n4, n5, n6, n7])
def GChange.mkd (x : GChange) (k : Int) : GChange := ⟨k, (k + 1)⟩
def GChange.ct (x : GChange) : Nat := 2
def GPlayed.mks (x : GPlayed) (k : Int) : GPlayed := { x with State := x.State.mks (k) }
def GPlayed.cts (x : GPlayed) : Nat := x.State.cts
theorem GPlayed.cts_le (x : GPlayed) : x.cts ≤ 16 * x.size := by
 simp only [GPlayed.cts, GPlayed.size]
 have hState := GState.cts_le x.State
 omega
@[go_sem] theorem GPlayed.mks_len0 (x : GPlayed) (k : Int) : ((x.mks k).State.Regs).length = x.State.Regs.length := mkL_len
@[go_sem] theorem GPlayed.mks_len1 (x : GPlayed) (k : Int) : ((x.mks k).State.Slots).length = x.State.Slots.length := mkL_len
@[go_sem] theorem GPlayed.mks_len2 (x : GPlayed) (k : Int) : ((x.mks k).State.Nodes).length = x.State.Nodes.length := mkL_len
end Go.Proofs.YtpclnmleldeleaaGreatR
namespace Go.Proofs.YtpclnmleldeleaaGreatR
open Go Go.RowKit Go.Proofs
open Nat (reduceEqDiff reduceLT reduceLeDiff reduceAdd reduceMul)
open List (reduceReplicate)
set_option linter.unusedSimpArgs false
set_option linter.unusedVariables false
def m_slices_Clone_int_int : MC :=
(.seq (pr [.nilo 2 0 1] [0])
(.seq (.condN 3 4 (.s 0) (.seq (pr [.nilo 2 0 1] [2])
.ret) .skip)
(.seq (pr [.lit 5 0 1 8 [], .mv 6 (.s 0), .app 7 0 1 8 (.s 5) (.s 6), .mv 2 (.s 7)] [2])
.ret)))
theorem c_slices_Clone_int (xs : List Int) (hs : xs.length ≤ 1073741824) : Ctr Tryz.prog n_slices_Clone_int_int [aL 1 (xs.map encI)] [rL 1 (xs.map encI)] := by
 refine cA m_slices_Clone_int_int 1 8 [(.tmp 2, [true])] Tryz.func138 rfl rfl ?_; unfold m_slices_Clone_int_int
 intro hb
 clear hb
 simp only [↓reduceIte, reduceEqDiff, reduceLT, reduceAdd, reduceMul, reduceCtorEq, go_sem, ↓flat_of (f := encI) (fun _ => rfl) xs]
 refine ⟨fun h => ?_, ?_⟩
 ·rw [h]
 ·simp only [roomB]
  first | done | omega | (refine ⟨?_, ?_⟩ <;> first | omega | simp)
def m_slices_Clone_impl_Op_impl_Op : MC :=
(.seq (pr [.nilo 2 0 4] [0])
(.seq (.condN 3 4 (.s 0) (.seq (pr [.nilo 2 0 4] [2])
.ret) .skip)
(.seq (pr [.lit 5 0 4 32 [], .mv 6 (.s 0), .app 7 0 4 32 (.s 5) (.s 6), .mv 2 (.s 7)] [2])
.ret)))
theorem c_slices_Clone_Op (xs : List GOp) (hs : xs.length ≤ 1073741824) : Ctr Tryz.prog n_slices_Clone_impl_Op_impl_Op [aL 4 (xs.map GOp.enc)] [rL 4 (xs.map GOp.enc)] := by
 refine cA m_slices_Clone_impl_Op_impl_Op 1 8 [(.tmp 2, [true])] Tryz.func134 rfl rfl ?_; unfold m_slices_Clone_impl_Op_impl_Op
 intro hb
 clear hb
 simp only [↓reduceIte, reduceEqDiff, reduceLT, reduceAdd, reduceMul, reduceCtorEq, go_sem, ↓flat_of (f := GOp.enc) (fun _ => rfl) xs]
 refine ⟨fun h => ?_, ?_⟩
 ·rw [h]
 ·simp only [roomB]
  first | done | omega | (refine ⟨?_, ?_⟩ <;> first | omega | simp)
def m_slices_Clone_impl_Entry_impl_Entry : MC :=
(.seq (pr [.nilo 2 0 5] [0])
(.seq (.condN 3 4 (.s 0) (.seq (pr [.nilo 2 0 5] [2])
.ret) .skip)
(.seq (pr [.lit 5 0 5 40 [], .mv 6 (.s 0), .app 7 0 5 40 (.s 5) (.s 6), .mv 2 (.s 7)] [2])
.ret)))
theorem c_slices_Clone_Entry (xs : List GEntry) (hs : xs.length ≤ 1073741824) : Ctr Tryz.prog n_slices_Clone_impl_Entry_impl_Entry [aL 5 (xs.map GEntry.enc)] [rL 5 (xs.map GEntry.enc)] := by
 refine cA m_slices_Clone_impl_Entry_impl_Entry 1 8 [(.tmp 2, [true])] Tryz.func226 rfl rfl ?_; unfold m_slices_Clone_impl_Entry_impl_Entry
 intro hb
 clear hb
 simp only [↓reduceIte, reduceEqDiff, reduceLT, reduceAdd, reduceMul, reduceCtorEq, go_sem, ↓flat_of (f := GEntry.enc) (fun _ => rfl) xs]
 refine ⟨fun h => ?_, ?_⟩
 ·rw [h]
 ·simp only [roomB]
  first | done | omega | (refine ⟨?_, ?_⟩ <;> first | omega | simp)
def m_slices_Clone_impl_Exclusion_impl_Exclusion : MC :=
(.seq (pr [.nilo 2 0 5] [0])
(.seq (.condN 3 4 (.s 0) (.seq (pr [.nilo 2 0 5] [2])
.ret) .skip)
(.seq (pr [.lit 5 0 5 40 [], .mv 6 (.s 0), .app 7 0 5 40 (.s 5) (.s 6), .mv 2 (.s 7)] [2])
.ret)))
theorem c_slices_Clone_Exclusion (xs : List GExclusion) (hs : xs.length ≤ 1073741824) : Ctr Tryz.prog n_slices_Clone_impl_Exclusion_impl_Exclusion [aL 5 (xs.map GExclusion.enc)] [rL 5 (xs.map GExclusion.enc)] := by
 refine cA m_slices_Clone_impl_Exclusion_impl_Exclusion 1 8 [(.tmp 2, [true])] Tryz.func136 rfl rfl ?_; unfold m_slices_Clone_impl_Exclusion_impl_Exclusion
 intro hb
 clear hb
 simp only [↓reduceIte, reduceEqDiff, reduceLT, reduceAdd, reduceMul, reduceCtorEq, go_sem, ↓flat_of (f := GExclusion.enc) (fun _ => rfl) xs]
 refine ⟨fun h => ?_, ?_⟩
 ·rw [h]
 ·simp only [roomB]
  first | done | omega | (refine ⟨?_, ?_⟩ <;> first | omega | simp)
def m_slices_Clone_impl_Statement_impl_Statement : MC :=
(.seq (pr [.nilo 2 0 4] [0])
(.seq (.condN 3 4 (.s 0) (.seq (pr [.nilo 2 0 4] [2])
.ret) .skip)
(.seq (pr [.lit 5 0 4 32 [], .mv 6 (.s 0), .app 7 0 4 32 (.s 5) (.s 6), .mv 2 (.s 7)] [2])
.ret)))
theorem c_slices_Clone_Statement (xs : List GStatement) (hs : xs.length ≤ 1073741824) : Ctr Tryz.prog n_slices_Clone_impl_Statement_impl_Statement [aL 4 (xs.map GStatement.enc)] [rL 4 (xs.map GStatement.enc)] := by
 refine cA m_slices_Clone_impl_Statement_impl_Statement 1 8 [(.tmp 2, [true])] Tryz.func139 rfl rfl ?_; unfold m_slices_Clone_impl_Statement_impl_Statement
 intro hb
 clear hb
 simp only [↓reduceIte, reduceEqDiff, reduceLT, reduceAdd, reduceMul, reduceCtorEq, go_sem, ↓flat_of (f := GStatement.enc) (fun _ => rfl) xs]
 refine ⟨fun h => ?_, ?_⟩
 ·rw [h]
 ·simp only [roomB]
  first | done | omega | (refine ⟨?_, ?_⟩ <;> first | omega | simp)
def m_slices_Clone_impl_Found_impl_Found : MC :=
(.seq (pr [.nilo 2 0 6] [0])
(.seq (.condN 3 4 (.s 0) (.seq (pr [.nilo 2 0 6] [2])
.ret) .skip)
(.seq (pr [.lit 5 0 6 48 [], .mv 6 (.s 0), .app 7 0 6 48 (.s 5) (.s 6), .mv 2 (.s 7)] [2])
.ret)))
theorem c_slices_Clone_Found (xs : List GFound) (hs : xs.length ≤ 1073741824) : Ctr Tryz.prog n_slices_Clone_impl_Found_impl_Found [aL 6 (xs.map GFound.enc)] [rL 6 (xs.map GFound.enc)] := by
 refine cA m_slices_Clone_impl_Found_impl_Found 1 8 [(.tmp 2, [true])] Tryz.func200 rfl rfl ?_; unfold m_slices_Clone_impl_Found_impl_Found
 intro hb
 clear hb
 simp only [↓reduceIte, reduceEqDiff, reduceLT, reduceAdd, reduceMul, reduceCtorEq, go_sem, ↓flat_of (f := GFound.enc) (fun _ => rfl) xs]
 refine ⟨fun h => ?_, ?_⟩
 ·rw [h]
 ·simp only [roomB]
  first | done | omega | (refine ⟨?_, ?_⟩ <;> first | omega | simp)
end Go.Proofs.YtpclnmleldeleaaGreatR
namespace Go.Proofs.YtpclnmleldeleaaGreatR
open Go Go.RowKit Go.Proofs
open Nat (reduceEqDiff reduceLT reduceLeDiff reduceAdd reduceMul)
open List (reduceReplicate)
set_option linter.unusedSimpArgs false
set_option linter.unusedVariables false
theorem anyF_step {α : Type} {p : α → Bool} {l : List α} {k : Nat} {x : α} (hx : l[k]? = some x) (h : (l.take k).any p = false) (hn : p x = false) : (l.take (k + 1)).any p = false := by
 rw [take_snoc hx, List.any_append, h]
 simp [hn]
theorem any_here {α : Type} {p : α → Bool} {l : List α} {k : Nat} {x : α} (hx : l[k]? = some x) (hn : p x = true) : l.any p = true := List.any_eq_true.2 ⟨x, at_mem hx, hn⟩
def idxF {α : Type} (p : α → Bool) (l : List α) : Int := if l.any p then (l.takeWhile fun x => !p x).length else -1
theorem idxF_here {α : Type} {p : α → Bool} {l : List α} {k : Nat} {x : α} (hx : l[k]? = some x) (h : (l.take k).any p = false) (hn : p x = true) : idxF p l = k := by
 unfold idxF
 rw [any_here hx hn, if_pos rfl]
 congr 1
 have e : l = l.take k ++ x :: l.drop (k + 1) := take_drop_at hx
 rw [e, List.takeWhile_append_of_pos]
 ·simp [hn]
  have := len_at hx
  omega
 ·intro a ha
  have := List.any_eq_false.1 h a ha
  simpa using this
theorem idxF_none {α : Type} {p : α → Bool} {l : List α} (h : l.any p = false) : idxF p l = -1 := by
 unfold idxF; rw [h]; rfl
theorem idxF_ge {α : Type} {p : α → Bool} {l : List α} : decide (idxF p l ≥ 0) = l.any p := by
 unfold idxF
 cases l.any p <;> simp
def m_slices_Equal_int_int : MC :=
(.seq (pr [.mv 4 cF] [0,1])
(.seq (.seq (pr [.mv 6 (.s 0), .len 7 false (.s 6), .mv 8 (.s 1), .len 9 false (.s 8), .bin 10 false .neq (.s 7) (.s 9)] [0,1,10])
(.cond (.s 10) (.seq (pr [.mv 4 cF] [4])
.ret) .skip))
(.seq (.seq (pr [.mv 11 (.s 0), .len 12 false (.s 11), .mv 13 (ci 0)] [0,1,12,13])
(.block 0 (.loop ([0,1,12,13], []) (.seq (pr [.bin 14 false .lss (.s 13) (.s 12)] [0,1,12,13,14])
(.seq (.cond (.s 14) .skip (.exit 0))
(.seq (.block 1 (.seq (pr [.mv 15 (.s 13), .mv 5 (.s 15)] [0,1,5,12,13])
(.seq (.dreg [Zc [17,20,21,22,23] (.mv 16 (.s 0)), Zc [16,20,21,22,23] (.mv 17 (.s 5)), Zd [20,21,22,23] [0,1] (.idx 18 1 (.s 16) (.s 17)), Zd [20,21,22,23] [0,1,2] (.load 19 false 1 (.s 18)), Zc [16,17,18,19,21] (.mv 20 (.s 1)), Zc [16,17,18,19,20] (.mv 21 (.s 5)), Zd [16,17,18,19] [4,5] (.idx 22 1 (.s 20) (.s 21)), Zd [16,17,18,19] [4,5,6] (.load 23 false 1 (.s 22)), Ze (.range 8) (.bin 24 false .neq (.s 19) (.s 23))] [0,1,12,13,24])
(.cond (.s 24) (.seq (pr [.mv 4 cF] [4])
.ret) .skip))))
(pr [.bin 25 false .add (.s 13) (ci 1), .mv 13 (.s 25)] [0,1,12,13])))))))
(.seq (pr [.mv 4 cT] [4])
.ret))))
theorem c_slices_Equal_Int (xs ys : List Int) : Ctr Tryz.prog n_slices_Equal_int_int [aL 1 (xs.map encI), aL 1 (ys.map encI)] [rB (decide (xs = ys))] := by
 refine cA m_slices_Equal_int_int 0 26 [(.tmp 4, [false])] Tryz.func241 rfl rfl ?_; unfold m_slices_Equal_int_int
 intro hb
 simp only [bdA, bdL, bdT, bdR_map, roomB, and_true, List.length_map] at hb
 obtain ⟨⟨hl, -⟩, ⟨hl2, -⟩⟩ := hb
 simp only [↓reduceIte, reduceEqDiff, reduceLT, reduceCtorEq, go_sem]
 refine ⟨fun h => ne_len h, fun h => ?_⟩
 have hle : xs.length = ys.length := by omega
 refine loopK_rng xs (fun k => [(13, vI k)]) (fun k => []) (fun k => xs.take k = ys.take k) hl ?_
 simp only [↓reduceIte, reduceEqDiff, reduceCtorEq, go_sem]
 refine ⟨?_, rfl, ?_, ?_⟩
 ·simp only [↓reduceIte, reduceEqDiff, reduceLT, reduceCtorEq, go_sem]
 ·intro k x hx he h0 h1 hw
  obtain ⟨y, hy⟩ := at_some (show k < ys.length by omega)
  have h2 : (k : Int) < ys.length := by omega
  simp only [↓reduceIte, reduceEqDiff, reduceLT, reduceCtorEq, go_sem, bk_eq hx, bk_eq hy, h0, h1, h2, hw]
  exact ⟨fun hn => ne_at hx hy (by simpa using hn), fun hn => (take_eq_step hx hy he).2 (by simpa using hn)⟩
 ·intro he
  simp only [↓reduceIte, reduceEqDiff, reduceLT, reduceCtorEq, go_sem]
  exact eq_all he hle
def encS (s : ByteArray) : List T := [tS s]
attribute [go_sem] encS
abbrev aStr (s : ByteArray) : Bool × List T := (false, [tS s])
attribute [go_sem] aStr
def m_slices_IndexFunc_impl_Version_impl_Version : MC :=
(.seq (pr [.mv 4 (ci 0)] [0,1])
(.seq (.seq (pr [.mv 6 (.s 0), .len 7 false (.s 6), .mv 8 (ci 0)] [0,1,7,8])
(.block 0 (.loop ([0,1,7,8], []) (.seq (pr [.bin 9 false .lss (.s 8) (.s 7)] [0,1,7,8,9])
(.seq (.cond (.s 9) .skip (.exit 0))
(.seq (.block 1 (.seq (pr [.mv 10 (.s 8), .mv 5 (.s 10)] [0,1,5,7,8])
(.seq (pr [.mv 11 (.s 1), .mv 12 (.s 0), .mv 13 (.s 5), .idx 14 9 (.s 12) (.s 13), .load 15 true 9 (.s 14), .call 16 [] (.s 11) [.s 15]] [0,1,5,7,8,16])
(.cond (.s 16) (.seq (pr [.mv 17 (.s 5), .mv 4 (.s 17)] [4])
.ret) .skip))))
(pr [.bin 18 false .add (.s 8) (ci 1), .mv 8 (.s 18)] [0,1,7,8])))))))
(.seq (pr [.mv 4 (.c (.int .i64 (-1)))] [4])
.ret)))
theorem c_slices_IndexFunc_Version (xs : List GVersion) (f : FuncId) (cs : List T) (p : GVersion → Bool) (hp : ∀ x, x ∈ xs → Ctr Tryz.prog f (aS (GVersion.enc x) :: cs.map (fun t => (false, [t]))) [rB (p x)]) : Ctr Tryz.prog n_slices_IndexFunc_impl_Version_impl_Version [aL 9 (xs.map GVersion.enc), (false, [.fn f cs])] [rI (idxF p xs)] := by
 refine cA m_slices_IndexFunc_impl_Version_impl_Version 0 19 [(.tmp 4, [false])] Tryz.func201 rfl rfl ?_; unfold m_slices_IndexFunc_impl_Version_impl_Version
 intro hb
 simp only [bdA, bdL, bdT, bdR_map, roomB, and_true, List.length_map] at hb
 obtain ⟨⟨hl, -⟩, -⟩ := hb
 simp only [↓reduceIte, reduceEqDiff, reduceLT, reduceCtorEq, go_sem]
 refine loopK_rng xs (fun k => [(8, vI k)]) (fun k => []) (fun k => (xs.take k).any p = false) hl ?_
 simp only [↓reduceIte, reduceEqDiff, reduceCtorEq, go_sem]
 refine ⟨?_, by simp, ?_, ?_⟩
 ·simp only [↓reduceIte, reduceEqDiff, reduceLT, reduceCtorEq, go_sem]
 ·intro k x hx h h0 h1 hw
  simp only [↓reduceIte, reduceEqDiff, reduceLT, reduceAdd, reduceCtorEq, go_sem, bk_eq hx, h0, h1]
  refine callK_of (hp x (at_mem hx)) ?_
  simp only [↓reduceIte, reduceEqDiff, reduceLT, reduceCtorEq, go_sem, hw]
  exact ⟨fun hn => (idxF_here hx h hn).symm, fun hn => anyF_step hx h hn⟩
 ·intro h
  simp only [↓reduceIte, reduceEqDiff, reduceLT, reduceCtorEq, go_sem]
  rw [List.take_length] at h
  rw [idxF_none h]
def m_slices_ContainsFunc_impl_Version_impl_Version : MC :=
(.seq (pr [.mv 4 cF] [0,1])
(.seq (pr [.mv 5 (.s 0), .mv 6 (.s 1), .call 7 [] (.f n_slices_IndexFunc_impl_Version_impl_Version) [.s 5, .s 6], .bin 8 false .geq (.s 7) (ci 0), .mv 4 (.s 8)] [4])
.ret))
theorem c_slices_ContainsFunc_Version (xs : List GVersion) (f : FuncId) (cs : List T) (p : GVersion → Bool) (hp : ∀ x, x ∈ xs → Ctr Tryz.prog f (aS (GVersion.enc x) :: cs.map (fun t => (false, [t]))) [rB (p x)]) : Ctr Tryz.prog n_slices_ContainsFunc_impl_Version_impl_Version [aL 9 (xs.map GVersion.enc), (false, [.fn f cs])] [rB (xs.any p)] := by
 refine cA m_slices_ContainsFunc_impl_Version_impl_Version 0 9 [(.tmp 4, [false])] Tryz.func141 rfl rfl ?_; unfold m_slices_ContainsFunc_impl_Version_impl_Version
 intro hb
 clear hb
 simp only [↓reduceIte, reduceEqDiff, reduceLT, reduceCtorEq, go_sem]
 refine callK_of (c_slices_IndexFunc_Version xs f cs p hp) ?_
 simp only [↓reduceIte, reduceEqDiff, reduceLT, reduceCtorEq, go_sem]
 intros
 exact idxF_ge
def m_slices_IndexFunc_impl_Op_impl_Op : MC :=
(.seq (pr [.mv 4 (ci 0)] [0,1])
(.seq (.seq (pr [.mv 6 (.s 0), .len 7 false (.s 6), .mv 8 (ci 0)] [0,1,7,8])
(.block 0 (.loop ([0,1,7,8], []) (.seq (pr [.bin 9 false .lss (.s 8) (.s 7)] [0,1,7,8,9])
(.seq (.cond (.s 9) .skip (.exit 0))
(.seq (.block 1 (.seq (pr [.mv 10 (.s 8), .mv 5 (.s 10)] [0,1,5,7,8])
(.seq (pr [.mv 11 (.s 1), .mv 12 (.s 0), .mv 13 (.s 5), .idx 14 4 (.s 12) (.s 13), .load 15 true 4 (.s 14), .call 16 [] (.s 11) [.s 15]] [0,1,5,7,8,16])
(.cond (.s 16) (.seq (pr [.mv 17 (.s 5), .mv 4 (.s 17)] [4])
.ret) .skip))))
(pr [.bin 18 false .add (.s 8) (ci 1), .mv 8 (.s 18)] [0,1,7,8])))))))
(.seq (pr [.mv 4 (.c (.int .i64 (-1)))] [4])
.ret)))
theorem c_slices_IndexFunc_Op (xs : List GOp) (f : FuncId) (cs : List T) (p : GOp → Bool) (hp : ∀ x, x ∈ xs → Ctr Tryz.prog f (aS (GOp.enc x) :: cs.map (fun t => (false, [t]))) [rB (p x)]) : Ctr Tryz.prog n_slices_IndexFunc_impl_Op_impl_Op [aL 4 (xs.map GOp.enc), (false, [.fn f cs])] [rI (idxF p xs)] := by
 refine cA m_slices_IndexFunc_impl_Op_impl_Op 0 19 [(.tmp 4, [false])] Tryz.func238 rfl rfl ?_; unfold m_slices_IndexFunc_impl_Op_impl_Op
 intro hb
 simp only [bdA, bdL, bdT, bdR_map, roomB, and_true, List.length_map] at hb
 obtain ⟨⟨hl, -⟩, -⟩ := hb
 simp only [↓reduceIte, reduceEqDiff, reduceLT, reduceCtorEq, go_sem]
 refine loopK_rng xs (fun k => [(8, vI k)]) (fun k => []) (fun k => (xs.take k).any p = false) hl ?_
 simp only [↓reduceIte, reduceEqDiff, reduceCtorEq, go_sem]
 refine ⟨?_, by simp, ?_, ?_⟩
 ·simp only [↓reduceIte, reduceEqDiff, reduceLT, reduceCtorEq, go_sem]
 ·intro k x hx h h0 h1 hw
  simp only [↓reduceIte, reduceEqDiff, reduceLT, reduceAdd, reduceCtorEq, go_sem, bk_eq hx, h0, h1]
  refine callK_of (hp x (at_mem hx)) ?_
  simp only [↓reduceIte, reduceEqDiff, reduceLT, reduceCtorEq, go_sem, hw]
  exact ⟨fun hn => (idxF_here hx h hn).symm, fun hn => anyF_step hx h hn⟩
 ·intro h
  simp only [↓reduceIte, reduceEqDiff, reduceLT, reduceCtorEq, go_sem]
  rw [List.take_length] at h
  rw [idxF_none h]
def m_slices_ContainsFunc_impl_Op_impl_Op : MC :=
(.seq (pr [.mv 4 cF] [0,1])
(.seq (pr [.mv 5 (.s 0), .mv 6 (.s 1), .call 7 [] (.f n_slices_IndexFunc_impl_Op_impl_Op) [.s 5, .s 6], .bin 8 false .geq (.s 7) (ci 0), .mv 4 (.s 8)] [4])
.ret))
theorem c_slices_ContainsFunc_Op (xs : List GOp) (f : FuncId) (cs : List T) (p : GOp → Bool) (hp : ∀ x, x ∈ xs → Ctr Tryz.prog f (aS (GOp.enc x) :: cs.map (fun t => (false, [t]))) [rB (p x)]) : Ctr Tryz.prog n_slices_ContainsFunc_impl_Op_impl_Op [aL 4 (xs.map GOp.enc), (false, [.fn f cs])] [rB (xs.any p)] := by
 refine cA m_slices_ContainsFunc_impl_Op_impl_Op 0 9 [(.tmp 4, [false])] Tryz.func183 rfl rfl ?_; unfold m_slices_ContainsFunc_impl_Op_impl_Op
 intro hb
 clear hb
 simp only [↓reduceIte, reduceEqDiff, reduceLT, reduceCtorEq, go_sem]
 refine callK_of (c_slices_IndexFunc_Op xs f cs p hp) ?_
 simp only [↓reduceIte, reduceEqDiff, reduceLT, reduceCtorEq, go_sem]
 intros
 exact idxF_ge
def m_slices_IndexFunc_impl_Entry_impl_Entry : MC :=
(.seq (pr [.mv 4 (ci 0)] [0,1])
(.seq (.seq (pr [.mv 6 (.s 0), .len 7 false (.s 6), .mv 8 (ci 0)] [0,1,7,8])
(.block 0 (.loop ([0,1,7,8], []) (.seq (pr [.bin 9 false .lss (.s 8) (.s 7)] [0,1,7,8,9])
(.seq (.cond (.s 9) .skip (.exit 0))
(.seq (.block 1 (.seq (pr [.mv 10 (.s 8), .mv 5 (.s 10)] [0,1,5,7,8])
(.seq (pr [.mv 11 (.s 1), .mv 12 (.s 0), .mv 13 (.s 5), .idx 14 5 (.s 12) (.s 13), .load 15 true 5 (.s 14), .call 16 [] (.s 11) [.s 15]] [0,1,5,7,8,16])
(.cond (.s 16) (.seq (pr [.mv 17 (.s 5), .mv 4 (.s 17)] [4])
.ret) .skip))))
(pr [.bin 18 false .add (.s 8) (ci 1), .mv 8 (.s 18)] [0,1,7,8])))))))
(.seq (pr [.mv 4 (.c (.int .i64 (-1)))] [4])
.ret)))
theorem c_slices_IndexFunc_Entry (xs : List GEntry) (f : FuncId) (cs : List T) (p : GEntry → Bool) (hp : ∀ x, x ∈ xs → Ctr Tryz.prog f (aS (GEntry.enc x) :: cs.map (fun t => (false, [t]))) [rB (p x)]) : Ctr Tryz.prog n_slices_IndexFunc_impl_Entry_impl_Entry [aL 5 (xs.map GEntry.enc), (false, [.fn f cs])] [rI (idxF p xs)] := by
 refine cA m_slices_IndexFunc_impl_Entry_impl_Entry 0 19 [(.tmp 4, [false])] Tryz.func293 rfl rfl ?_; unfold m_slices_IndexFunc_impl_Entry_impl_Entry
 intro hb
 simp only [bdA, bdL, bdT, bdR_map, roomB, and_true, List.length_map] at hb
 obtain ⟨⟨hl, -⟩, -⟩ := hb
 simp only [↓reduceIte, reduceEqDiff, reduceLT, reduceCtorEq, go_sem]
 refine loopK_rng xs (fun k => [(8, vI k)]) (fun k => []) (fun k => (xs.take k).any p = false) hl ?_
 simp only [↓reduceIte, reduceEqDiff, reduceCtorEq, go_sem]
 refine ⟨?_, by simp, ?_, ?_⟩
 ·simp only [↓reduceIte, reduceEqDiff, reduceLT, reduceCtorEq, go_sem]
 ·intro k x hx h h0 h1 hw
  simp only [↓reduceIte, reduceEqDiff, reduceLT, reduceAdd, reduceCtorEq, go_sem, bk_eq hx, h0, h1]
  refine callK_of (hp x (at_mem hx)) ?_
  simp only [↓reduceIte, reduceEqDiff, reduceLT, reduceCtorEq, go_sem, hw]
  exact ⟨fun hn => (idxF_here hx h hn).symm, fun hn => anyF_step hx h hn⟩
 ·intro h
  simp only [↓reduceIte, reduceEqDiff, reduceLT, reduceCtorEq, go_sem]
  rw [List.take_length] at h
  rw [idxF_none h]
def m_slices_ContainsFunc_impl_Entry_impl_Entry : MC :=
(.seq (pr [.mv 4 cF] [0,1])
(.seq (pr [.mv 5 (.s 0), .mv 6 (.s 1), .call 7 [] (.f n_slices_IndexFunc_impl_Entry_impl_Entry) [.s 5, .s 6], .bin 8 false .geq (.s 7) (ci 0), .mv 4 (.s 8)] [4])
.ret))
theorem c_slices_ContainsFunc_Entry (xs : List GEntry) (f : FuncId) (cs : List T) (p : GEntry → Bool) (hp : ∀ x, x ∈ xs → Ctr Tryz.prog f (aS (GEntry.enc x) :: cs.map (fun t => (false, [t]))) [rB (p x)]) : Ctr Tryz.prog n_slices_ContainsFunc_impl_Entry_impl_Entry [aL 5 (xs.map GEntry.enc), (false, [.fn f cs])] [rB (xs.any p)] := by
 refine cA m_slices_ContainsFunc_impl_Entry_impl_Entry 0 9 [(.tmp 4, [false])] Tryz.func270 rfl rfl ?_; unfold m_slices_ContainsFunc_impl_Entry_impl_Entry
 intro hb
 clear hb
 simp only [↓reduceIte, reduceEqDiff, reduceLT, reduceCtorEq, go_sem]
 refine callK_of (c_slices_IndexFunc_Entry xs f cs p hp) ?_
 simp only [↓reduceIte, reduceEqDiff, reduceLT, reduceCtorEq, go_sem]
 intros
 exact idxF_ge
def m_slices_IndexFunc_impl_Capture_impl_Capture : MC :=
(.seq (pr [.mv 4 (ci 0)] [0,1])
(.seq (.seq (pr [.mv 6 (.s 0), .len 7 false (.s 6), .mv 8 (ci 0)] [0,1,7,8])
(.block 0 (.loop ([0,1,7,8], []) (.seq (pr [.bin 9 false .lss (.s 8) (.s 7)] [0,1,7,8,9])
(.seq (.cond (.s 9) .skip (.exit 0))
(.seq (.block 1 (.seq (pr [.mv 10 (.s 8), .mv 5 (.s 10)] [0,1,5,7,8])
(.seq (pr [.mv 11 (.s 1), .mv 12 (.s 0), .mv 13 (.s 5), .idx 14 9 (.s 12) (.s 13), .load 15 true 9 (.s 14), .call 16 [] (.s 11) [.s 15]] [0,1,5,7,8,16])
(.cond (.s 16) (.seq (pr [.mv 17 (.s 5), .mv 4 (.s 17)] [4])
.ret) .skip))))
(pr [.bin 18 false .add (.s 8) (ci 1), .mv 8 (.s 18)] [0,1,7,8])))))))
(.seq (pr [.mv 4 (.c (.int .i64 (-1)))] [4])
.ret)))
theorem c_slices_IndexFunc_Capture (xs : List GCapture) (f : FuncId) (cs : List T) (p : GCapture → Bool) (hp : ∀ x, x ∈ xs → Ctr Tryz.prog f (aS (GCapture.enc x) :: cs.map (fun t => (false, [t]))) [rB (p x)]) : Ctr Tryz.prog n_slices_IndexFunc_impl_Capture_impl_Capture [aL 9 (xs.map GCapture.enc), (false, [.fn f cs])] [rI (idxF p xs)] := by
 refine cA m_slices_IndexFunc_impl_Capture_impl_Capture 0 19 [(.tmp 4, [false])] Tryz.func114 rfl rfl ?_; unfold m_slices_IndexFunc_impl_Capture_impl_Capture
 intro hb
 simp only [bdA, bdL, bdT, bdR_map, roomB, and_true, List.length_map] at hb
 obtain ⟨⟨hl, -⟩, -⟩ := hb
 simp only [↓reduceIte, reduceEqDiff, reduceLT, reduceCtorEq, go_sem]
 refine loopK_rng xs (fun k => [(8, vI k)]) (fun k => []) (fun k => (xs.take k).any p = false) hl ?_
 simp only [↓reduceIte, reduceEqDiff, reduceCtorEq, go_sem]
 refine ⟨?_, by simp, ?_, ?_⟩
 ·simp only [↓reduceIte, reduceEqDiff, reduceLT, reduceCtorEq, go_sem]
 ·intro k x hx h h0 h1 hw
  simp only [↓reduceIte, reduceEqDiff, reduceLT, reduceAdd, reduceCtorEq, go_sem, bk_eq hx, h0, h1]
  refine callK_of (hp x (at_mem hx)) ?_
  simp only [↓reduceIte, reduceEqDiff, reduceLT, reduceCtorEq, go_sem, hw]
  exact ⟨fun hn => (idxF_here hx h hn).symm, fun hn => anyF_step hx h hn⟩
 ·intro h
  simp only [↓reduceIte, reduceEqDiff, reduceLT, reduceCtorEq, go_sem]
  rw [List.take_length] at h
  rw [idxF_none h]
def m_slices_ContainsFunc_impl_Capture_impl_Capture : MC :=
(.seq (pr [.mv 4 cF] [0,1])
(.seq (pr [.mv 5 (.s 0), .mv 6 (.s 1), .call 7 [] (.f n_slices_IndexFunc_impl_Capture_impl_Capture) [.s 5, .s 6], .bin 8 false .geq (.s 7) (ci 0), .mv 4 (.s 8)] [4])
.ret))
theorem c_slices_ContainsFunc_Capture (xs : List GCapture) (f : FuncId) (cs : List T) (p : GCapture → Bool) (hp : ∀ x, x ∈ xs → Ctr Tryz.prog f (aS (GCapture.enc x) :: cs.map (fun t => (false, [t]))) [rB (p x)]) : Ctr Tryz.prog n_slices_ContainsFunc_impl_Capture_impl_Capture [aL 9 (xs.map GCapture.enc), (false, [.fn f cs])] [rB (xs.any p)] := by
 refine cA m_slices_ContainsFunc_impl_Capture_impl_Capture 0 9 [(.tmp 4, [false])] Tryz.func273 rfl rfl ?_; unfold m_slices_ContainsFunc_impl_Capture_impl_Capture
 intro hb
 clear hb
 simp only [↓reduceIte, reduceEqDiff, reduceLT, reduceCtorEq, go_sem]
 refine callK_of (c_slices_IndexFunc_Capture xs f cs p hp) ?_
 simp only [↓reduceIte, reduceEqDiff, reduceLT, reduceCtorEq, go_sem]
 intros
 exact idxF_ge
def m_slices_IndexFunc_impl_Exclusion_impl_Exclusion : MC :=
(.seq (pr [.mv 4 (ci 0)] [0,1])
(.seq (.seq (pr [.mv 6 (.s 0), .len 7 false (.s 6), .mv 8 (ci 0)] [0,1,7,8])
(.block 0 (.loop ([0,1,7,8], []) (.seq (pr [.bin 9 false .lss (.s 8) (.s 7)] [0,1,7,8,9])
(.seq (.cond (.s 9) .skip (.exit 0))
(.seq (.block 1 (.seq (pr [.mv 10 (.s 8), .mv 5 (.s 10)] [0,1,5,7,8])
(.seq (pr [.mv 11 (.s 1), .mv 12 (.s 0), .mv 13 (.s 5), .idx 14 5 (.s 12) (.s 13), .load 15 true 5 (.s 14), .call 16 [] (.s 11) [.s 15]] [0,1,5,7,8,16])
(.cond (.s 16) (.seq (pr [.mv 17 (.s 5), .mv 4 (.s 17)] [4])
.ret) .skip))))
(pr [.bin 18 false .add (.s 8) (ci 1), .mv 8 (.s 18)] [0,1,7,8])))))))
(.seq (pr [.mv 4 (.c (.int .i64 (-1)))] [4])
.ret)))
theorem c_slices_IndexFunc_Exclusion (xs : List GExclusion) (f : FuncId) (cs : List T) (p : GExclusion → Bool) (hp : ∀ x, x ∈ xs → Ctr Tryz.prog f (aS (GExclusion.enc x) :: cs.map (fun t => (false, [t]))) [rB (p x)]) : Ctr Tryz.prog n_slices_IndexFunc_impl_Exclusion_impl_Exclusion [aL 5 (xs.map GExclusion.enc), (false, [.fn f cs])] [rI (idxF p xs)] := by
 refine cA m_slices_IndexFunc_impl_Exclusion_impl_Exclusion 0 19 [(.tmp 4, [false])] Tryz.func190 rfl rfl ?_; unfold m_slices_IndexFunc_impl_Exclusion_impl_Exclusion
 intro hb
 simp only [bdA, bdL, bdT, bdR_map, roomB, and_true, List.length_map] at hb
 obtain ⟨⟨hl, -⟩, -⟩ := hb
 simp only [↓reduceIte, reduceEqDiff, reduceLT, reduceCtorEq, go_sem]
 refine loopK_rng xs (fun k => [(8, vI k)]) (fun k => []) (fun k => (xs.take k).any p = false) hl ?_
 simp only [↓reduceIte, reduceEqDiff, reduceCtorEq, go_sem]
 refine ⟨?_, by simp, ?_, ?_⟩
 ·simp only [↓reduceIte, reduceEqDiff, reduceLT, reduceCtorEq, go_sem]
 ·intro k x hx h h0 h1 hw
  simp only [↓reduceIte, reduceEqDiff, reduceLT, reduceAdd, reduceCtorEq, go_sem, bk_eq hx, h0, h1]
  refine callK_of (hp x (at_mem hx)) ?_
  simp only [↓reduceIte, reduceEqDiff, reduceLT, reduceCtorEq, go_sem, hw]
  exact ⟨fun hn => (idxF_here hx h hn).symm, fun hn => anyF_step hx h hn⟩
 ·intro h
  simp only [↓reduceIte, reduceEqDiff, reduceLT, reduceCtorEq, go_sem]
  rw [List.take_length] at h
  rw [idxF_none h]
def m_slices_ContainsFunc_impl_Exclusion_impl_Exclusion : MC :=
(.seq (pr [.mv 4 cF] [0,1])
(.seq (pr [.mv 5 (.s 0), .mv 6 (.s 1), .call 7 [] (.f n_slices_IndexFunc_impl_Exclusion_impl_Exclusion) [.s 5, .s 6], .bin 8 false .geq (.s 7) (ci 0), .mv 4 (.s 8)] [4])
.ret))
theorem c_slices_ContainsFunc_Exclusion (xs : List GExclusion) (f : FuncId) (cs : List T) (p : GExclusion → Bool) (hp : ∀ x, x ∈ xs → Ctr Tryz.prog f (aS (GExclusion.enc x) :: cs.map (fun t => (false, [t]))) [rB (p x)]) : Ctr Tryz.prog n_slices_ContainsFunc_impl_Exclusion_impl_Exclusion [aL 5 (xs.map GExclusion.enc), (false, [.fn f cs])] [rB (xs.any p)] := by
 refine cA m_slices_ContainsFunc_impl_Exclusion_impl_Exclusion 0 9 [(.tmp 4, [false])] Tryz.func108 rfl rfl ?_; unfold m_slices_ContainsFunc_impl_Exclusion_impl_Exclusion
 intro hb
 clear hb
 simp only [↓reduceIte, reduceEqDiff, reduceLT, reduceCtorEq, go_sem]
 refine callK_of (c_slices_IndexFunc_Exclusion xs f cs p hp) ?_
 simp only [↓reduceIte, reduceEqDiff, reduceLT, reduceCtorEq, go_sem]
 intros
 exact idxF_ge
def m_slices_IndexFunc_impl_Container_impl_Container : MC :=
(.seq (pr [.mv 4 (ci 0)] [0,1])
(.seq (.seq (pr [.mv 6 (.s 0), .len 7 false (.s 6), .mv 8 (ci 0)] [0,1,7,8])
(.block 0 (.loop ([0,1,7,8], []) (.seq (pr [.bin 9 false .lss (.s 8) (.s 7)] [0,1,7,8,9])
(.seq (.cond (.s 9) .skip (.exit 0))
(.seq (.block 1 (.seq (pr [.mv 10 (.s 8), .mv 5 (.s 10)] [0,1,5,7,8])
(.seq (pr [.mv 11 (.s 1), .mv 12 (.s 0), .mv 13 (.s 5), .idx 14 4 (.s 12) (.s 13), .load 15 true 4 (.s 14), .call 16 [] (.s 11) [.s 15]] [0,1,5,7,8,16])
(.cond (.s 16) (.seq (pr [.mv 17 (.s 5), .mv 4 (.s 17)] [4])
.ret) .skip))))
(pr [.bin 18 false .add (.s 8) (ci 1), .mv 8 (.s 18)] [0,1,7,8])))))))
(.seq (pr [.mv 4 (.c (.int .i64 (-1)))] [4])
.ret)))
theorem c_slices_IndexFunc_Container (xs : List GContainer) (f : FuncId) (cs : List T) (p : GContainer → Bool) (hp : ∀ x, x ∈ xs → Ctr Tryz.prog f (aS (GContainer.enc x) :: cs.map (fun t => (false, [t]))) [rB (p x)]) : Ctr Tryz.prog n_slices_IndexFunc_impl_Container_impl_Container [aL 4 (xs.map GContainer.enc), (false, [.fn f cs])] [rI (idxF p xs)] := by
 refine cA m_slices_IndexFunc_impl_Container_impl_Container 0 19 [(.tmp 4, [false])] Tryz.func240 rfl rfl ?_; unfold m_slices_IndexFunc_impl_Container_impl_Container
 intro hb
 simp only [bdA, bdL, bdT, bdR_map, roomB, and_true, List.length_map] at hb
 obtain ⟨⟨hl, -⟩, -⟩ := hb
 simp only [↓reduceIte, reduceEqDiff, reduceLT, reduceCtorEq, go_sem]
 refine loopK_rng xs (fun k => [(8, vI k)]) (fun k => []) (fun k => (xs.take k).any p = false) hl ?_
 simp only [↓reduceIte, reduceEqDiff, reduceCtorEq, go_sem]
 refine ⟨?_, by simp, ?_, ?_⟩
 ·simp only [↓reduceIte, reduceEqDiff, reduceLT, reduceCtorEq, go_sem]
 ·intro k x hx h h0 h1 hw
  simp only [↓reduceIte, reduceEqDiff, reduceLT, reduceAdd, reduceCtorEq, go_sem, bk_eq hx, h0, h1]
  refine callK_of (hp x (at_mem hx)) ?_
  simp only [↓reduceIte, reduceEqDiff, reduceLT, reduceCtorEq, go_sem, hw]
  exact ⟨fun hn => (idxF_here hx h hn).symm, fun hn => anyF_step hx h hn⟩
 ·intro h
  simp only [↓reduceIte, reduceEqDiff, reduceLT, reduceCtorEq, go_sem]
  rw [List.take_length] at h
  rw [idxF_none h]
def m_slices_ContainsFunc_impl_Container_impl_Container : MC :=
(.seq (pr [.mv 4 cF] [0,1])
(.seq (pr [.mv 5 (.s 0), .mv 6 (.s 1), .call 7 [] (.f n_slices_IndexFunc_impl_Container_impl_Container) [.s 5, .s 6], .bin 8 false .geq (.s 7) (ci 0), .mv 4 (.s 8)] [4])
.ret))
theorem c_slices_ContainsFunc_Container (xs : List GContainer) (f : FuncId) (cs : List T) (p : GContainer → Bool) (hp : ∀ x, x ∈ xs → Ctr Tryz.prog f (aS (GContainer.enc x) :: cs.map (fun t => (false, [t]))) [rB (p x)]) : Ctr Tryz.prog n_slices_ContainsFunc_impl_Container_impl_Container [aL 4 (xs.map GContainer.enc), (false, [.fn f cs])] [rB (xs.any p)] := by
 refine cA m_slices_ContainsFunc_impl_Container_impl_Container 0 9 [(.tmp 4, [false])] Tryz.func186 rfl rfl ?_; unfold m_slices_ContainsFunc_impl_Container_impl_Container
 intro hb
 clear hb
 simp only [↓reduceIte, reduceEqDiff, reduceLT, reduceCtorEq, go_sem]
 refine callK_of (c_slices_IndexFunc_Container xs f cs p hp) ?_
 simp only [↓reduceIte, reduceEqDiff, reduceLT, reduceCtorEq, go_sem]
 intros
 exact idxF_ge
def m_slices_Equal_impl_Found_impl_Found : MC :=
(.seq (pr [.mv 4 cF] [0,1])
(.seq (.seq (pr [.mv 6 (.s 0), .len 7 false (.s 6), .mv 8 (.s 1), .len 9 false (.s 8), .bin 10 false .neq (.s 7) (.s 9)] [0,1,10])
(.cond (.s 10) (.seq (pr [.mv 4 cF] [4])
.ret) .skip))
(.seq (.seq (pr [.mv 11 (.s 0), .len 12 false (.s 11), .mv 13 (ci 0)] [0,1,12,13])
(.block 0 (.loop ([0,1,12,13], []) (.seq (pr [.bin 14 false .lss (.s 13) (.s 12)] [0,1,12,13,14])
(.seq (.cond (.s 14) .skip (.exit 0))
(.seq (.block 1 (.seq (pr [.mv 15 (.s 13), .mv 5 (.s 15)] [0,1,5,12,13])
(.seq (.dreg [Zc [17,20,21,22,23] (.mv 16 (.s 0)), Zc [16,20,21,22,23] (.mv 17 (.s 5)), Zd [20,21,22,23] [0,1] (.idx 18 6 (.s 16) (.s 17)), Zd [20,21,22,23] [0,1,2] (.load 19 true 6 (.s 18)), Zc [16,17,18,19,21] (.mv 20 (.s 1)), Zc [16,17,18,19,20] (.mv 21 (.s 5)), Zd [16,17,18,19] [4,5] (.idx 22 6 (.s 20) (.s 21)), Zd [16,17,18,19] [4,5,6] (.load 23 true 6 (.s 22)), Ze (.range 8) (.eqA 24 true [.i .i64, .i .i64, .i .i64, .i .i64, .i .i64, .i .i64] (.s 19) (.s 23))] [0,1,12,13,24])
(.cond (.s 24) (.seq (pr [.mv 4 cF] [4])
.ret) .skip))))
(pr [.bin 25 false .add (.s 13) (ci 1), .mv 13 (.s 25)] [0,1,12,13])))))))
(.seq (pr [.mv 4 cT] [4])
.ret))))
theorem c_slices_Equal_Found (xs ys : List GFound) : Ctr Tryz.prog n_slices_Equal_impl_Found_impl_Found [aL 6 (xs.map GFound.enc), aL 6 (ys.map GFound.enc)] [rB (decide (xs = ys))] := by
 refine cA m_slices_Equal_impl_Found_impl_Found 0 26 [(.tmp 4, [false])] Tryz.func188 rfl rfl ?_; unfold m_slices_Equal_impl_Found_impl_Found
 intro hb
 simp only [bdA, bdL, bdT, bdR_map, roomB, and_true, List.length_map] at hb
 obtain ⟨⟨hl, -⟩, ⟨hl2, -⟩⟩ := hb
 simp only [↓reduceIte, reduceEqDiff, reduceLT, reduceCtorEq, go_sem]
 refine ⟨fun h => ne_len h, fun h => ?_⟩
 have hle : xs.length = ys.length := by omega
 refine loopK_rng xs (fun k => [(13, vI k)]) (fun k => []) (fun k => xs.take k = ys.take k) hl ?_
 simp only [↓reduceIte, reduceEqDiff, reduceCtorEq, go_sem]
 refine ⟨?_, rfl, ?_, ?_⟩
 ·simp only [↓reduceIte, reduceEqDiff, reduceLT, reduceCtorEq, go_sem]
 ·intro k x hx he h0 h1 hw
  obtain ⟨y, hy⟩ := at_some (show k < ys.length by omega)
  have h2 : (k : Int) < ys.length := by omega
  simp only [↓reduceIte, reduceEqDiff, reduceLT, reduceAdd, reduceCtorEq, go_sem, bk_eq hx, bk_eq hy, h0, h1, h2, hw, eqB]
  exact ⟨fun hn => ne_at hx hy (by rintro rfl; simp at hn), fun hn => (take_eq_step hx hy he).2 (by exact GFound.eqv.2 (by simpa using hn))⟩
 ·intro he
  simp only [↓reduceIte, reduceEqDiff, reduceLT, reduceCtorEq, go_sem]
  exact eq_all he hle
end Go.Proofs.YtpclnmleldeleaaGreatR
namespace Go.Proofs.YtpclnmleldeleaaGreatR
open Go Go.RowKit Go.Proofs
open Nat (reduceEqDiff reduceLT reduceLeDiff reduceAdd reduceMul)
open List (reduceReplicate)
set_option linter.unusedSimpArgs false
set_option linter.unusedVariables false
attribute [go_sem] eqB
def m_spec_l1In : MC :=
(.seq (pr [.mv 6 cF] [0,1,2])
(.seq (.reg [Za (.mv 7 (.s 0)), Za (.mv 8 (.s 1)), Za (.bin 9 false .geq (.s 7) (.s 8)), Za (.mv 10 (.s 9)), Zb 10 true (.mv 11 (.s 0)), Zb 10 true (.mv 12 (.s 2)), Zb 10 true (.bin 13 false .leq (.s 11) (.s 12)), Za (.pick 14 (.s 10) (.s 13) cF), Za (.mv 6 (.s 14))] [6])
.ret))
theorem c_spec_l1In (x a b : Int) : Ctr Tryz.prog n_spec_l1In [aI x, aI a, aI b] [rB (decide (a ≤ x ∧ x ≤ b))] := by
 refine cA m_spec_l1In 0 15 [(.tmp 6, [false])] Tryz.func104 rfl rfl ?_; unfold m_spec_l1In
 intro hb
 clear hb
 simp only [↓reduceIte, reduceEqDiff, reduceLT, reduceAdd, reduceCtorEq, go_sem]
 exact ⟨fun h => by simp [h], fun h => by simp; omega⟩
def m_impl_at : MC :=
(.seq (pr [.mv 4 cF] [0,1])
(.seq (.reg [Za (.mv 5 (.s 0)), Za (.bin 6 false .geq (.s 5) (ci 0)), Za (.mv 7 (.s 6)), Zb 7 true (.mv 8 (.s 0)), Zb 7 true (.mv 9 (.s 1)), Zb 7 true (.bin 10 false .lss (.s 8) (.s 9)), Za (.pick 11 (.s 7) (.s 10) cF), Za (.mv 4 (.s 11))] [4])
.ret))
theorem c_impl_at (x n : Int) : Ctr Tryz.prog n_impl_at [aI x, aI n] [rB (decide (0 ≤ x ∧ x < n))] := by
 refine cA m_impl_at 0 12 [(.tmp 4, [false])] Tryz.func239 rfl rfl ?_; unfold m_impl_at
 intro hb
 clear hb
 simp only [↓reduceIte, reduceEqDiff, reduceLT, reduceCtorEq, go_sem]
 exact ⟨fun h => by simp [h], fun h => by simp; omega⟩
def m_impl_InRange : MC :=
(.seq (pr [.mv 6 cF] [0,1,2])
(.seq (.reg [Za (.mv 7 (.s 1)), Za (.mv 8 (.s 0)), Za (.bin 9 false .leq (.s 7) (.s 8)), Za (.mv 10 (.s 9)), Zb 10 true (.mv 11 (.s 0)), Zb 10 true (.mv 12 (.s 2)), Zb 10 true (.bin 13 false .leq (.s 11) (.s 12)), Za (.pick 14 (.s 10) (.s 13) cF), Za (.mv 6 (.s 14))] [6])
.ret))
theorem c_impl_InRange (x a b : Int) : Ctr Tryz.prog n_impl_InRange [aI x, aI a, aI b] [rB (decide (a ≤ x ∧ x ≤ b))] := by
 refine cA m_impl_InRange 0 15 [(.tmp 6, [false])] Tryz.func112 rfl rfl ?_; unfold m_impl_InRange
 intro hb
 clear hb
 simp only [↓reduceIte, reduceEqDiff, reduceLT, reduceAdd, reduceCtorEq, go_sem]
 exact ⟨fun h => by simp [h], fun h => by simp; omega⟩
def allIn (l : List Int) (a b : Int) : Bool := l.all fun x => decide (a ≤ x ∧ x ≤ b)
theorem all_step {α : Type} {p : α → Bool} {l : List α} {k : Nat} {x : α} (hx : l[k]? = some x) (h : (l.take k).all p = true) (hn : p x = true) : (l.take (k + 1)).all p = true := by
 rw [take_snoc hx, List.all_append, h]; simp [hn]
theorem all_not {α : Type} {p : α → Bool} {l : List α} {k : Nat} {x : α} (hx : l[k]? = some x) (hn : p x = false) : false = l.all p := by
 symm; rw [List.all_eq_false]; exact ⟨x, at_mem hx, by simp [hn]⟩
def m_impl_allIn : MC :=
(.seq (pr [.mv 6 cF] [0,1,2])
(.seq (.seq (pr [.mv 9 (.s 0), .len 10 false (.s 9), .mv 11 (ci 0)] [1,2,9,10,11])
(.block 0 (.loop ([1,2,9,10,11], []) (.seq (pr [.bin 12 false .lss (.s 11) (.s 10)] [1,2,9,10,11,12])
(.seq (.cond (.s 12) .skip (.exit 0))
(.seq (.block 1 (.seq (pr [.idx 13 1 (.s 9) (.s 11), .load 14 false 1 (.s 13), .mv 8 (.s 14)] [1,2,8,9,10,11])
(.seq (pr [.mv 15 (.s 8), .mv 16 (.s 1), .mv 17 (.s 2), .call 18 [] (.f n_impl_InRange) [.s 15, .s 16, .s 17], .un 19 .not (.s 18)] [1,2,9,10,11,19])
(.cond (.s 19) (.seq (pr [.mv 6 cF] [6])
.ret) .skip))))
(pr [.bin 20 false .add (.s 11) (ci 1), .mv 11 (.s 20)] [1,2,9,10,11])))))))
(.seq (pr [.mv 6 cT] [6])
.ret)))
theorem c_impl_allIn (l : List Int) (a b : Int) : Ctr Tryz.prog n_impl_allIn [aL 1 (l.map encI), aI a, aI b] [rB (allIn l a b)] := by
 refine cA m_impl_allIn 0 21 [(.tmp 6, [false])] Tryz.func164 rfl rfl ?_; unfold m_impl_allIn
 intro hb
 simp only [bdA, bdL, bdT, bdR_map, wfB_i64, roomB, and_true, List.length_map] at hb
 obtain ⟨⟨hl, -⟩, -⟩ := hb
 simp only [↓reduceIte, reduceEqDiff, reduceLT, reduceAdd, reduceCtorEq, go_sem]
 refine loopK_rng l (fun k => [(11, vI k)]) (fun k => []) (fun k => ((l.take k).all fun x => decide (a ≤ x ∧ x ≤ b)) = true) hl ?_
 simp only [↓reduceIte, reduceEqDiff, go_sem]
 refine ⟨?_, by simp, ?_, ?_⟩
 ·simp only [↓reduceIte, reduceEqDiff, reduceLT, go_sem]
 ·intro k x hx h h0 h1 hw
  simp only [↓reduceIte, reduceEqDiff, reduceLT, reduceCtorEq, go_sem, bk_eq hx, h0, h1]
  refine callK_of (c_impl_InRange _ _ _) ?_
  simp only [↓reduceIte, reduceEqDiff, reduceLT, reduceCtorEq, go_sem, hw]
  exact ⟨fun hn => all_not hx (by simpa using hn), fun hn => all_step hx h (by simpa using hn)⟩
 ·intro h
  simp only [↓reduceIte, reduceEqDiff, reduceLT, reduceCtorEq, go_sem]
  rw [List.take_length] at h
  exact h.symm
def m_spec_l5Bytes : MC :=
(.seq (pr [.mv 2 cF] [0])
(.seq (.seq (pr [.mv 3 (ci 0)] [0,3])
(.block 0 (.loop ([0,3], []) (.seq (.seq (pr [.mv 4 (.s 3), .mv 5 (.s 0), .len 6 false (.s 5), .bin 7 false .lss (.s 4) (.s 6)] [0,3,7])
(.cond (.s 7) .skip (.exit 0)))
(.seq (.block 1 (.seq (pr [.mv 10 (.s 0), .mv 11 (.s 3), .idx 12 1 (.s 10) (.s 11), .load 13 false 1 (.s 12), .call 14 [] (.f n_spec_l1In) [.s 13, .c (.int .i64 0), .c (.int .i64 255)], .un 15 .not (.s 14)] [0,3,15])
(.cond (.s 15) (.seq (pr [.mv 2 cF] [2])
.ret) .skip)))
(pr [.mv 8 (.s 3), .bin 9 false .add (.s 8) (ci 1), .mv 3 (.s 9)] [0,3]))))))
(.seq (pr [.mv 2 cT] [2])
.ret)))
theorem c_spec_l5Bytes (l : List Int) : Ctr Tryz.prog n_spec_l5Bytes [aL 1 (l.map encI)] [rB (allIn l 0 255)] := by
 refine cA m_spec_l5Bytes 0 16 [(.tmp 2, [false])] Tryz.func197 rfl rfl ?_; unfold m_spec_l5Bytes
 intro hb
 simp only [bdA, bdL, bdT, bdR_map, roomB, and_true, List.length_map] at hb
 obtain ⟨hl, -⟩ := hb
 simp only [↓reduceIte, reduceLT, reduceCtorEq, go_sem]
 refine loopK_rng l (fun k => [(3, vI k)]) (fun k => []) (fun k => ((l.take k).all fun x => decide (0 ≤ x ∧ x ≤ 255)) = true) hl ?_
 simp only [↓reduceIte, reduceCtorEq, go_sem]
 refine ⟨?_, by simp, ?_, ?_⟩
 ·simp only [↓reduceIte, reduceLT, reduceCtorEq, go_sem]
 ·intro k x hx h h0 h1 hw
  simp only [↓reduceIte, reduceEqDiff, reduceLT, reduceCtorEq, go_sem, bk_eq hx, h0, h1]
  refine callK_of (c_spec_l1In _ _ _) ?_
  simp only [↓reduceIte, reduceEqDiff, reduceLT, reduceCtorEq, go_sem, hw]
  exact ⟨fun hn => all_not hx (by simpa using hn), fun hn => all_step hx h (by simpa using hn)⟩
 ·intro h
  simp only [↓reduceIte, reduceEqDiff, reduceLT, reduceCtorEq, go_sem]
  rw [List.take_length] at h
  exact h.symm
def isAddr (a : GAddress) : Bool := decide (1 ≤ a.Host ∧ a.Host ≤ 9) && (decide (0 ≤ a.Path ∧ a.Path ≤ 99) && decide (0 ≤ a.Query ∧ a.Query ≤ 99))
def m_impl_IsAddress : MC :=
(.seq (pr [.box 1 0 (.s 0), .mv 2 cF] [1])
(.seq (.reg [Za (.fld 3 (.s 1) 0), Za (.load 4 false 1 (.s 3)), Za (.call 5 [] (.f n_impl_InRange) [.s 4, .c (.int .i64 1), .c (.int .i64 9)]), Za (.mv 6 (.s 5)), Zb 6 true (.fld 7 (.s 1) 1), Zb 6 true (.load 8 false 1 (.s 7)), Zb 6 true (.call 9 [] (.f n_impl_InRange) [.s 8, .c (.int .i64 0), .c (.int .i64 99)]), Za (.pick 10 (.s 6) (.s 9) cF), Za (.mv 11 (.s 10)), Zb 11 true (.fld 12 (.s 1) 2), Zb 11 true (.load 13 false 1 (.s 12)), Zb 11 true (.call 14 [] (.f n_impl_InRange) [.s 13, .c (.int .i64 0), .c (.int .i64 99)]), Za (.pick 15 (.s 11) (.s 14) cF), Za (.mv 2 (.s 15))] [2])
.ret))
theorem c_impl_IsAddress (a : GAddress) : Ctr Tryz.prog n_impl_IsAddress [aS a.enc] [rB (isAddr a)] := by
 refine cA m_impl_IsAddress 1 16 [(.tmp 2, [false])] Tryz.func143 rfl rfl ?_; unfold m_impl_IsAddress
 intro hb
 clear hb
 simp only [↓reduceIte, reduceEqDiff, reduceLT, reduceLeDiff, reduceAdd, reduceCtorEq, go_sem]
 refine callK_of (c_impl_InRange _ _ _) ?_
 simp only [↓reduceIte, reduceEqDiff, reduceLT, reduceLeDiff, reduceAdd, reduceCtorEq, go_sem]
 refine ⟨fun h => ?_, fun h => by unfold isAddr; rw [decide_eq_false h]; rfl⟩
 refine callK_of (c_impl_InRange _ _ _) ?_
 simp only [↓reduceIte, reduceEqDiff, reduceLT, reduceAdd, reduceCtorEq, go_sem]
 refine ⟨fun h2 => ?_, fun h2 => by unfold isAddr; rw [decide_eq_false h2]; simp⟩
 refine callK_of (c_impl_InRange _ _ _) ?_
 simp only [↓reduceIte, reduceEqDiff, reduceLT, go_sem]
 unfold isAddr; rw [decide_eq_true h, decide_eq_true h2]; rfl
def m_spec_IsAddress : MC :=
(.seq (pr [.box 1 0 (.s 0), .mv 2 cF] [1])
(.seq (.reg [Za (.fld 3 (.s 1) 0), Za (.load 4 false 1 (.s 3)), Za (.call 5 [] (.f n_spec_l1In) [.s 4, .c (.int .i64 1), .c (.int .i64 9)]), Za (.mv 6 (.s 5)), Zb 6 true (.fld 7 (.s 1) 1), Zb 6 true (.load 8 false 1 (.s 7)), Zb 6 true (.call 9 [] (.f n_spec_l1In) [.s 8, .c (.int .i64 0), .c (.int .i64 99)]), Za (.pick 10 (.s 6) (.s 9) cF), Za (.mv 11 (.s 10)), Zb 11 true (.fld 12 (.s 1) 2), Zb 11 true (.load 13 false 1 (.s 12)), Zb 11 true (.call 14 [] (.f n_spec_l1In) [.s 13, .c (.int .i64 0), .c (.int .i64 99)]), Za (.pick 15 (.s 11) (.s 14) cF), Za (.mv 2 (.s 15))] [2])
.ret))
theorem c_spec_IsAddress (a : GAddress) : Ctr Tryz.prog n_spec_IsAddress [aS a.enc] [rB (isAddr a)] := by
 refine cA m_spec_IsAddress 1 16 [(.tmp 2, [false])] Tryz.func128 rfl rfl ?_; unfold m_spec_IsAddress
 intro hb
 clear hb
 simp only [↓reduceIte, reduceEqDiff, reduceLT, reduceLeDiff, reduceAdd, reduceCtorEq, go_sem]
 refine callK_of (c_spec_l1In _ _ _) ?_
 simp only [↓reduceIte, reduceEqDiff, reduceLT, reduceLeDiff, reduceAdd, reduceCtorEq, go_sem]
 refine ⟨fun h => ?_, fun h => by unfold isAddr; rw [decide_eq_false h]; rfl⟩
 refine callK_of (c_spec_l1In _ _ _) ?_
 simp only [↓reduceIte, reduceEqDiff, reduceLT, reduceAdd, reduceCtorEq, go_sem]
 refine ⟨fun h2 => ?_, fun h2 => by unfold isAddr; rw [decide_eq_false h2]; simp⟩
 refine callK_of (c_spec_l1In _ _ _) ?_
 simp only [↓reduceIte, reduceEqDiff, reduceLT, go_sem]
 unfold isAddr; rw [decide_eq_true h, decide_eq_true h2]; rfl
def noAddr (a : GAddress) : Bool := a.Host == 0 && (a.Path == 0 && a.Query == 0)
def isRes (r : GResource) : Bool :=
 if r.Kind = 1 ∨ r.Kind = 2 then decide (r.Body.length ≤ 6) && (allIn r.Body 0 255 && noAddr r.To)
 else if r.Kind = 3 then decide (r.Body.length = 0) && isAddr r.To
 else if r.Kind = 4 then decide (r.Body.length = 0) && noAddr r.To else false
def m_impl_IsResource : MC :=
(.seq (pr [.box 1 0 (.s 0), .mv 2 cF] [1])
(.seq (.seq (pr [.fld 3 (.s 1) 0, .load 4 false 1 (.s 3)] [1,4])
(.block 0 (.seq (.seq (pr [.bin 6 false .eql (.s 4) (ci 1), .mv 5 (.s 6)] [1,4,5])
(.cond (.s 5) .skip (pr [.bin 7 false .eql (.s 4) (ci 2), .mv 5 (.s 7)] [1,4,5])))
(.cond (.s 5) (.seq (.reg [Za (.fld 8 (.s 1) 1), Za (.load 9 false 1 (.s 8)), Za (.len 10 false (.s 9)), Za (.bin 11 false .leq (.s 10) (ci 6)), Za (.mv 12 (.s 11)), Zb 12 true (.fld 13 (.s 1) 1), Zb 12 true (.load 14 false 1 (.s 13)), Zb 12 true (.call 15 [] (.f n_impl_allIn) [.s 14, .c (.int .i64 0), .c (.int .i64 255)]), Za (.pick 16 (.s 12) (.s 15) cF), Za (.mv 17 (.s 16)), Zb 17 true (.fld 18 (.s 1) 2), Zb 17 true (.load 19 true 3 (.s 18)), Zb 17 true (.build 20 [pz, pz, pz] []), Zb 17 true (.eqA 21 false [.i .i64, .i .i64, .i .i64] (.s 19) (.s 20)), Za (.pick 22 (.s 17) (.s 21) cF), Za (.mv 2 (.s 22))] [2])
.ret) (.seq (pr [.bin 24 false .eql (.s 4) (ci 3), .mv 23 (.s 24)] [1,4,23])
(.cond (.s 23) (.seq (.reg [Za (.fld 25 (.s 1) 1), Za (.load 26 false 1 (.s 25)), Za (.len 27 false (.s 26)), Za (.bin 28 false .eql (.s 27) (ci 0)), Za (.mv 29 (.s 28)), Zb 29 true (.fld 30 (.s 1) 2), Zb 29 true (.load 31 true 3 (.s 30)), Zb 29 true (.call 32 [] (.f n_impl_IsAddress) [.s 31]), Za (.pick 33 (.s 29) (.s 32) cF), Za (.mv 2 (.s 33))] [2])
.ret) (.seq (pr [.bin 35 false .eql (.s 4) (ci 4), .mv 34 (.s 35)] [1,34])
(.cond (.s 34) (.seq (.reg [Za (.fld 36 (.s 1) 1), Za (.load 37 false 1 (.s 36)), Za (.len 38 false (.s 37)), Za (.bin 39 false .eql (.s 38) (ci 0)), Za (.mv 40 (.s 39)), Zb 40 true (.fld 41 (.s 1) 2), Zb 40 true (.load 42 true 3 (.s 41)), Zb 40 true (.build 43 [pz, pz, pz] []), Zb 40 true (.eqA 44 false [.i .i64, .i .i64, .i .i64] (.s 42) (.s 43)), Za (.pick 45 (.s 40) (.s 44) cF), Za (.mv 2 (.s 45))] [2])
.ret) .skip))))))))
(.seq (pr [.mv 2 cF] [2])
.ret)))
theorem c_impl_IsResource (r : GResource) : Ctr Tryz.prog n_impl_IsResource [aS r.enc] [rB (isRes r)] := by
 refine cA m_impl_IsResource 1 46 [(.tmp 2, [false])] Tryz.func144 rfl rfl ?_; unfold m_impl_IsResource
 intro hb
 clear hb
 have hcase : r.Kind = 1 ∨ r.Kind = 2 ∨ r.Kind = 3 ∨ r.Kind = 4 ∨ (¬ r.Kind = 1 ∧ ¬ r.Kind = 2 ∧ ¬ r.Kind = 3 ∧ ¬ r.Kind = 4) := by omega
 rcases hcase with hk | hk | hk | hk | ⟨h1, h2, h3, h4⟩
 ·simp only [↓reduceIte, reduceEqDiff, reduceLT, reduceLeDiff, reduceAdd, reduceCtorEq, go_sem, hk]
  refine ⟨fun h => ?_, fun h => ?_⟩
  ·have h' : r.Body.length ≤ 6 := by omega
   refine callK_of (c_impl_allIn _ _ _) ?_
   simp only [↓reduceIte, reduceEqDiff, reduceLT, reduceAdd, reduceCtorEq, go_sem]
   exact ⟨fun h2 => by simp [isRes, noAddr, hk, h2, h'], fun h2 => by simp [isRes, noAddr, hk, h2]⟩
  ·have h' : ¬ r.Body.length ≤ 6 := by omega
   simp [isRes, noAddr, hk, h']
 ·simp only [↓reduceIte, reduceEqDiff, reduceLT, reduceLeDiff, reduceAdd, reduceCtorEq, go_sem, hk, Int.reduceEq]
  refine ⟨fun h => ?_, fun h => ?_⟩
  ·have h' : r.Body.length ≤ 6 := by omega
   refine callK_of (c_impl_allIn _ _ _) ?_
   simp only [↓reduceIte, reduceEqDiff, reduceLT, reduceAdd, reduceCtorEq, go_sem]
   exact ⟨fun h2 => by simp [isRes, noAddr, hk, h2, h'], fun h2 => by simp [isRes, noAddr, hk, h2]⟩
  ·have h' : ¬ r.Body.length ≤ 6 := by omega
   simp [isRes, noAddr, hk, h']
 ·simp only [↓reduceIte, reduceEqDiff, reduceLT, reduceLeDiff, reduceAdd, reduceCtorEq, go_sem, hk, Int.reduceEq]
  refine ⟨fun h => ?_, fun h => ?_⟩
  ·have h' : r.Body.length = 0 := by omega
   refine callK_of (c_impl_IsAddress r.To) ?_
   simp only [↓reduceIte, reduceEqDiff, reduceLT, go_sem]
   simp [isRes, hk, h']
  ·have h' : ¬ r.Body.length = 0 := by omega
   unfold isRes
   rw [if_neg (by omega), if_pos hk, decide_eq_false h']
   rfl
 ·simp only [↓reduceIte, reduceEqDiff, reduceLT, reduceLeDiff, reduceAdd, reduceCtorEq, go_sem, hk, Int.reduceEq]
  refine ⟨fun h => ?_, fun h => ?_⟩
  ·have h' : r.Body.length = 0 := by omega
   unfold isRes
   rw [if_neg (by omega), if_neg (by omega), if_pos hk, decide_eq_true h']
   simp [noAddr]
  ·have h' : ¬ r.Body.length = 0 := by omega
   unfold isRes
   rw [if_neg (by omega), if_neg (by omega), if_pos hk, decide_eq_false h']
   rfl
 ·simp only [↓reduceIte, reduceEqDiff, reduceLT, reduceLeDiff, reduceAdd, reduceCtorEq, go_sem, h1, h2, h3, h4]
  unfold isRes
  rw [if_neg (by omega), if_neg (by omega), if_neg (by omega)]
def m_spec_IsResource : MC :=
(.seq (pr [.box 1 0 (.s 0), .mv 2 cF] [1])
(.seq (.seq (.reg [Za (.fld 3 (.s 1) 0), Za (.load 4 false 1 (.s 3)), Za (.call 5 [] (.f n_spec_l1In) [.s 4, .c (.int .i64 1), .c (.int .i64 4)]), Za (.un 6 .not (.s 5)), Za (.mv 7 (.s 6)), Zb 7 false (.fld 8 (.s 1) 1), Zb 7 false (.load 9 false 1 (.s 8)), Zb 7 false (.call 10 [] (.f n_spec_l5Bytes) [.s 9]), Zb 7 false (.un 11 .not (.s 10)), Za (.pick 12 (.s 7) cT (.s 11)), Za (.mv 13 (.s 12)), Zb 13 false (.fld 14 (.s 1) 1), Zb 13 false (.load 15 false 1 (.s 14)), Zb 13 false (.len 16 false (.s 15)), Zb 13 false (.bin 17 false .gtr (.s 16) (ci 6)), Za (.pick 18 (.s 13) cT (.s 17))] [1,18])
(.cond (.s 18) (.seq (pr [.mv 2 cF] [2])
.ret) .skip))
(.seq (.seq (pr [.fld 19 (.s 1) 0, .load 20 false 1 (.s 19), .bin 21 false .eql (.s 20) (ci 3)] [1,21])
(.cond (.s 21) (.seq (.reg [Za (.fld 22 (.s 1) 2), Za (.load 23 true 3 (.s 22)), Za (.call 24 [] (.f n_spec_IsAddress) [.s 23]), Za (.mv 25 (.s 24)), Zb 25 true (.fld 26 (.s 1) 1), Zb 25 true (.load 27 false 1 (.s 26)), Zb 25 true (.len 28 false (.s 27)), Zb 25 true (.bin 29 false .eql (.s 28) (ci 0)), Za (.pick 30 (.s 25) (.s 29) cF), Za (.mv 2 (.s 30))] [2])
.ret) .skip))
(.seq (.reg [Za (.fld 31 (.s 1) 2), Za (.load 32 true 3 (.s 31)), Za (.build 33 [pz, pz, pz] []), Za (.eqA 34 false [.i .i64, .i .i64, .i .i64] (.s 32) (.s 33)), Za (.mv 35 (.s 34)), Zb 35 true (.fld 36 (.s 1) 0), Zb 35 true (.load 37 false 1 (.s 36)), Zb 35 true (.bin 38 false .neq (.s 37) (ci 4)), Zb 35 true (.mv 39 (.s 38)), Zb 39 false (.fld 40 (.s 1) 1), Zb 39 false (.load 41 false 1 (.s 40)), Zb 39 false (.len 42 false (.s 41)), Zb 39 false (.bin 43 false .eql (.s 42) (ci 0)), Zb 35 true (.pick 44 (.s 39) cT (.s 43)), Za (.pick 45 (.s 35) (.s 44) cF), Za (.mv 2 (.s 45))] [2])
.ret))))
theorem c_spec_IsResource (r : GResource) : Ctr Tryz.prog n_spec_IsResource [aS r.enc] [rB (isRes r)] := by
 refine cA m_spec_IsResource 1 46 [(.tmp 2, [false])] Tryz.func129 rfl rfl ?_; unfold m_spec_IsResource
 intro hb
 clear hb
 simp only [↓reduceIte, reduceEqDiff, reduceLT, reduceLeDiff, reduceAdd, reduceCtorEq, go_sem]
 refine callK_of (c_spec_l1In _ _ _) ?_
 simp only [↓reduceIte, reduceEqDiff, reduceLT, reduceLeDiff, reduceAdd, reduceCtorEq, go_sem]
 refine ⟨fun h => ?_, fun h => ?_⟩
 ·unfold isRes
  rw [if_neg (by omega), if_neg (by omega), if_neg (by omega)]
 ·refine callK_of (c_spec_l5Bytes r.Body) ?_
  simp only [↓reduceIte, reduceEqDiff, reduceLT, reduceLeDiff, reduceAdd, reduceCtorEq, go_sem]
  refine ⟨fun ha => ?_, fun ha => ⟨fun hl => ?_, fun hl => ⟨fun hk => ?_, fun hk => ?_⟩⟩⟩
  ·have h0 : ¬ r.Body.length = 0 := fun e => by
    rw [List.eq_nil_of_length_eq_zero e] at ha
    simp [allIn] at ha
   simp [isRes, ha, h0]
  ·have h0 : ¬ r.Body.length = 0 := by omega
   have h1 : ¬ r.Body.length ≤ 6 := by omega
   simp [isRes, h0, h1]
  ·refine callK_of (c_spec_IsAddress r.To) ?_
   simp only [↓reduceIte, reduceEqDiff, reduceLT, reduceLeDiff, reduceAdd, reduceCtorEq, go_sem]
   refine ⟨fun hi => ?_, fun hi => by simp [isRes, hk, hi]⟩
   unfold isRes
   rw [if_neg (by omega), if_pos hk, hi, Bool.and_true, Bool.eq_iff_iff]
   simp
  ·have h1 : r.Body.length ≤ 6 := by omega
   refine ⟨fun ht => ?_, fun ht => ?_⟩
   ·have hn : noAddr r.To = true := by
     unfold noAddr
     exact (Bool.eq_false_or_eq_true _).resolve_right fun e => ht e.symm
    refine ⟨fun k4 => ?_, fun k4 => ?_⟩
    ·unfold isRes
     rw [if_pos (by omega), ha, hn, decide_eq_true h1]
     rfl
    ·unfold isRes
     rw [if_neg (by omega), if_neg hk, if_pos k4, hn, Bool.and_true, Bool.eq_iff_iff]
     simp
   ·have hn : noAddr r.To = false := ht.symm
    unfold isRes
    rw [hn, if_neg hk]
    split
    ·simp
    ·split <;> simp
end Go.Proofs.YtpclnmleldeleaaGreatR
namespace Go.Proofs.YtpclnmleldeleaaGreatR
open Go Go.RowKit Go.Proofs
open Nat (reduceEqDiff reduceLT reduceLeDiff reduceAdd reduceMul)
open List (reduceReplicate)
set_option linter.unusedSimpArgs false
set_option linter.unusedVariables false
def m_impl_copyResource : MC :=
(.seq (pr [.box 1 0 (.s 0), .alloc 2 1 [pz, .emp 1, pz, pz, pz]] [1,2])
(.seq (pr [.fld 3 (.s 1) 1, .load 4 false 1 (.s 3), .call 5 [2] (.f n_slices_Clone_int_int) [.s 4], .fld 6 (.s 1) 1, .store 1 (.s 6) (.s 5)] [1,2])
(.seq (pr [.load 7 true 5 (.s 1), .store 5 (.s 2) (.s 7)] [2])
.ret)))
theorem c_impl_copyResource (r : GResource) (hs : r.Body.length ≤ 1073741824) : Ctr Tryz.prog n_impl_copyResource [aS r.enc] [rS r.enc] := by
 refine cA m_impl_copyResource 3 8 [(.cell 2 true 5, [false, true, false, false, false])] Tryz.func140 rfl rfl ?_; unfold m_impl_copyResource
 intro hb
 clear hb
 simp only [↓reduceIte, reduceEqDiff, reduceLT, reduceLeDiff, reduceAdd, reduceCtorEq, go_sem]
 refine callK_of (c_slices_Clone_int r.Body hs) ?_
 simp only [↓reduceIte, reduceEqDiff, reduceLT, reduceLeDiff, reduceAdd, reduceCtorEq, go_sem]
 try intros
 try trivial
def m_spec_l5Copy : MC :=
(.seq (pr [.box 1 0 (.s 0), .alloc 2 1 [pz, .emp 1, pz, pz, pz]] [1,2])
(.seq (.dreg [Zf [5,6,7,8,9,10] [2] (.fld 3 (.s 1) 0), Zg [5,6,7,8,9,10] [2] [0] (.load 4 false 1 (.s 3)), { o := .lit 5 2 1 8 [], hs := [3,4,6,7,9,10], ws := [2] }, Zf [3,4,5,9,10] [2] (.fld 6 (.s 1) 1), Zg [3,4,5,9,10] [2] [3] (.load 7 false 1 (.s 6)), { o := .app 8 2 1 8 (.s 5) (.s 7), hs := [3,4,9,10], ws := [2], bf := [2,3,4] }, Zf [3,4,5,6,7,8] [2] (.fld 9 (.s 1) 2), Zg [3,4,5,6,7,8] [2] [6] (.load 10 true 3 (.s 9)), Ze (.range 8) (.build 11 [pz, .emp 1, pz, pz, pz] [(0, 1, .s 4), (1, 1, .s 8), (2, 3, .s 10)]), { o := .store 5 (.s 2) (.s 11), ws := [1,2], bf := (.range 9) }] [2])
.ret))
theorem c_spec_l5Copy (r : GResource) (hs : r.Body.length ≤ 1073741824) : Ctr Tryz.prog n_spec_l5Copy [aS r.enc] [rS r.enc] := by
 refine cA m_spec_l5Copy 3 12 [(.cell 2 true 5, [false, true, false, false, false])] Tryz.func127 rfl rfl ?_; unfold m_spec_l5Copy
 intro hb
 clear hb
 simp only [↓reduceIte, reduceEqDiff, reduceLT, reduceLeDiff, reduceAdd, reduceMul, reduceCtorEq, go_sem, ↓flat_of (f := encI) (fun _ => rfl) r.Body]
 simp only [roomB]
 omega
def m_impl_copyCaptures : MC :=
(.seq (pr [.nilo 2 0 9] [0])
(.seq (pr [.nilo 3 0 9] [0,3])
(.seq (.seq (pr [.mv 6 (.s 0), .len 7 false (.s 6), .mv 8 (ci 0)] [3,6,7,8])
(.block 0 (.loop ([3,6,7,8], [1,2,3]) (.seq (pr [.bin 9 false .lss (.s 8) (.s 7)] [3,6,7,8,9])
(.seq (.cond (.s 9) .skip (.exit 0))
(.seq (.block 1 (.seq (pr [.idx 10 9 (.s 6) (.s 8), .load 11 true 9 (.s 10), .alloc 5 1 [pz, pz, pz, pz, pz, .emp 1, pz, pz, pz], .store 9 (.s 5) (.s 11)] [3,5,6,7,8])
(.dreg [Zf [13,14,15,16,17,18,19,20,21] [2,3] (.mv 12 (.s 3)), Zf [12,15,16,17,18,19] [2] (.fld 13 (.s 5) 0), Zg [12,15,16,17,18,19] [2] [1] (.load 14 true 3 (.s 13)), Zf [12,13,14,17,18,19] [2] (.fld 15 (.s 5) 3), Zg [12,13,14,17,18,19] [2] [3] (.load 16 false 1 (.s 15)), Zc [12,13,14,15,16] (.fld 17 (.s 5) 4), Zd [12,13,14,15,16] [5] (.load 18 true 5 (.s 17)), { o := .call 19 [2] (.f n_impl_copyResource) [.s 18], hs := [12,13,14,15,16], ws := [2], bf := [5,6] }, Zd [12] [1,2,3,4,5,6,7] (.build 20 [pz, pz, pz, pz, pz, .emp 1, pz, pz, pz] [(0, 3, .s 14), (3, 1, .s 16), (4, 5, .s 19)]), { o := .lit 21 3 9 88 [.s 20], hs := [12], ws := [2,3], bf := [1,2,3,4,5,6,7,8] }, { o := .app 22 0 9 88 (.s 12) (.s 21), ws := [0,3], bf := (.range 10) }, Ze (.range 11) (.mv 3 (.s 22))] [3,6,7,8])))
(pr [.bin 23 false .add (.s 8) (ci 1), .mv 8 (.s 23)] [3,6,7,8])))))))
(.seq (pr [.mv 24 (.s 3), .mv 2 (.s 24)] [2])
.ret))))
theorem c_impl_copyCaptures (xs : List GCapture) (hs : xs.length + (xs.map GCapture.size).sum ≤ 1073741824) : Ctr Tryz.prog n_impl_copyCaptures [aL 9 (xs.map GCapture.enc)] [rL 9 (xs.map GCapture.enc)] := by
 refine cA m_impl_copyCaptures 4 25 [(.tmp 2, [true])] Tryz.func227 rfl rfl ?_; unfold m_impl_copyCaptures
 intro hb
 clear hb
 simp only [↓reduceIte, reduceEqDiff, reduceLT, reduceAdd, reduceCtorEq, go_sem]
 refine loopK_rng xs (fun k => [(3, .val false [.ref 0 0 9 0 (xs.take k).length]), (8, vI k)]) (fun k => [(0, ⟨0, .row true 9 ((xs.take k).map GCapture.enc)⟩)]) (fun _ => True) (by simp only [roomB]; omega) ?_
 simp only [↓reduceIte, reduceEqDiff, reduceAdd, reduceCtorEq, go_sem]
 refine ⟨?_, trivial, ?_, ?_⟩
 ·simp only [↓reduceIte, reduceEqDiff, reduceLT, go_sem, List.take_zero]
 ·intro k x hx _ h0 h1 hw
  have hk : k < xs.length := by omega
  have hlt := List.length_take_le k xs
  have hx1 := mem_sum (f := GCapture.size) (at_mem hx)
  simp only [↓reduceIte, reduceEqDiff, reduceLT, reduceLeDiff, reduceAdd, reduceCtorEq, go_sem, bk_eq hx, h0, h1]
  refine callK_of (c_impl_copyResource x.Resource (by simp only [GCapture.size, GResource.size] at hx1; omega)) ?_
  simp only [↓reduceIte, reduceEqDiff, reduceLT, reduceLeDiff, reduceAdd, reduceMul, reduceCtorEq, go_sem, hw]
  simp only [roomB]
  exact ⟨by omega, by omega, fun _ => ⟨snoc_len hx, snoc_map hx⟩⟩
 ·intro _
  simp only [↓reduceIte, reduceEqDiff, reduceLT, reduceCtorEq, go_sem, List.take_length]
def m_spec_l15Copy : MC :=
(.seq (pr [.nilo 2 0 9] [0])
(.seq (pr [.lit 5 0 9 88 [], .mv 3 (.s 5)] [0,3])
(.seq (.seq (pr [.mv 4 (ci 0)] [0,3,4])
(.block 0 (.loop ([0,3,4], [1,2]) (.seq (.seq (pr [.mv 6 (.s 4), .mv 7 (.s 0), .len 8 false (.s 7), .bin 9 false .lss (.s 6) (.s 8)] [0,3,4,9])
(.cond (.s 9) .skip (.exit 0)))
(.seq (.block 1 (.dreg [Zf [13,14,15,16,17,18,19,20,21,22,23,24,25,26,27,28,29,30] [1,2] (.mv 12 (.s 3)), Zf [12,14,18,19,20,21,22,23,24,25,26,27,28] [1] (.mv 13 (.s 0)), Zf [12,13,18,19,20,21,22,23,24,25,26,27,28] [1] (.mv 14 (.s 4)), Zg [12,18,19,20,21,22,23,24,25,26,27,28] [1] [1,2] (.idx 15 9 (.s 13) (.s 14)), Zg [12,18,19,20,21,22,23,24,25,26,27,28] [1] [1,2,3] (.fld 16 (.s 15) 0), Zg [12,18,19,20,21,22,23,24,25,26,27,28] [1] [1,2,3,4] (.load 17 true 3 (.s 16)), Zf [12,13,14,15,16,17,19,23,24,25,26,27,28] [1] (.mv 18 (.s 0)), Zf [12,13,14,15,16,17,18,23,24,25,26,27,28] [1] (.mv 19 (.s 4)), Zg [12,13,14,15,16,17,23,24,25,26,27,28] [1] [6,7] (.idx 20 9 (.s 18) (.s 19)), Zg [12,13,14,15,16,17,23,24,25,26,27,28] [1] [6,7,8] (.fld 21 (.s 20) 3), Zg [12,13,14,15,16,17,23,24,25,26,27,28] [1] [6,7,8,9] (.load 22 false 1 (.s 21)), Zc [12,13,14,15,16,17,18,19,20,21,22,24] (.mv 23 (.s 0)), Zc [12,13,14,15,16,17,18,19,20,21,22,23] (.mv 24 (.s 4)), Zd [12,13,14,15,16,17,18,19,20,21,22] [11,12] (.idx 25 9 (.s 23) (.s 24)), Zd [12,13,14,15,16,17,18,19,20,21,22] [11,12,13] (.fld 26 (.s 25) 4), Zd [12,13,14,15,16,17,18,19,20,21,22] [11,12,13,14] (.load 27 true 5 (.s 26)), { o := .call 28 [1] (.f n_spec_l5Copy) [.s 27], hs := [12,13,14,15,16,17,18,19,20,21,22], ws := [1], bf := [11,12,13,14,15] }, Zd [12] [1,2,3,4,5,6,7,8,9,10,11,12,13,14,15,16] (.build 29 [pz, pz, pz, pz, pz, .emp 1, pz, pz, pz] [(0, 3, .s 17), (3, 1, .s 22), (4, 5, .s 28)]), { o := .lit 30 2 9 88 [.s 29], hs := [12], ws := [1,2], bf := [1,2,3,4,5,6,7,8,9,10,11,12,13,14,15,16,17] }, { o := .app 31 0 9 88 (.s 12) (.s 30), ws := [0,2], bf := (.range 19) }, Ze (.range 20) (.mv 3 (.s 31))] [0,3,4]))
(pr [.mv 10 (.s 4), .bin 11 false .add (.s 10) (ci 1), .mv 4 (.s 11)] [0,3,4]))))))
(.seq (pr [.mv 32 (.s 3), .mv 2 (.s 32)] [2])
.ret))))
theorem c_spec_l15Copy (xs : List GCapture) (hs : xs.length + (xs.map GCapture.size).sum ≤ 1073741824) : Ctr Tryz.prog n_spec_l15Copy [aL 9 (xs.map GCapture.enc)] [rL 9 (xs.map GCapture.enc)] := by
 refine cA m_spec_l15Copy 3 33 [(.tmp 2, [true])] Tryz.func176 rfl rfl ?_; unfold m_spec_l15Copy
 intro hb
 clear hb
 simp only [↓reduceIte, reduceEqDiff, reduceLT, reduceAdd, reduceMul, reduceCtorEq, go_sem]
 refine loopK_rng xs (fun k => [(3, .val false [.ref 0 0 9 0 (xs.take k).length]), (4, vI k)]) (fun k => [(0, ⟨0, .row true 9 ((xs.take k).map GCapture.enc)⟩)]) (fun _ => True) (by simp only [roomB]; omega) ?_
 simp only [↓reduceIte, reduceEqDiff, reduceAdd, reduceCtorEq, go_sem]
 refine ⟨?_, trivial, ?_, ?_⟩
 ·simp only [↓reduceIte, reduceEqDiff, reduceLT, reduceCtorEq, go_sem, List.take_zero]
 ·intro k x hx _ h0 h1 hw
  have hk : k < xs.length := by omega
  have hlt := List.length_take_le k xs
  have hx1 := mem_sum (f := GCapture.size) (at_mem hx)
  simp only [↓reduceIte, reduceEqDiff, reduceLT, reduceLeDiff, reduceAdd, reduceCtorEq, go_sem, bk_eq hx, h0, h1]
  refine callK_of (c_spec_l5Copy x.Resource (by simp only [GCapture.size, GResource.size] at hx1; omega)) ?_
  simp only [↓reduceIte, reduceEqDiff, reduceLT, reduceLeDiff, reduceAdd, reduceMul, reduceCtorEq, go_sem, hw]
  simp only [roomB]
  exact ⟨by omega, by omega, fun _ => ⟨snoc_len hx, snoc_map hx⟩⟩
 ·intro _
  simp only [↓reduceIte, reduceEqDiff, reduceLT, reduceCtorEq, go_sem, List.take_length]
end Go.Proofs.YtpclnmleldeleaaGreatR
namespace Go.Proofs.YtpclnmleldeleaaGreatR
open Go Go.RowKit Go.Proofs
open Nat (reduceEqDiff reduceLT reduceLeDiff reduceAdd reduceMul)
open List (reduceReplicate)
set_option linter.unusedSimpArgs false
set_option linter.unusedVariables false
def isExcl (x : GExclusion) : Bool := decide ((1 ≤ x.Host ∧ x.Host ≤ 9) ∧ (-1 ≤ x.Path ∧ x.Path ≤ 99) ∧ (0 ≤ x.From ∧ x.From ≤ x.Until) ∧ x.Until ≤ 2000 ∧ (0 ≤ x.Asked ∧ x.Asked ≤ 2000))
def m_impl_IsExclusion : MC :=
(.seq (pr [.box 1 0 (.s 0), .mv 2 cF] [1])
(.seq (.reg [Za (.fld 3 (.s 1) 0), Za (.load 4 false 1 (.s 3)), Za (.call 5 [] (.f n_impl_InRange) [.s 4, .c (.int .i64 1), .c (.int .i64 9)]), Za (.mv 6 (.s 5)), Zb 6 true (.fld 7 (.s 1) 1), Zb 6 true (.load 8 false 1 (.s 7)), Zb 6 true (.call 9 [] (.f n_impl_InRange) [.s 8, .c (.int .i64 (-1)), .c (.int .i64 99)]), Za (.pick 10 (.s 6) (.s 9) cF), Za (.mv 11 (.s 10)), Zb 11 true (.fld 12 (.s 1) 2), Zb 11 true (.load 13 false 1 (.s 12)), Zb 11 true (.fld 14 (.s 1) 3), Zb 11 true (.load 15 false 1 (.s 14)), Zb 11 true (.call 16 [] (.f n_impl_InRange) [.s 13, .c (.int .i64 0), .s 15]), Za (.pick 17 (.s 11) (.s 16) cF), Za (.mv 18 (.s 17)), Zb 18 true (.fld 19 (.s 1) 3), Zb 18 true (.load 20 false 1 (.s 19)), Zb 18 true (.bin 21 false .leq (.s 20) (ci 2000)), Za (.pick 22 (.s 18) (.s 21) cF), Za (.mv 23 (.s 22)), Zb 23 true (.fld 24 (.s 1) 4), Zb 23 true (.load 25 false 1 (.s 24)), Zb 23 true (.call 26 [] (.f n_impl_InRange) [.s 25, .c (.int .i64 0), .c (.int .i64 2000)]), Za (.pick 27 (.s 23) (.s 26) cF), Za (.mv 2 (.s 27))] [2])
.ret))
theorem c_impl_IsExclusion (x : GExclusion) : Ctr Tryz.prog n_impl_IsExclusion [aS x.enc] [rB (isExcl x)] := by
 refine cA m_impl_IsExclusion 1 28 [(.tmp 2, [false])] Tryz.func110 rfl rfl ?_; unfold m_impl_IsExclusion
 intro hb
 clear hb
 simp only [↓reduceIte, reduceEqDiff, reduceLT, reduceLeDiff, reduceAdd, reduceCtorEq, go_sem]
 repeat' first
  | (refine And.intro ?_ ?_ <;> intro h)
  | (apply callK_of (c_impl_InRange _ _ _); simp only [↓reduceIte, reduceEqDiff, reduceLT, reduceLeDiff, reduceAdd, reduceCtorEq, go_sem])
 all_goals (unfold isExcl; first | (symm; rw [decide_eq_false_iff_not]; omega) | (rw [Bool.eq_iff_iff]; simp only [decide_eq_true_eq]; omega))
def m_spec_IsExclusion : MC :=
(.seq (pr [.box 1 0 (.s 0), .mv 2 cF] [1])
(.seq (.reg [Za (.fld 3 (.s 1) 0), Za (.load 4 false 1 (.s 3)), Za (.call 5 [] (.f n_spec_l1In) [.s 4, .c (.int .i64 1), .c (.int .i64 9)]), Za (.mv 6 (.s 5)), Zb 6 true (.fld 7 (.s 1) 1), Zb 6 true (.load 8 false 1 (.s 7)), Zb 6 true (.call 9 [] (.f n_spec_l1In) [.s 8, .c (.int .i64 (-1)), .c (.int .i64 99)]), Za (.pick 10 (.s 6) (.s 9) cF), Za (.mv 11 (.s 10)), Zb 11 true (.fld 12 (.s 1) 2), Zb 11 true (.load 13 false 1 (.s 12)), Zb 11 true (.call 14 [] (.f n_spec_l1In) [.s 13, .c (.int .i64 0), .c (.int .i64 2000)]), Za (.pick 15 (.s 11) (.s 14) cF), Za (.mv 16 (.s 15)), Zb 16 true (.fld 17 (.s 1) 3), Zb 16 true (.load 18 false 1 (.s 17)), Zb 16 true (.fld 19 (.s 1) 2), Zb 16 true (.load 20 false 1 (.s 19)), Zb 16 true (.call 21 [] (.f n_spec_l1In) [.s 18, .s 20, .c (.int .i64 2000)]), Za (.pick 22 (.s 16) (.s 21) cF), Za (.mv 23 (.s 22)), Zb 23 true (.fld 24 (.s 1) 4), Zb 23 true (.load 25 false 1 (.s 24)), Zb 23 true (.call 26 [] (.f n_spec_l1In) [.s 25, .c (.int .i64 0), .c (.int .i64 2000)]), Za (.pick 27 (.s 23) (.s 26) cF), Za (.mv 2 (.s 27))] [2])
.ret))
theorem c_spec_IsExclusion (x : GExclusion) : Ctr Tryz.prog n_spec_IsExclusion [aS x.enc] [rB (isExcl x)] := by
 refine cA m_spec_IsExclusion 1 28 [(.tmp 2, [false])] Tryz.func99 rfl rfl ?_; unfold m_spec_IsExclusion
 intro hb
 clear hb
 simp only [↓reduceIte, reduceEqDiff, reduceLT, reduceLeDiff, reduceAdd, reduceCtorEq, go_sem]
 repeat' first
  | (refine And.intro ?_ ?_ <;> intro h)
  | (apply callK_of (c_spec_l1In _ _ _); simp only [↓reduceIte, reduceEqDiff, reduceLT, reduceLeDiff, reduceAdd, reduceCtorEq, go_sem])
 all_goals (unfold isExcl; first | (symm; rw [decide_eq_false_iff_not]; omega) | (rw [Bool.eq_iff_iff]; simp only [decide_eq_true_eq]; omega))
end Go.Proofs.YtpclnmleldeleaaGreatR
namespace Go.Proofs.YtpclnmleldeleaaGreatR
open Go Go.RowKit Go.Proofs
open Nat (reduceEqDiff reduceLT reduceLeDiff reduceAdd reduceMul)
open List (reduceReplicate)
set_option linter.unusedSimpArgs false
set_option linter.unusedVariables false
end Go.Proofs.YtpclnmleldeleaaGreatR
namespace Go.Proofs.YtpclnmleldeleaaGreatR
open Go Go.RowKit Go.Proofs
open Nat (reduceEqDiff reduceLT reduceLeDiff reduceAdd reduceMul)
open List (reduceReplicate)
set_option linter.unusedSimpArgs false
set_option linter.unusedVariables false
end Go.Proofs.YtpclnmleldeleaaGreatR
namespace Go.Proofs.YtpclnmleldeleaaGreatR
open Go Go.RowKit Go.Proofs
open Nat (reduceEqDiff reduceLT reduceLeDiff reduceAdd reduceMul)
open List (reduceReplicate)
set_option linter.unusedSimpArgs false
set_option linter.unusedVariables false
end Go.Proofs.YtpclnmleldeleaaGreatR
namespace Go.Proofs.YtpclnmleldeleaaGreatR
open Go Go.RowKit Go.Proofs
open Nat (reduceEqDiff reduceLT reduceLeDiff reduceAdd reduceMul)
open List (reduceReplicate)
set_option linter.unusedSimpArgs false
set_option linter.unusedVariables false
end Go.Proofs.YtpclnmleldeleaaGreatR
namespace Go.Proofs.YtpclnmleldeleaaGreatR
open Go Go.RowKit Go.Proofs
open Nat (reduceEqDiff reduceLT reduceLeDiff reduceAdd reduceMul)
open List (reduceReplicate)
set_option linter.unusedSimpArgs false
set_option linter.unusedVariables false
attribute [go_sem] eqB
def scriptInts (xs : List GOp) : List Int := xs.flatMap fun o => [o.Kind, o.A, o.B, o.C]
theorem scriptInts_snoc {l : List GOp} {k : Nat} {x : GOp} (h : l[k]? = some x) : scriptInts (l.take (k + 1)) = scriptInts (l.take k) ++ [x.Kind, x.A, x.B, x.C] := by
 rw [take_snoc h, scriptInts, List.flatMap_append]; rfl
theorem scriptInts_len {l : List GOp} : (scriptInts l).length = 4 * l.length := by
 induction l with
 | nil => rfl
 | cons x l ih => simp only [scriptInts, List.flatMap_cons, List.length_append, List.length_cons, List.length_nil] at ih ⊢; omega
def m_spec_ScriptInts : MC :=
(.seq (pr [.nilo 2 0 1] [0])
(.seq (pr [.lit 5 0 1 8 [], .mv 3 (.s 5)] [0,3])
(.seq (.seq (pr [.mv 4 (ci 0)] [0,3,4])
(.block 0 (.loop ([0,3,4], [1]) (.seq (.seq (pr [.mv 6 (.s 4), .mv 7 (.s 0), .len 8 false (.s 7), .bin 9 false .lss (.s 6) (.s 8)] [0,3,4,9])
(.cond (.s 9) .skip (.exit 0)))
(.seq (.block 1 (.dreg [Zf [13,14,15,16,17,18,19,20,21,22,23,24,25,26,27,28,29,30,31,32,33] [1] (.mv 12 (.s 3)), Zc [12,14,18,19,20,21,22,23,24,25,26,27,28,29,30,31,32] (.mv 13 (.s 0)), Zc [12,13,18,19,20,21,22,23,24,25,26,27,28,29,30,31,32] (.mv 14 (.s 4)), Zd [12,18,19,20,21,22,23,24,25,26,27,28,29,30,31,32] [1,2] (.idx 15 4 (.s 13) (.s 14)), Zd [12,18,19,20,21,22,23,24,25,26,27,28,29,30,31,32] [1,2,3] (.fld 16 (.s 15) 0), Zd [12,18,19,20,21,22,23,24,25,26,27,28,29,30,31,32] [1,2,3,4] (.load 17 false 1 (.s 16)), Zc [12,13,14,15,16,17,19,23,24,25,26,27,28,29,30,31,32] (.mv 18 (.s 0)), Zc [12,13,14,15,16,17,18,23,24,25,26,27,28,29,30,31,32] (.mv 19 (.s 4)), Zd [12,13,14,15,16,17,23,24,25,26,27,28,29,30,31,32] [6,7] (.idx 20 4 (.s 18) (.s 19)), Zd [12,13,14,15,16,17,23,24,25,26,27,28,29,30,31,32] [6,7,8] (.fld 21 (.s 20) 1), Zd [12,13,14,15,16,17,23,24,25,26,27,28,29,30,31,32] [6,7,8,9] (.load 22 false 1 (.s 21)), Zc [12,13,14,15,16,17,18,19,20,21,22,24,28,29,30,31,32] (.mv 23 (.s 0)), Zc [12,13,14,15,16,17,18,19,20,21,22,23,28,29,30,31,32] (.mv 24 (.s 4)), Zd [12,13,14,15,16,17,18,19,20,21,22,28,29,30,31,32] [11,12] (.idx 25 4 (.s 23) (.s 24)), Zd [12,13,14,15,16,17,18,19,20,21,22,28,29,30,31,32] [11,12,13] (.fld 26 (.s 25) 2), Zd [12,13,14,15,16,17,18,19,20,21,22,28,29,30,31,32] [11,12,13,14] (.load 27 false 1 (.s 26)), Zc [12,13,14,15,16,17,18,19,20,21,22,23,24,25,26,27,29] (.mv 28 (.s 0)), Zc [12,13,14,15,16,17,18,19,20,21,22,23,24,25,26,27,28] (.mv 29 (.s 4)), Zd [12,13,14,15,16,17,18,19,20,21,22,23,24,25,26,27] [16,17] (.idx 30 4 (.s 28) (.s 29)), Zd [12,13,14,15,16,17,18,19,20,21,22,23,24,25,26,27] [16,17,18] (.fld 31 (.s 30) 3), Zd [12,13,14,15,16,17,18,19,20,21,22,23,24,25,26,27] [16,17,18,19] (.load 32 false 1 (.s 31)), { o := .lit 33 1 1 8 [.s 17, .s 22, .s 27, .s 32], hs := [12], ws := [1], bf := [1,2,3,4,5,6,7,8,9,10,11,12,13,14,15,16,17,18,19,20] }, { o := .app 34 0 1 8 (.s 12) (.s 33), ws := [0], bf := (.range 22) }, Ze (.range 23) (.mv 3 (.s 34))] [0,3,4]))
(pr [.mv 10 (.s 4), .bin 11 false .add (.s 10) (ci 1), .mv 4 (.s 11)] [0,3,4]))))))
(.seq (pr [.mv 35 (.s 3), .mv 2 (.s 35)] [2])
.ret))))
theorem c_spec_ScriptInts (xs : List GOp) (hN : xs.length ≤ 1099511627776) : Ctr Tryz.prog n_spec_ScriptInts [aL 4 (xs.map GOp.enc)] [rL 1 ((scriptInts xs).map encI)] := by
 refine cA m_spec_ScriptInts 2 36 [(.tmp 2, [true])] Tryz.func217 rfl rfl ?_; unfold m_spec_ScriptInts
 intro hb
 simp only [bdA, bdL, bdT, bdR_map, roomB, and_true, List.length_map] at hb
 obtain ⟨hl, -⟩ := hb
 simp only [↓reduceIte, reduceEqDiff, reduceLT, reduceAdd, reduceMul, reduceCtorEq, go_sem]
 refine loopK_rng xs (fun k => [(3, .val false [.ref 0 0 1 0 (scriptInts (xs.take k)).length]), (4, vI k)]) (fun k => [(0, ⟨0, .row true 1 ((scriptInts (xs.take k)).map encI)⟩)]) (fun _ => True) hl ?_
 simp only [↓reduceIte, reduceEqDiff, reduceAdd, reduceCtorEq, go_sem]
 refine ⟨?_, trivial, ?_, ?_⟩
 ·simp only [↓reduceIte, reduceEqDiff, reduceLT, reduceCtorEq, go_sem, List.take_zero]
  exact ⟨rfl, rfl⟩
 ·intro k x hx _ h0 h1 hw
  have hlt := List.length_take_le k xs
  simp only [↓reduceIte, reduceEqDiff, reduceLT, reduceLeDiff, reduceAdd, reduceMul, reduceCtorEq, go_sem, bk_eq hx, h0, h1, hw, scriptInts_snoc hx, List.length_append, scriptInts_len]
  refine ⟨⟨by simp, by decide⟩, by simp only [roomB]; omega, by simp [encI]⟩
 ·intro _
  simp only [↓reduceIte, reduceEqDiff, reduceLT, reduceCtorEq, go_sem, List.take_length]
def m_spec_l31Same : MC :=
(.seq (pr [.mv 4 cF] [0,1])
(.seq (.seq (pr [.mv 6 (.s 0), .len 7 false (.s 6), .mv 8 (.s 1), .len 9 false (.s 8), .bin 10 false .neq (.s 7) (.s 9)] [0,1,10])
(.cond (.s 10) (.seq (pr [.mv 4 cF] [4])
.ret) .skip))
(.seq (.seq (pr [.mv 5 (ci 0)] [0,1,5])
(.block 0 (.loop ([0,1,5], []) (.seq (.seq (pr [.mv 11 (.s 5), .mv 12 (.s 0), .len 13 false (.s 12), .bin 14 false .lss (.s 11) (.s 13)] [0,1,5,14])
(.cond (.s 14) .skip (.exit 0)))
(.seq (.block 1 (.seq (.dreg [Zc [18,21,22,23,24] (.mv 17 (.s 0)), Zc [17,21,22,23,24] (.mv 18 (.s 5)), Zd [21,22,23,24] [0,1] (.idx 19 6 (.s 17) (.s 18)), Zd [21,22,23,24] [0,1,2] (.load 20 true 6 (.s 19)), Zc [17,18,19,20,22] (.mv 21 (.s 1)), Zc [17,18,19,20,21] (.mv 22 (.s 5)), Zd [17,18,19,20] [4,5] (.idx 23 6 (.s 21) (.s 22)), Zd [17,18,19,20] [4,5,6] (.load 24 true 6 (.s 23)), Ze (.range 8) (.eqA 25 true [.i .i64, .i .i64, .i .i64, .i .i64, .i .i64, .i .i64] (.s 20) (.s 24))] [0,1,5,25])
(.cond (.s 25) (.seq (pr [.mv 4 cF] [4])
.ret) .skip)))
(pr [.mv 15 (.s 5), .bin 16 false .add (.s 15) (ci 1), .mv 5 (.s 16)] [0,1,5]))))))
(.seq (pr [.mv 4 cT] [4])
.ret))))
theorem c_spec_l31Same (xs ys : List GFound) : Ctr Tryz.prog n_spec_l31Same [aL 6 (xs.map GFound.enc), aL 6 (ys.map GFound.enc)] [rB (decide (xs = ys))] := by
 refine cA m_spec_l31Same 0 26 [(.tmp 4, [false])] Tryz.func182 rfl rfl ?_; unfold m_spec_l31Same
 intro hb
 simp only [bdA, bdL, bdT, bdR_map, roomB, and_true, List.length_map] at hb
 obtain ⟨⟨hl, -⟩, ⟨hl2, -⟩⟩ := hb
 simp only [↓reduceIte, reduceEqDiff, reduceLT, reduceCtorEq, go_sem]
 refine ⟨fun h => ne_len h, fun h => ?_⟩
 have hle : xs.length = ys.length := by omega
 refine loopK_rng xs (fun k => [(5, vI k)]) (fun k => []) (fun k => xs.take k = ys.take k) hl ?_
 simp only [↓reduceIte, reduceEqDiff, reduceCtorEq, go_sem]
 refine ⟨?_, rfl, ?_, ?_⟩
 ·simp only [↓reduceIte, reduceEqDiff, reduceLT, reduceCtorEq, go_sem]
 ·intro k x hx he h0 h1 hw
  obtain ⟨y, hy⟩ := at_some (show k < ys.length by omega)
  have h2 : (k : Int) < ys.length := by omega
  simp only [↓reduceIte, reduceEqDiff, reduceLT, reduceAdd, reduceCtorEq, go_sem, bk_eq hx, bk_eq hy, h0, h1, h2, hw]
  exact ⟨fun hn => ne_at hx hy (by rintro rfl; simp at hn), fun hn => (take_eq_step hx hy he).2 (by exact GFound.eqv.2 (by simpa using hn))⟩
 ·intro he
  simp only [↓reduceIte, reduceEqDiff, reduceLT, reduceCtorEq, go_sem]
  exact eq_all he hle
end Go.Proofs.YtpclnmleldeleaaGreatR
namespace Go.Proofs.YtpclnmleldeleaaGreatR
open Go Go.RowKit Go.Proofs
open Nat (reduceEqDiff reduceLT reduceLeDiff reduceAdd reduceMul)
open List (reduceReplicate)
set_option linter.unusedSimpArgs false
set_option linter.unusedVariables false
def modP (v : Int) : Int := (IntKind.i64.wrap (v.tmod 2147483647 + 2147483647)).tmod 2147483647
def hstep (h v : Int) : Int := (IntKind.i64.wrap (IntKind.i64.wrap (IntKind.i64.wrap (h * 1000003) + modP v) + 13)).tmod 2147483647
def hashL (l : List Int) : Int := l.foldl hstep 11
theorem hashL_snoc {l : List Int} {k : Nat} {x : Int} (h : l[k]? = some x) : hashL (l.take (k + 1)) = hstep (hashL (l.take k)) x := by
 rw [take_snoc h, hashL, List.foldl_append]; rfl
theorem modulus_ne : ¬ (2147483647 : Int) = 0 := by decide
def m_spec_Mod : MC :=
(.seq (pr [.mv 4 (ci 0)] [0,1])
(.seq (.seq (pr [.mv 5 (.s 1), .call 6 [] (.f n_spec_l1In) [.s 5, .c (.int .i64 1), .c (.int .i64 1000000000000)], .un 7 .not (.s 6)] [0,1,7])
(.cond (.s 7) (.seq (pr [.mv 4 (ci 0)] [4])
.ret) .skip))
(.seq (pr [.mv 8 (.s 0), .mv 9 (.s 1), .bin 10 false .rem (.s 8) (.s 9), .mv 11 (.s 1), .bin 12 false .add (.s 10) (.s 11), .mv 13 (.s 1), .bin 14 false .rem (.s 12) (.s 13), .mv 4 (.s 14)] [4])
.ret)))
theorem c_spec_Mod (v : Int) : Ctr Tryz.prog n_spec_Mod [aI v, aI 2147483647] [rI (modP v)] := by
 refine cA m_spec_Mod 0 15 [(.tmp 4, [false])] Tryz.func242 rfl rfl ?_; unfold m_spec_Mod
 intro hb
 clear hb
 simp only [↓reduceIte, reduceEqDiff, reduceLT, reduceCtorEq, go_sem]
 apply callK_of (c_spec_l1In _ _ _)
 simp only [↓reduceIte, reduceEqDiff, reduceLT, reduceCtorEq, go_sem, modulus_ne]
 refine And.intro ?_ ?_ <;> intro h
 ·exact absurd (by decide) h
 ·rfl
def m_impl_Mod : MC :=
(.seq (pr [.mv 4 (ci 0)] [0,1])
(.seq (.seq (pr [.mv 5 (.s 1), .call 6 [] (.f n_impl_InRange) [.s 5, .c (.int .i64 1), .c (.int .i64 1000000000000)], .un 7 .not (.s 6)] [0,1,7])
(.cond (.s 7) (.seq (pr [.mv 4 (ci 0)] [4])
.ret) .skip))
(.seq (pr [.mv 8 (.s 0), .mv 9 (.s 1), .bin 10 false .rem (.s 8) (.s 9), .mv 11 (.s 1), .bin 12 false .add (.s 10) (.s 11), .mv 13 (.s 1), .bin 14 false .rem (.s 12) (.s 13), .mv 4 (.s 14)] [4])
.ret)))
theorem c_impl_Mod (v : Int) : Ctr Tryz.prog n_impl_Mod [aI v, aI 2147483647] [rI (modP v)] := by
 refine cA m_impl_Mod 0 15 [(.tmp 4, [false])] Tryz.func243 rfl rfl ?_; unfold m_impl_Mod
 intro hb
 clear hb
 simp only [↓reduceIte, reduceEqDiff, reduceLT, reduceCtorEq, go_sem]
 apply callK_of (c_impl_InRange _ _ _)
 simp only [↓reduceIte, reduceEqDiff, reduceLT, reduceCtorEq, go_sem, modulus_ne]
 refine And.intro ?_ ?_ <;> intro h
 ·exact absurd (by decide) h
 ·rfl
def m_spec_Hash : MC :=
(.seq (pr [.mv 2 (ci 0)] [0])
(.seq (pr [.mv 3 (ci 11)] [0,3])
(.seq (.seq (pr [.mv 4 (ci 0)] [0,3,4])
(.block 0 (.loop ([0,3,4], []) (.seq (.seq (pr [.mv 5 (.s 4), .mv 6 (.s 0), .len 7 false (.s 6), .bin 8 false .lss (.s 5) (.s 7)] [0,3,4,8])
(.cond (.s 8) .skip (.exit 0)))
(.seq (.block 1 (pr [.mv 11 (.s 3), .bin 12 false .mul (.s 11) (ci 1000003), .mv 13 (.s 0), .mv 14 (.s 4), .idx 15 1 (.s 13) (.s 14), .load 16 false 1 (.s 15), .call 17 [] (.f n_spec_Mod) [.s 16, .c (.int .i64 2147483647)], .bin 18 false .add (.s 12) (.s 17), .bin 19 false .add (.s 18) (ci 13), .bin 20 false .rem (.s 19) (ci 2147483647), .mv 3 (.s 20)] [0,3,4]))
(pr [.mv 9 (.s 4), .bin 10 false .add (.s 9) (ci 1), .mv 4 (.s 10)] [0,3,4]))))))
(.seq (pr [.mv 21 (.s 3), .mv 2 (.s 21)] [2])
.ret))))
theorem c_spec_Hash (l : List Int) : Ctr Tryz.prog n_spec_Hash [aL 1 (l.map encI)] [rI (hashL l)] := by
 refine cA m_spec_Hash 0 22 [(.tmp 2, [false])] Tryz.func192 rfl rfl ?_; unfold m_spec_Hash
 intro hb
 simp only [bdA, bdL, bdT, bdR_map, roomB, and_true, List.length_map] at hb
 have hl := hb.1
 clear hb
 simp only [↓reduceIte, reduceEqDiff, reduceLT, reduceCtorEq, go_sem]
 refine loopK_rng l (fun k => [(3, vI (hashL (l.take k))), (4, vI k)]) (fun k => []) (fun _ => True) hl ?_
 simp only [↓reduceIte, reduceEqDiff, reduceCtorEq, go_sem]
 refine ⟨?_, trivial, ?_, ?_⟩
 ·simp only [↓reduceIte, reduceEqDiff, reduceLT, reduceCtorEq, go_sem, List.take_zero]
  rfl
 ·intro k x hx _ h0 h1 hw
  simp only [↓reduceIte, reduceEqDiff, reduceLT, reduceCtorEq, go_sem, bk_eq hx, h0, h1, hashL_snoc hx]
  apply callK_of (c_spec_Mod _)
  simp only [↓reduceIte, reduceEqDiff, reduceLT, reduceCtorEq, go_sem, hw, modulus_ne]
  try intro _
  rfl
 ·intro _
  simp only [↓reduceIte, reduceEqDiff, reduceLT, reduceCtorEq, go_sem, List.take_length]
def m_impl_Hash : MC :=
(.seq (pr [.mv 2 (ci 0)] [0])
(.seq (pr [.mv 3 (ci 11)] [0,3])
(.seq (.seq (pr [.mv 6 (.s 0), .len 7 false (.s 6), .mv 8 (ci 0)] [3,6,7,8])
(.block 0 (.loop ([3,6,7,8], []) (.seq (pr [.bin 9 false .lss (.s 8) (.s 7)] [3,6,7,8,9])
(.seq (.cond (.s 9) .skip (.exit 0))
(.seq (.block 1 (.seq (pr [.idx 10 1 (.s 6) (.s 8), .load 11 false 1 (.s 10), .mv 5 (.s 11)] [3,5,6,7,8])
(pr [.mv 12 (.s 3), .bin 13 false .mul (.s 12) (ci 1000003), .mv 14 (.s 5), .call 15 [] (.f n_impl_Mod) [.s 14, .c (.int .i64 2147483647)], .bin 16 false .add (.s 13) (.s 15), .bin 17 false .add (.s 16) (ci 13), .bin 18 false .rem (.s 17) (ci 2147483647), .mv 3 (.s 18)] [3,6,7,8])))
(pr [.bin 19 false .add (.s 8) (ci 1), .mv 8 (.s 19)] [3,6,7,8])))))))
(.seq (pr [.mv 20 (.s 3), .mv 2 (.s 20)] [2])
.ret))))
theorem c_impl_Hash (l : List Int) : Ctr Tryz.prog n_impl_Hash [aL 1 (l.map encI)] [rI (hashL l)] := by
 refine cA m_impl_Hash 0 21 [(.tmp 2, [false])] Tryz.func194 rfl rfl ?_; unfold m_impl_Hash
 intro hb
 simp only [bdA, bdL, bdT, bdR_map, roomB, and_true, List.length_map] at hb
 have hl := hb.1
 clear hb
 simp only [↓reduceIte, reduceEqDiff, reduceLT, reduceCtorEq, go_sem]
 refine loopK_rng l (fun k => [(3, vI (hashL (l.take k))), (8, vI k)]) (fun k => []) (fun _ => True) hl ?_
 simp only [↓reduceIte, reduceEqDiff, go_sem]
 refine ⟨?_, trivial, ?_, ?_⟩
 ·simp only [↓reduceIte, reduceEqDiff, reduceLT, go_sem, List.take_zero]
  rfl
 ·intro k x hx _ h0 h1 hw
  simp only [↓reduceIte, reduceEqDiff, reduceLT, reduceCtorEq, go_sem, bk_eq hx, h0, h1, hashL_snoc hx]
  apply callK_of (c_impl_Mod _)
  simp only [↓reduceIte, reduceEqDiff, reduceLT, reduceCtorEq, go_sem, hw, modulus_ne]
  try intro _
  rfl
 ·intro _
  simp only [↓reduceIte, reduceEqDiff, reduceLT, reduceCtorEq, go_sem, List.take_length]
def rootF : Nat → List Int → Int
 | 0, _ => 0
 | n + 1, l => match l with
  | [] => 0
  | [x] => x
  | x :: y :: l => hashL [rootF n ((x :: y :: l).take ((l.length + 3) / 2)), rootF n ((x :: y :: l).drop ((l.length + 3) / 2))]
theorem rootF_more : ∀ {n m : Nat} {l : List Int}, l.length ≤ n → l.length ≤ m → rootF n l = rootF m l
 | 0, 0, _, _, _ => rfl
 | 0, m + 1, l, h, _ => by
  obtain rfl : l = [] := List.length_eq_zero_iff.1 (by omega)
  rfl
 | n + 1, 0, l, _, h => by
  obtain rfl : l = [] := List.length_eq_zero_iff.1 (by omega)
  rfl
 | n + 1, m + 1, [], _, _ => rfl
 | n + 1, m + 1, [x], _, _ => rfl
 | n + 1, m + 1, x :: y :: l, h, k => by
  simp only [List.length_cons] at h k
  simp only [rootF]
  rw [rootF_more (n := n) (m := m) (by rw [List.length_take]; simp only [List.length_cons]; omega) (by rw [List.length_take]; simp only [List.length_cons]; omega), rootF_more (n := n) (m := m) (l := (x :: y :: l).drop _) (by rw [List.length_drop]; simp only [List.length_cons]; omega) (by rw [List.length_drop]; simp only [List.length_cons]; omega)]
def rootL (l : List Int) : Int := rootF l.length l
theorem rootF_two {n x y : _} {l : List Int} : rootF (n + 1) (x :: y :: l) = hashL [rootF n ((x :: y :: l).take ((l.length + 3) / 2)), rootF n ((x :: y :: l).drop ((l.length + 3) / 2))] := rfl
theorem rootL_two {l : List Int} (h : 2 ≤ l.length) : rootL l = hashL [rootL (l.take ((l.length + 1) / 2)), rootL (l.drop ((l.length + 1) / 2))] := by
 match l, h with
 | x :: y :: l, h =>
  have e : (x :: y :: l).length + 1 = l.length + 3 := by simp
  rw [e]
  unfold rootL
  rw [show (x :: y :: l).length = (l.length + 1) + 1 from by simp, rootF_two]
  rw [rootF_more (n := l.length + 1) (l := (x :: y :: l).take _) (by rw [List.length_take]; simp only [List.length_cons]; omega) (Nat.le_refl _), rootF_more (n := l.length + 1) (l := (x :: y :: l).drop _) (by rw [List.length_drop]; simp only [List.length_cons]; omega) (Nat.le_refl _)]
theorem two_ne : ¬ (2 : Int) = 0 := by decide
theorem cut_lo {α : Type} {f : α → List T} {l : List α} {m : Nat} (h : m ≤ l.length) : (if ((m : Int) - 0).toNat = l.length then l.map f else List.take ((m : Int) - 0).toNat (l.map f)) = (l.take m).map f := by
 rw [show ((m : Int) - 0).toNat = m by omega]
 split
 ·rename_i e; rw [List.take_of_length_le (by omega)]
 ·rw [List.map_take]
theorem cut_hi {α : Type} {f : α → List T} {l : List α} {m : Nat} (h : m ≤ l.length) : (if m = 0 ∧ ((l.length : Int) - (m : Int)).toNat = l.length then l.map f else List.take ((l.length : Int) - (m : Int)).toNat (List.drop m (l.map f))) = (l.drop m).map f := by
 rw [show ((l.length : Int) - (m : Int)).toNat = l.length - m by omega]
 split
 ·rename_i e; rw [e.1]; rfl
 ·rw [List.take_of_length_le (by simp), List.map_drop]
def m_spec_RootOf : MC :=
(.seq (pr [.mv 2 (ci 0)] [0])
(.seq (.seq (pr [.mv 4 (.s 0), .len 5 false (.s 4)] [0,5])
(.block 0 (.seq (pr [.bin 7 false .eql (.s 5) (ci 0), .mv 6 (.s 7)] [0,5,6])
(.cond (.s 6) (.seq (pr [.mv 2 (ci 0)] [2])
.ret) (.seq (pr [.bin 9 false .eql (.s 5) (ci 1), .mv 8 (.s 9)] [0,8])
(.cond (.s 8) (.seq (pr [.mv 10 (.s 0), .idx 11 1 (.s 10) (ci 0), .load 12 false 1 (.s 11), .mv 2 (.s 12)] [2])
.ret) .skip))))))
(.seq (pr [.mv 13 (.s 0), .len 14 false (.s 13), .bin 15 false .add (.s 14) (ci 1), .bin 16 false .quo (.s 15) (ci 2), .mv 3 (.s 16)] [0,3])
(.seq (.dreg [Zc [18,21,22,23] (.mv 17 (.s 0)), Zc [17,21,22,23] (.mv 18 (.s 3)), Zd [21,22,23] [0,1] (.slc 19 1 (.s 17) none (some (.s 18)) none), Zd [21,22,23] [0,1,2] (.call 20 [] (.f n_spec_RootOf) [.s 19]), Zc [17,18,19,20,22] (.mv 21 (.s 0)), Zc [17,18,19,20,21] (.mv 22 (.s 3)), Zd [17,18,19,20] [4,5] (.slc 23 1 (.s 21) (some (.s 22)) none none), Ze (.range 7) (.call 24 [] (.f n_spec_RootOf) [.s 23]), { o := .lit 25 0 1 8 [.s 20, .s 24], ws := [0], bf := (.range 8) }, Ze (.range 9) (.call 26 [] (.f n_spec_Hash) [.s 25]), Ze (.range 10) (.mv 2 (.s 26))] [2])
.ret))))
theorem c_spec_RootOf (n : Nat) : ∀ (l : List Int), l.length ≤ n → Ctr Tryz.prog n_spec_RootOf [aL 1 (l.map encI)] [rI (rootL l)] := by
 induction n with
 | zero =>
  intro l hn
  obtain rfl : l = [] := List.length_eq_zero_iff.1 (by omega)
  refine cA m_spec_RootOf 1 27 [(.tmp 2, [false])] Tryz.func216 rfl rfl ?_; unfold m_spec_RootOf
  intro hb
  clear hb
  simp only [↓reduceIte, reduceEqDiff, reduceLT, reduceCtorEq, go_sem]
  rfl
 | succ n ih =>
  intro l hn
  refine cA m_spec_RootOf 1 27 [(.tmp 2, [false])] Tryz.func216 rfl rfl ?_; unfold m_spec_RootOf
  intro hb
  simp only [bdA, bdL, bdT, bdR_map, roomB, and_true, List.length_map] at hb
  have hl := hb.1
  clear hb
  have hM1 : IntKind.i64.wrap ((l.length : Int) + 1) = ((l.length + 1 : Nat) : Int) := by rw [wI (by omega) (by omega)]; omega
  have hM2 : ((l.length + 1 : Nat) : Int).tdiv 2 = (((l.length + 1) / 2 : Nat) : Int) := rfl
  have hM3 : IntKind.i64.wrap ((((l.length + 1) / 2 : Nat) : Int)) = (((l.length + 1) / 2 : Nat) : Int) := wI (by omega) (by omega)
  simp only [↓reduceIte, reduceEqDiff, reduceLT, reduceCtorEq, go_sem, two_ne, hM1, hM2, hM3]
  refine And.intro ?_ ?_ <;> intro h
  ·obtain rfl : l = [] := List.length_eq_zero_iff.1 (by omega)
   rfl
  refine And.intro ?_ ?_ <;> intro h2
  ·match l, h2 with
   | [x], _ => simp only [go_sem]; exact ⟨by simp, rfl⟩
   | x :: y :: l, h2 => simp at h2; omega
  ·generalize hm : (l.length + 1) / 2 = m at *
   rw [cut_lo (by omega)]
   refine ⟨⟨by omega, by omega, by omega⟩, ?_⟩
   apply callK_of (ih _ (by rw [List.length_take]; omega))
   simp only [↓reduceIte, reduceEqDiff, reduceLT, reduceCtorEq, go_sem]
   rw [cut_hi (by omega)]
   intros
   refine ⟨⟨by omega, by omega⟩, ?_⟩
   apply callK_of (ih _ (by rw [List.length_drop]; omega))
   simp only [↓reduceIte, reduceEqDiff, reduceLT, reduceAdd, reduceMul, reduceCtorEq, go_sem]
   refine ⟨by decide, ?_⟩
   apply callK_of (c_spec_Hash [rootL (l.take m), rootL (l.drop m)])
   simp only [↓reduceIte, reduceEqDiff, reduceLT, reduceCtorEq, go_sem]
   intros
   rw [rootL_two (l := l) (by omega), hm]
def m_impl_RootOf : MC :=
(.seq (pr [.mv 2 (ci 0)] [0])
(.seq (.seq (pr [.mv 4 (.s 0), .len 5 false (.s 4)] [0,5])
(.block 0 (.seq (pr [.bin 7 false .eql (.s 5) (ci 0), .mv 6 (.s 7)] [0,5,6])
(.cond (.s 6) (.seq (pr [.mv 2 (ci 0)] [2])
.ret) (.seq (pr [.bin 9 false .eql (.s 5) (ci 1), .mv 8 (.s 9)] [0,8])
(.cond (.s 8) (.seq (pr [.mv 10 (.s 0), .idx 11 1 (.s 10) (ci 0), .load 12 false 1 (.s 11), .mv 2 (.s 12)] [2])
.ret) .skip))))))
(.seq (pr [.mv 13 (.s 0), .len 14 false (.s 13), .bin 15 false .add (.s 14) (ci 1), .bin 16 false .quo (.s 15) (ci 2), .mv 3 (.s 16)] [0,3])
(.seq (.dreg [Zc [18,21,22,23] (.mv 17 (.s 0)), Zc [17,21,22,23] (.mv 18 (.s 3)), Zd [21,22,23] [0,1] (.slc 19 1 (.s 17) none (some (.s 18)) none), Zd [21,22,23] [0,1,2] (.call 20 [] (.f n_impl_RootOf) [.s 19]), Zc [17,18,19,20,22] (.mv 21 (.s 0)), Zc [17,18,19,20,21] (.mv 22 (.s 3)), Zd [17,18,19,20] [4,5] (.slc 23 1 (.s 21) (some (.s 22)) none none), Ze (.range 7) (.call 24 [] (.f n_impl_RootOf) [.s 23]), { o := .lit 25 0 1 8 [.s 20, .s 24], ws := [0], bf := (.range 8) }, Ze (.range 9) (.call 26 [] (.f n_impl_Hash) [.s 25]), Ze (.range 10) (.mv 2 (.s 26))] [2])
.ret))))
theorem c_impl_RootOf (n : Nat) : ∀ (l : List Int), l.length ≤ n → Ctr Tryz.prog n_impl_RootOf [aL 1 (l.map encI)] [rI (rootL l)] := by
 induction n with
 | zero =>
  intro l hn
  obtain rfl : l = [] := List.length_eq_zero_iff.1 (by omega)
  refine cA m_impl_RootOf 1 27 [(.tmp 2, [false])] Tryz.func228 rfl rfl ?_; unfold m_impl_RootOf
  intro hb
  clear hb
  simp only [↓reduceIte, reduceEqDiff, reduceLT, reduceCtorEq, go_sem]
  rfl
 | succ n ih =>
  intro l hn
  refine cA m_impl_RootOf 1 27 [(.tmp 2, [false])] Tryz.func228 rfl rfl ?_; unfold m_impl_RootOf
  intro hb
  simp only [bdA, bdL, bdT, bdR_map, roomB, and_true, List.length_map] at hb
  have hl := hb.1
  clear hb
  have hM1 : IntKind.i64.wrap ((l.length : Int) + 1) = ((l.length + 1 : Nat) : Int) := by rw [wI (by omega) (by omega)]; omega
  have hM2 : ((l.length + 1 : Nat) : Int).tdiv 2 = (((l.length + 1) / 2 : Nat) : Int) := rfl
  have hM3 : IntKind.i64.wrap ((((l.length + 1) / 2 : Nat) : Int)) = (((l.length + 1) / 2 : Nat) : Int) := wI (by omega) (by omega)
  simp only [↓reduceIte, reduceEqDiff, reduceLT, reduceCtorEq, go_sem, two_ne, hM1, hM2, hM3]
  refine And.intro ?_ ?_ <;> intro h
  ·obtain rfl : l = [] := List.length_eq_zero_iff.1 (by omega)
   rfl
  refine And.intro ?_ ?_ <;> intro h2
  ·match l, h2 with
   | [x], _ => simp only [go_sem]; exact ⟨by simp, rfl⟩
   | x :: y :: l, h2 => simp at h2; omega
  ·generalize hm : (l.length + 1) / 2 = m at *
   rw [cut_lo (by omega)]
   refine ⟨⟨by omega, by omega, by omega⟩, ?_⟩
   apply callK_of (ih _ (by rw [List.length_take]; omega))
   simp only [↓reduceIte, reduceEqDiff, reduceLT, reduceCtorEq, go_sem]
   rw [cut_hi (by omega)]
   intros
   refine ⟨⟨by omega, by omega⟩, ?_⟩
   apply callK_of (ih _ (by rw [List.length_drop]; omega))
   simp only [↓reduceIte, reduceEqDiff, reduceLT, reduceAdd, reduceMul, reduceCtorEq, go_sem]
   refine ⟨by decide, ?_⟩
   apply callK_of (c_impl_Hash [rootL (l.take m), rootL (l.drop m)])
   simp only [↓reduceIte, reduceEqDiff, reduceLT, reduceCtorEq, go_sem]
   intros
   rw [rootL_two (l := l) (by omega), hm]
end Go.Proofs.YtpclnmleldeleaaGreatR
namespace Go.Proofs.YtpclnmleldeleaaGreatR
open Go Go.RowKit Go.Proofs
open Nat (reduceEqDiff reduceLT reduceLeDiff reduceAdd reduceMul)
open List (reduceReplicate)
set_option linter.unusedSimpArgs false
set_option linter.unusedVariables false
def resInts (r : GResource) : List Int := [r.Kind, r.To.Host, r.To.Path, r.To.Query, r.Body.length] ++ r.Body
def capInts (c : GCapture) : List Int := [c.Address.Host, c.Address.Path, c.Address.Query, c.Tick] ++ resInts c.Resource
theorem resInts_len (r : GResource) : (resInts r).length = 5 + r.Body.length := by simp [resInts]; omega
def m_spec_ResourceInts : MC :=
(.seq (pr [.box 1 0 (.s 0), .nilo 2 1 1] [1])
(.seq (pr [.fld 3 (.s 1) 0, .load 4 false 1 (.s 3), .fld 5 (.s 1) 2, .fld 6 (.s 5) 0, .load 7 false 1 (.s 6), .fld 8 (.s 1) 2, .fld 9 (.s 8) 1, .load 10 false 1 (.s 9), .fld 11 (.s 1) 2, .fld 12 (.s 11) 2, .load 13 false 1 (.s 12), .fld 14 (.s 1) 1, .load 15 false 1 (.s 14), .len 16 false (.s 15), .lit 17 1 1 8 [.s 4, .s 7, .s 10, .s 13, .s 16], .fld 18 (.s 1) 1, .load 19 false 1 (.s 18), .app 20 1 1 8 (.s 17) (.s 19), .mv 2 (.s 20)] [2])
.ret))
theorem c_spec_ResourceInts (r : GResource) (hs : r.Body.length ≤ 1073741824) : Ctr Tryz.prog n_spec_ResourceInts [aS r.enc] [rL 1 ((resInts r).map encI)] := by
 refine cA m_spec_ResourceInts 2 21 [(.tmp 2, [true])] Tryz.func193 rfl rfl ?_; unfold m_spec_ResourceInts
 intro hb
 clear hb
 simp only [↓reduceIte, reduceEqDiff, reduceLT, reduceLeDiff, reduceAdd, reduceMul, reduceCtorEq, go_sem, ↓flat_of (f := encI) (fun _ => rfl) r.Body]
 simp only [roomB]
 refine ⟨by decide, by omega, ?_⟩
 simp [resInts, encI]
 omega
def m_impl_ResourceInts : MC :=
(.seq (pr [.box 1 0 (.s 0), .nilo 2 1 1] [1])
(.seq (pr [.fld 3 (.s 1) 0, .load 4 false 1 (.s 3), .fld 5 (.s 1) 2, .fld 6 (.s 5) 0, .load 7 false 1 (.s 6), .fld 8 (.s 1) 2, .fld 9 (.s 8) 1, .load 10 false 1 (.s 9), .fld 11 (.s 1) 2, .fld 12 (.s 11) 2, .load 13 false 1 (.s 12), .fld 14 (.s 1) 1, .load 15 false 1 (.s 14), .len 16 false (.s 15), .lit 17 1 1 8 [.s 4, .s 7, .s 10, .s 13, .s 16], .fld 18 (.s 1) 1, .load 19 false 1 (.s 18), .app 20 1 1 8 (.s 17) (.s 19), .mv 2 (.s 20)] [2])
.ret))
theorem c_impl_ResourceInts (r : GResource) (hs : r.Body.length ≤ 1073741824) : Ctr Tryz.prog n_impl_ResourceInts [aS r.enc] [rL 1 ((resInts r).map encI)] := by
 refine cA m_impl_ResourceInts 2 21 [(.tmp 2, [true])] Tryz.func195 rfl rfl ?_; unfold m_impl_ResourceInts
 intro hb
 clear hb
 simp only [↓reduceIte, reduceEqDiff, reduceLT, reduceLeDiff, reduceAdd, reduceMul, reduceCtorEq, go_sem, ↓flat_of (f := encI) (fun _ => rfl) r.Body]
 simp only [roomB]
 refine ⟨by decide, by omega, ?_⟩
 simp [resInts, encI]
 omega
def m_spec_CaptureInts : MC :=
(.seq (pr [.box 1 0 (.s 0), .nilo 2 1 1] [1])
(.seq (.dreg [Zf [6,7,8,9,10,11,12,13,15,16,17] [2] (.fld 3 (.s 1) 0), Zg [6,7,8,9,10,11,12,13,15,16,17] [2] [0] (.fld 4 (.s 3) 0), Zg [6,7,8,9,10,11,12,13,15,16,17] [2] [0,1] (.load 5 false 1 (.s 4)), Zf [3,4,5,9,10,11,12,13,15,16,17] [2] (.fld 6 (.s 1) 0), Zg [3,4,5,9,10,11,12,13,15,16,17] [2] [3] (.fld 7 (.s 6) 1), Zg [3,4,5,9,10,11,12,13,15,16,17] [2] [3,4] (.load 8 false 1 (.s 7)), Zf [3,4,5,6,7,8,12,13,15,16,17] [2] (.fld 9 (.s 1) 0), Zg [3,4,5,6,7,8,12,13,15,16,17] [2] [6] (.fld 10 (.s 9) 2), Zg [3,4,5,6,7,8,12,13,15,16,17] [2] [6,7] (.load 11 false 1 (.s 10)), Zf [3,4,5,6,7,8,9,10,11,15,16,17] [2] (.fld 12 (.s 1) 3), Zg [3,4,5,6,7,8,9,10,11,15,16,17] [2] [9] (.load 13 false 1 (.s 12)), { o := .lit 14 1 1 8 [.s 5, .s 8, .s 11, .s 13], hs := [15,16,17], ho := [2], ws := [1], bf := (.range 11) }, Zf [3,4,5,6,7,8,9,10,11,12,13,14] [1] (.fld 15 (.s 1) 4), Zg [3,4,5,6,7,8,9,10,11,12,13,14] [1] [12] (.load 16 true 5 (.s 15)), { o := .call 17 [2] (.f n_spec_ResourceInts) [.s 16], hs := [3,4,5,6,7,8,9,10,11,12,13,14], ho := [1], ws := [2], bf := [12,13] }, { o := .app 18 1 1 8 (.s 14) (.s 17), ws := [1], bf := (.range 15) }, Ze (.range 16) (.mv 2 (.s 18))] [2])
.ret))
theorem c_spec_CaptureInts (c : GCapture) (hs : c.Resource.Body.length ≤ 1073741824) : Ctr Tryz.prog n_spec_CaptureInts [aS c.enc] [rL 1 ((capInts c).map encI)] := by
 refine cA m_spec_CaptureInts 3 19 [(.tmp 2, [true])] Tryz.func258 rfl rfl ?_; unfold m_spec_CaptureInts
 intro hb
 clear hb
 simp only [↓reduceIte, reduceEqDiff, reduceLT, reduceLeDiff, reduceAdd, reduceMul, reduceCtorEq, go_sem]
 refine ⟨by decide, ?_⟩
 apply callK_of (c_spec_ResourceInts c.Resource hs)
 simp only [↓reduceIte, reduceEqDiff, reduceLT, reduceAdd, reduceCtorEq, go_sem, ↓flat_of (f := encI) (fun _ => rfl) (resInts c.Resource), resInts_len]
 simp only [roomB]
 exact ⟨by omega, fun _ => ⟨by omega, by simp [capInts, encI]⟩⟩
def m_impl_CaptureInts : MC :=
(.seq (pr [.box 1 0 (.s 0), .nilo 2 1 1] [1])
(.seq (.dreg [Zf [6,7,8,9,10,11,12,13,15,16,17] [2] (.fld 3 (.s 1) 0), Zg [6,7,8,9,10,11,12,13,15,16,17] [2] [0] (.fld 4 (.s 3) 0), Zg [6,7,8,9,10,11,12,13,15,16,17] [2] [0,1] (.load 5 false 1 (.s 4)), Zf [3,4,5,9,10,11,12,13,15,16,17] [2] (.fld 6 (.s 1) 0), Zg [3,4,5,9,10,11,12,13,15,16,17] [2] [3] (.fld 7 (.s 6) 1), Zg [3,4,5,9,10,11,12,13,15,16,17] [2] [3,4] (.load 8 false 1 (.s 7)), Zf [3,4,5,6,7,8,12,13,15,16,17] [2] (.fld 9 (.s 1) 0), Zg [3,4,5,6,7,8,12,13,15,16,17] [2] [6] (.fld 10 (.s 9) 2), Zg [3,4,5,6,7,8,12,13,15,16,17] [2] [6,7] (.load 11 false 1 (.s 10)), Zf [3,4,5,6,7,8,9,10,11,15,16,17] [2] (.fld 12 (.s 1) 3), Zg [3,4,5,6,7,8,9,10,11,15,16,17] [2] [9] (.load 13 false 1 (.s 12)), { o := .lit 14 1 1 8 [.s 5, .s 8, .s 11, .s 13], hs := [15,16,17], ho := [2], ws := [1], bf := (.range 11) }, Zf [3,4,5,6,7,8,9,10,11,12,13,14] [1] (.fld 15 (.s 1) 4), Zg [3,4,5,6,7,8,9,10,11,12,13,14] [1] [12] (.load 16 true 5 (.s 15)), { o := .call 17 [2] (.f n_impl_ResourceInts) [.s 16], hs := [3,4,5,6,7,8,9,10,11,12,13,14], ho := [1], ws := [2], bf := [12,13] }, { o := .app 18 1 1 8 (.s 14) (.s 17), ws := [1], bf := (.range 15) }, Ze (.range 16) (.mv 2 (.s 18))] [2])
.ret))
theorem c_impl_CaptureInts (c : GCapture) (hs : c.Resource.Body.length ≤ 1073741824) : Ctr Tryz.prog n_impl_CaptureInts [aS c.enc] [rL 1 ((capInts c).map encI)] := by
 refine cA m_impl_CaptureInts 3 19 [(.tmp 2, [true])] Tryz.func225 rfl rfl ?_; unfold m_impl_CaptureInts
 intro hb
 clear hb
 simp only [↓reduceIte, reduceEqDiff, reduceLT, reduceLeDiff, reduceAdd, reduceMul, reduceCtorEq, go_sem]
 refine ⟨by decide, ?_⟩
 apply callK_of (c_impl_ResourceInts c.Resource hs)
 simp only [↓reduceIte, reduceEqDiff, reduceLT, reduceAdd, reduceCtorEq, go_sem, ↓flat_of (f := encI) (fun _ => rfl) (resInts c.Resource), resInts_len]
 simp only [roomB]
 exact ⟨by omega, fun _ => ⟨by omega, by simp [capInts, encI]⟩⟩
def entInts (l : List GEntry) : List Int := l.flatMap fun e => [e.Kind, e.Address.Host, e.Address.Path, e.Address.Query, e.Value]
theorem entInts_snoc {l : List GEntry} {k : Nat} {x : GEntry} (h : l[k]? = some x) : entInts (l.take (k + 1)) = entInts (l.take k) ++ [x.Kind, x.Address.Host, x.Address.Path, x.Address.Query, x.Value] := by
 rw [take_snoc h, entInts, List.flatMap_append]; rfl
theorem entInts_len {l : List GEntry} : (entInts l).length = 5 * l.length := by
 induction l with
 | nil => rfl
 | cons x l ih => simp only [entInts, List.flatMap_cons, List.length_append, List.length_cons, List.length_nil] at ih ⊢; omega
def m_spec_l30Entries : MC :=
(.seq (pr [.nilo 2 0 1] [0])
(.seq (pr [.lit 6 0 1 8 [], .mv 3 (.s 6)] [0,3])
(.seq (.seq (pr [.mv 4 (ci 0)] [0,3,4])
(.block 0 (.loop ([0,3,4], [1,2]) (.seq (.seq (pr [.mv 7 (.s 4), .mv 8 (.s 0), .len 9 false (.s 8), .bin 10 false .lss (.s 7) (.s 9)] [0,3,4,10])
(.cond (.s 10) .skip (.exit 0)))
(.seq (.block 1 (.seq (pr [.mv 13 (.s 0), .mv 14 (.s 4), .idx 15 5 (.s 13) (.s 14), .load 16 true 5 (.s 15), .alloc 5 1 [pz, pz, pz, pz, pz], .store 5 (.s 5) (.s 16)] [0,3,4,5])
(pr [.mv 17 (.s 3), .fld 18 (.s 5) 0, .load 19 false 1 (.s 18), .fld 20 (.s 5) 1, .fld 21 (.s 20) 0, .load 22 false 1 (.s 21), .fld 23 (.s 5) 1, .fld 24 (.s 23) 1, .load 25 false 1 (.s 24), .fld 26 (.s 5) 1, .fld 27 (.s 26) 2, .load 28 false 1 (.s 27), .fld 29 (.s 5) 4, .load 30 false 1 (.s 29), .lit 31 2 1 8 [.s 19, .s 22, .s 25, .s 28, .s 30], .app 32 0 1 8 (.s 17) (.s 31), .mv 3 (.s 32)] [0,3,4])))
(pr [.mv 11 (.s 4), .bin 12 false .add (.s 11) (ci 1), .mv 4 (.s 12)] [0,3,4]))))))
(.seq (pr [.mv 33 (.s 3), .mv 2 (.s 33)] [2])
.ret))))
theorem c_spec_l30Entries (xs : List GEntry) (hN : xs.length ≤ 1073741824) : Ctr Tryz.prog n_spec_l30Entries [aL 5 (xs.map GEntry.enc)] [rL 1 ((entInts xs).map encI)] := by
 refine cA m_spec_l30Entries 3 34 [(.tmp 2, [true])] Tryz.func218 rfl rfl ?_; unfold m_spec_l30Entries
 intro hb
 simp only [bdA, bdL, bdT, bdR_map, roomB, and_true, List.length_map] at hb
 obtain ⟨hl, -⟩ := hb
 simp only [↓reduceIte, reduceEqDiff, reduceLT, reduceAdd, reduceMul, reduceCtorEq, go_sem]
 refine loopK_rng xs (fun k => [(3, .val false [.ref 0 0 1 0 (entInts (xs.take k)).length]), (4, vI k)]) (fun k => [(0, ⟨0, .row true 1 ((entInts (xs.take k)).map encI)⟩)]) (fun _ => True) hl ?_
 simp only [↓reduceIte, reduceEqDiff, reduceAdd, reduceCtorEq, go_sem]
 refine ⟨?_, trivial, ?_, ?_⟩
 ·simp only [↓reduceIte, reduceEqDiff, reduceLT, reduceCtorEq, go_sem, List.take_zero]
  exact ⟨rfl, rfl⟩
 ·intro k x hx _ h0 h1 hw
  have hlt := List.length_take_le k xs
  simp only [↓reduceIte, reduceEqDiff, reduceLT, reduceLeDiff, reduceAdd, reduceMul, reduceCtorEq, go_sem, bk_eq hx, h0, h1, hw, entInts_snoc hx, List.length_append, entInts_len]
  refine ⟨⟨by simp, by decide⟩, by simp only [roomB]; omega, by simp [encI]⟩
 ·intro _
  simp only [↓reduceIte, reduceEqDiff, reduceLT, reduceCtorEq, go_sem, List.take_length]
def capHashes (l : List GCapture) : List Int := l.map fun c => hashL (capInts c)
theorem capHashes_snoc {l : List GCapture} {k : Nat} {x : GCapture} (h : l[k]? = some x) : capHashes (l.take (k + 1)) = capHashes (l.take k) ++ [hashL (capInts x)] := by
 rw [take_snoc h, capHashes, List.map_append]; rfl
theorem capHashes_len {l : List GCapture} : (capHashes l).length = l.length := by simp [capHashes]
theorem body_le {xs : List GCapture} {x : GCapture} {k : Nat} {n : Nat} (hx : xs[k]? = some x) (hs : xs.length + (xs.map GCapture.size).sum ≤ n) : x.Resource.Body.length ≤ n := by
 have hx1 := mem_sum (f := GCapture.size) (at_mem hx)
 simp only [GCapture.size, GResource.size] at hx1 hs
 omega
def m_spec_l30Captures : MC :=
(.seq (pr [.nilo 2 0 1] [0])
(.seq (pr [.lit 5 0 1 8 [], .mv 3 (.s 5)] [0,3])
(.seq (.seq (pr [.mv 4 (ci 0)] [0,3,4])
(.block 0 (.loop ([0,3,4], [1,2]) (.seq (.seq (pr [.mv 6 (.s 4), .mv 7 (.s 0), .len 8 false (.s 7), .bin 9 false .lss (.s 6) (.s 8)] [0,3,4,9])
(.cond (.s 9) .skip (.exit 0)))
(.seq (.block 1 (pr [.mv 12 (.s 3), .mv 13 (.s 0), .mv 14 (.s 4), .idx 15 9 (.s 13) (.s 14), .load 16 true 9 (.s 15), .call 17 [1] (.f n_spec_CaptureInts) [.s 16], .call 18 [] (.f n_spec_Hash) [.s 17], .lit 19 2 1 8 [.s 18], .app 20 0 1 8 (.s 12) (.s 19), .mv 3 (.s 20)] [0,3,4]))
(pr [.mv 10 (.s 4), .bin 11 false .add (.s 10) (ci 1), .mv 4 (.s 11)] [0,3,4]))))))
(.seq (pr [.mv 21 (.s 3), .mv 2 (.s 21)] [2])
.ret))))
theorem c_spec_l30Captures (xs : List GCapture) (hs : xs.length + (xs.map GCapture.size).sum ≤ 1073741824) : Ctr Tryz.prog n_spec_l30Captures [aL 9 (xs.map GCapture.enc)] [rL 1 ((capHashes xs).map encI)] := by
 refine cA m_spec_l30Captures 3 22 [(.tmp 2, [true])] Tryz.func219 rfl rfl ?_; unfold m_spec_l30Captures
 intro hb
 clear hb
 simp only [↓reduceIte, reduceEqDiff, reduceLT, reduceAdd, reduceMul, reduceCtorEq, go_sem]
 refine loopK_rng xs (fun k => [(3, .val false [.ref 0 0 1 0 (capHashes (xs.take k)).length]), (4, vI k)]) (fun k => [(0, ⟨0, .row true 1 ((capHashes (xs.take k)).map encI)⟩)]) (fun _ => True) (by simp only [roomB]; omega) ?_
 simp only [↓reduceIte, reduceEqDiff, reduceAdd, reduceCtorEq, go_sem]
 refine ⟨?_, trivial, ?_, ?_⟩
 ·simp only [↓reduceIte, reduceEqDiff, reduceLT, reduceCtorEq, go_sem, List.take_zero]
  exact ⟨rfl, rfl⟩
 ·intro k x hx _ h0 h1 hw
  have hlt := List.length_take_le k xs
  simp only [↓reduceIte, reduceEqDiff, reduceLT, reduceAdd, reduceCtorEq, go_sem, bk_eq hx, h0, h1, capHashes_snoc hx, List.length_append]
  apply callK_of (c_spec_CaptureInts x (body_le hx hs))
  simp only [↓reduceIte, reduceLT, reduceAdd, reduceCtorEq, go_sem]
  try intro _
  apply callK_of (c_spec_Hash (capInts x))
  simp only [↓reduceIte, reduceEqDiff, reduceLT, reduceAdd, reduceMul, reduceCtorEq, go_sem, hw]
  simp only [roomB, capHashes_len]
  exact ⟨by omega, by omega, fun _ => by simp [encI]⟩
 ·intro _
  simp only [↓reduceIte, reduceEqDiff, reduceLT, reduceCtorEq, go_sem, List.take_length]
def sealRoot (l : List GOp) (es : List GEntry) (cs : List GCapture) : Int := rootL [hashL (scriptInts l), hashL (entInts es), rootL (capHashes cs)]
def m_spec_SealContainer : MC :=
(.seq (pr [.alloc 6 0 [.emp 4, .emp 5, .emp 9, pz]] [0,1,2,6])
(.seq (pr [.lit 8 1 4 32 [], .mv 9 (.s 0), .app 10 1 4 32 (.s 8) (.s 9), .lit 11 2 5 40 [], .mv 12 (.s 1), .app 13 2 5 40 (.s 11) (.s 12), .mv 14 (.s 2), .call 15 [3] (.f n_spec_l15Copy) [.s 14], .build 16 [.emp 4, .emp 5, .emp 9, pz] [(0, 1, .s 10), (1, 1, .s 13), (2, 1, .s 15)], .alloc 7 4 [.emp 4, .emp 5, .emp 9, pz], .store 4 (.s 7) (.s 16)] [0,1,2,6,7])
(.seq (pr [.mv 17 (.s 0), .call 18 [5] (.f n_spec_ScriptInts) [.s 17], .call 19 [] (.f n_spec_Hash) [.s 18], .mv 20 (.s 1), .call 21 [6] (.f n_spec_l30Entries) [.s 20], .call 22 [] (.f n_spec_Hash) [.s 21], .mv 23 (.s 2), .call 24 [7] (.f n_spec_l30Captures) [.s 23], .call 25 [] (.f n_spec_RootOf) [.s 24], .lit 26 8 1 8 [.s 19, .s 22, .s 25], .call 27 [] (.f n_spec_RootOf) [.s 26], .fld 28 (.s 7) 3, .store 1 (.s 28) (.s 27)] [6,7])
(.seq (pr [.load 29 true 4 (.s 7), .store 4 (.s 6) (.s 29)] [6])
.ret))))
theorem c_spec_SealContainer (l : List GOp) (es : List GEntry) (cs : List GCapture) (h1 : l.length ≤ 1073741824) (h2 : es.length ≤ 1073741824) (hs : cs.length + (cs.map GCapture.size).sum ≤ 1073741824) :
  Ctr Tryz.prog n_spec_SealContainer [aL 4 (l.map GOp.enc), aL 5 (es.map GEntry.enc), aL 9 (cs.map GCapture.enc)] [rS (GContainer.enc ⟨l, es, cs, sealRoot l es cs⟩)] := by
 refine cA m_spec_SealContainer 9 30 [(.cell 6 true 4, [true, true, true, false])] Tryz.func157 rfl rfl ?_; unfold m_spec_SealContainer
 intro hb
 clear hb
 simp only [↓reduceIte, reduceEqDiff, reduceLT, reduceAdd, reduceMul, reduceCtorEq, go_sem, ↓flat_of (f := GOp.enc) (fun _ => rfl) l, ↓flat_of (f := GEntry.enc) (fun _ => rfl) es]
 simp only [roomB]
 refine ⟨by omega, by omega, ?_⟩
 apply callK_of (c_spec_l15Copy cs hs)
 simp only [↓reduceIte, reduceEqDiff, reduceLT, reduceLeDiff, reduceAdd, reduceCtorEq, go_sem]
 intros
 apply callK_of (c_spec_ScriptInts l (by omega))
 simp only [↓reduceIte, reduceLT, reduceAdd, reduceCtorEq, go_sem]
 apply callK_of (c_spec_Hash (scriptInts l))
 simp only [↓reduceIte, reduceEqDiff, reduceLT, reduceCtorEq, go_sem]
 apply callK_of (c_spec_l30Entries es h2)
 simp only [↓reduceIte, reduceLT, reduceAdd, reduceCtorEq, go_sem]
 apply callK_of (c_spec_Hash (entInts es))
 simp only [↓reduceIte, reduceEqDiff, reduceLT, reduceCtorEq, go_sem]
 apply callK_of (c_spec_l30Captures cs hs)
 simp only [↓reduceIte, reduceLT, reduceAdd, reduceCtorEq, go_sem]
 apply callK_of (c_spec_RootOf _ (capHashes cs) (Nat.le_refl _))
 simp only [↓reduceIte, reduceEqDiff, reduceLT, reduceAdd, reduceMul, go_sem]
 refine ⟨by decide, ?_⟩
 apply callK_of (c_spec_RootOf _ [hashL (scriptInts l), hashL (entInts es), rootL (capHashes cs)] (Nat.le_refl _))
 simp only [↓reduceIte, reduceEqDiff, reduceLT, reduceAdd, reduceCtorEq, go_sem]
 intros
 rfl
def m_spec_l30Copy : MC :=
(.seq (pr [.box 1 0 (.s 0), .alloc 2 1 [.emp 4, .emp 5, .emp 9, pz]] [1,2])
(.seq (pr [.fld 4 (.s 1) 0, .load 5 false 1 (.s 4), .fld 6 (.s 1) 1, .load 7 false 1 (.s 6), .fld 8 (.s 1) 2, .load 9 false 1 (.s 8), .call 10 [2, 3, 4] (.f n_spec_SealContainer) [.s 5, .s 7, .s 9], .alloc 3 5 [.emp 4, .emp 5, .emp 9, pz], .store 4 (.s 3) (.s 10)] [1,2,3])
(.seq (pr [.fld 11 (.s 1) 3, .load 12 false 1 (.s 11), .fld 13 (.s 3) 3, .store 1 (.s 13) (.s 12)] [2,3])
(.seq (pr [.load 14 true 4 (.s 3), .store 4 (.s 2) (.s 14)] [2])
.ret))))
theorem c_spec_l30Copy (x : GContainer) (hs : x.size ≤ 1073741824) : Ctr Tryz.prog n_spec_l30Copy [aS x.enc] [rS x.enc] := by
 refine cA m_spec_l30Copy 6 15 [(.cell 2 true 4, [true, true, true, false])] Tryz.func161 rfl rfl ?_; unfold m_spec_l30Copy
 intro hb
 clear hb
 simp only [GContainer.size] at hs
 simp only [↓reduceIte, reduceEqDiff, reduceLT, reduceLeDiff, reduceAdd, reduceCtorEq, go_sem]
 apply callK_of (c_spec_SealContainer x.Script x.Entries x.Captures (by omega) (by omega) (by omega))
 simp only [↓reduceIte, reduceEqDiff, reduceLT, reduceAdd, reduceCtorEq, go_sem]
 try intros
 try trivial
def m_impl_copyContainers : MC :=
(.seq (pr [.nilo 2 0 4] [0])
(.seq (pr [.nilo 3 0 4] [0,3])
(.seq (.seq (pr [.mv 6 (.s 0), .len 7 false (.s 6), .mv 8 (ci 0)] [3,6,7,8])
(.block 0 (.loop ([3,6,7,8], [1,2,3,4,5]) (.seq (pr [.bin 9 false .lss (.s 8) (.s 7)] [3,6,7,8,9])
(.seq (.cond (.s 9) .skip (.exit 0))
(.seq (.block 1 (.seq (pr [.idx 10 4 (.s 6) (.s 8), .load 11 true 4 (.s 10), .alloc 5 1 [.emp 4, .emp 5, .emp 9, pz], .store 4 (.s 5) (.s 11)] [3,5,6,7,8])
(.dreg [Zf [13,14,15,16,17,18,19,20,21,22,23,24,25] [2,3,4,5] (.mv 12 (.s 3)), Zc [12,16,17,19,20,22,23] (.fld 13 (.s 5) 0), Zd [12,16,17,19,20,22,23] [1] (.load 14 false 1 (.s 13)), { o := .call 15 [2] (.f n_slices_Clone_impl_Op_impl_Op) [.s 14], hs := [12,16,17,19,20,22,23], ws := [2], bf := [1,2] }, Zf [12,13,14,15,19,20,22,23] [2] (.fld 16 (.s 5) 1), Zg [12,13,14,15,19,20,22,23] [2] [4] (.load 17 false 1 (.s 16)), { o := .call 18 [3] (.f n_slices_Clone_impl_Entry_impl_Entry) [.s 17], hs := [12,19,20,22,23], ws := [3], bf := [1,2,3,4,5] }, Zf [12,13,14,15,16,17,18,22,23] [2,3] (.fld 19 (.s 5) 2), Zg [12,13,14,15,16,17,18,22,23] [2,3] [7] (.load 20 false 1 (.s 19)), { o := .call 21 [4] (.f n_impl_copyCaptures) [.s 20], hs := [12,22,23], ws := [4], bf := [1,2,3,4,5,6,7,8] }, Zf [12,13,14,15,16,17,18,19,20,21] [2,3,4] (.fld 22 (.s 5) 3), Zg [12,13,14,15,16,17,18,19,20,21] [2,3,4] [10] (.load 23 false 1 (.s 22)), Zd [12] [1,2,3,4,5,6,7,8,9,10,11] (.build 24 [.emp 4, .emp 5, .emp 9, pz] [(0, 1, .s 15), (1, 1, .s 18), (2, 1, .s 21), (3, 1, .s 23)]), { o := .lit 25 5 4 80 [.s 24], hs := [12], ws := [2,3,4,5], bf := [1,2,3,4,5,6,7,8,9,10,11,12] }, { o := .app 26 0 4 80 (.s 12) (.s 25), ws := [0,5], bf := (.range 14) }, Ze (.range 15) (.mv 3 (.s 26))] [3,6,7,8])))
(pr [.bin 27 false .add (.s 8) (ci 1), .mv 8 (.s 27)] [3,6,7,8])))))))
(.seq (pr [.mv 28 (.s 3), .mv 2 (.s 28)] [2])
.ret))))
theorem c_impl_copyContainers (xs : List GContainer) (hs : xs.length + (xs.map GContainer.size).sum ≤ 1073741824) : Ctr Tryz.prog n_impl_copyContainers [aL 4 (xs.map GContainer.enc)] [rL 4 (xs.map GContainer.enc)] := by
 refine cA m_impl_copyContainers 6 29 [(.tmp 2, [true])] Tryz.func170 rfl rfl ?_; unfold m_impl_copyContainers
 intro hb
 clear hb
 simp only [↓reduceIte, reduceEqDiff, reduceLT, reduceAdd, reduceCtorEq, go_sem]
 refine loopK_rng xs (fun k => [(3, .val false [.ref 0 0 4 0 (xs.take k).length]), (8, vI k)]) (fun k => [(0, ⟨0, .row true 4 ((xs.take k).map GContainer.enc)⟩)]) (fun _ => True) (by simp only [roomB]; omega) ?_
 simp only [↓reduceIte, reduceEqDiff, reduceAdd, reduceCtorEq, go_sem]
 refine ⟨?_, trivial, ?_, ?_⟩
 ·simp only [↓reduceIte, reduceEqDiff, reduceLT, go_sem, List.take_zero]
 ·intro k x hx _ h0 h1 hw
  have hk : k < xs.length := by omega
  have hlt := List.length_take_le k xs
  have hx1 := mem_sum (f := GContainer.size) (at_mem hx)
  simp only [GContainer.size] at hx1
  simp only [↓reduceIte, reduceEqDiff, reduceLT, reduceLeDiff, reduceAdd, reduceCtorEq, go_sem, bk_eq hx, h0, h1]
  apply callK_of (c_slices_Clone_Op x.Script (by omega))
  simp only [↓reduceIte, reduceEqDiff, reduceLT, reduceLeDiff, reduceAdd, reduceCtorEq, go_sem]
  try intro _
  apply callK_of (c_slices_Clone_Entry x.Entries (by omega))
  simp only [↓reduceIte, reduceEqDiff, reduceLT, reduceLeDiff, reduceAdd, reduceCtorEq, go_sem]
  try intro _
  apply callK_of (c_impl_copyCaptures x.Captures (by omega))
  simp only [↓reduceIte, reduceEqDiff, reduceLT, reduceLeDiff, reduceAdd, reduceMul, reduceCtorEq, go_sem, hw]
  simp only [roomB]
  exact ⟨by omega, by omega, fun _ => ⟨snoc_len hx, snoc_map hx⟩⟩
 ·intro _
  simp only [↓reduceIte, reduceEqDiff, reduceLT, reduceCtorEq, go_sem, List.take_length]
def m_impl_copySite : MC :=
(.seq (pr [.nilo 2 0 9] [0])
(.seq (pr [.nilo 3 0 9] [0,3])
(.seq (.seq (pr [.mv 6 (.s 0), .len 7 false (.s 6), .mv 8 (ci 0)] [3,6,7,8])
(.block 0 (.loop ([3,6,7,8], [1,2,3]) (.seq (pr [.bin 9 false .lss (.s 8) (.s 7)] [3,6,7,8,9])
(.seq (.cond (.s 9) .skip (.exit 0))
(.seq (.block 1 (.seq (pr [.idx 10 9 (.s 6) (.s 8), .load 11 true 9 (.s 10), .alloc 5 1 [pz, pz, pz, pz, pz, .emp 1, pz, pz, pz], .store 9 (.s 5) (.s 11)] [3,5,6,7,8])
(.dreg [Zf [13,14,15,16,17,18,19,20,21] [2,3] (.mv 12 (.s 3)), Zf [12,15,16,17,18,19] [2] (.fld 13 (.s 5) 0), Zg [12,15,16,17,18,19] [2] [1] (.load 14 true 3 (.s 13)), Zf [12,13,14,17,18,19] [2] (.fld 15 (.s 5) 3), Zg [12,13,14,17,18,19] [2] [3] (.load 16 false 1 (.s 15)), Zc [12,13,14,15,16] (.fld 17 (.s 5) 4), Zd [12,13,14,15,16] [5] (.load 18 true 5 (.s 17)), { o := .call 19 [2] (.f n_impl_copyResource) [.s 18], hs := [12,13,14,15,16], ws := [2], bf := [5,6] }, Zd [12] [1,2,3,4,5,6,7] (.build 20 [pz, pz, pz, pz, pz, .emp 1, pz, pz, pz] [(0, 3, .s 14), (3, 1, .s 16), (4, 5, .s 19)]), { o := .lit 21 3 9 88 [.s 20], hs := [12], ws := [2,3], bf := [1,2,3,4,5,6,7,8] }, { o := .app 22 0 9 88 (.s 12) (.s 21), ws := [0,3], bf := (.range 10) }, Ze (.range 11) (.mv 3 (.s 22))] [3,6,7,8])))
(pr [.bin 23 false .add (.s 8) (ci 1), .mv 8 (.s 23)] [3,6,7,8])))))))
(.seq (pr [.mv 24 (.s 3), .mv 2 (.s 24)] [2])
.ret))))
theorem c_impl_copySite (xs : List GVersion) (hs : xs.length + (xs.map GVersion.size).sum ≤ 1073741824) : Ctr Tryz.prog n_impl_copySite [aL 9 (xs.map GVersion.enc)] [rL 9 (xs.map GVersion.enc)] := by
 refine cA m_impl_copySite 4 25 [(.tmp 2, [true])] Tryz.func68 rfl rfl ?_; unfold m_impl_copySite
 intro hb
 clear hb
 simp only [↓reduceIte, reduceEqDiff, reduceLT, reduceAdd, reduceCtorEq, go_sem]
 refine loopK_rng xs (fun k => [(3, .val false [.ref 0 0 9 0 (xs.take k).length]), (8, vI k)]) (fun k => [(0, ⟨0, .row true 9 ((xs.take k).map GVersion.enc)⟩)]) (fun _ => True) (by simp only [roomB]; omega) ?_
 simp only [↓reduceIte, reduceEqDiff, reduceAdd, reduceCtorEq, go_sem]
 refine ⟨?_, trivial, ?_, ?_⟩
 ·simp only [↓reduceIte, reduceEqDiff, reduceLT, go_sem, List.take_zero]
 ·intro k x hx _ h0 h1 hw
  have hk : k < xs.length := by omega
  have hlt := List.length_take_le k xs
  have hx1 := mem_sum (f := GVersion.size) (at_mem hx)
  simp only [↓reduceIte, reduceEqDiff, reduceLT, reduceLeDiff, reduceAdd, reduceCtorEq, go_sem, bk_eq hx, h0, h1]
  apply callK_of (c_impl_copyResource x.Resource (by simp only [GVersion.size, GResource.size] at hx1; omega))
  simp only [↓reduceIte, reduceEqDiff, reduceLT, reduceLeDiff, reduceAdd, reduceMul, reduceCtorEq, go_sem, hw]
  simp only [roomB]
  exact ⟨by omega, by omega, fun _ => ⟨snoc_len hx, snoc_map hx⟩⟩
 ·intro _
  simp only [↓reduceIte, reduceEqDiff, reduceLT, reduceCtorEq, go_sem, List.take_length]
def m_spec_l32Site : MC :=
(.seq (pr [.nilo 2 0 9] [0])
(.seq (pr [.lit 5 0 9 88 [], .mv 3 (.s 5)] [0,3])
(.seq (.seq (pr [.mv 4 (ci 0)] [0,3,4])
(.block 0 (.loop ([0,3,4], [1,2]) (.seq (.seq (pr [.mv 6 (.s 4), .mv 7 (.s 0), .len 8 false (.s 7), .bin 9 false .lss (.s 6) (.s 8)] [0,3,4,9])
(.cond (.s 9) .skip (.exit 0)))
(.seq (.block 1 (.dreg [Zf [13,14,15,16,17,18,19,20,21,22,23,24,25,26,27,28,29,30] [1,2] (.mv 12 (.s 3)), Zf [12,14,18,19,20,21,22,23,24,25,26,27,28] [1] (.mv 13 (.s 0)), Zf [12,13,18,19,20,21,22,23,24,25,26,27,28] [1] (.mv 14 (.s 4)), Zg [12,18,19,20,21,22,23,24,25,26,27,28] [1] [1,2] (.idx 15 9 (.s 13) (.s 14)), Zg [12,18,19,20,21,22,23,24,25,26,27,28] [1] [1,2,3] (.fld 16 (.s 15) 0), Zg [12,18,19,20,21,22,23,24,25,26,27,28] [1] [1,2,3,4] (.load 17 true 3 (.s 16)), Zf [12,13,14,15,16,17,19,23,24,25,26,27,28] [1] (.mv 18 (.s 0)), Zf [12,13,14,15,16,17,18,23,24,25,26,27,28] [1] (.mv 19 (.s 4)), Zg [12,13,14,15,16,17,23,24,25,26,27,28] [1] [6,7] (.idx 20 9 (.s 18) (.s 19)), Zg [12,13,14,15,16,17,23,24,25,26,27,28] [1] [6,7,8] (.fld 21 (.s 20) 3), Zg [12,13,14,15,16,17,23,24,25,26,27,28] [1] [6,7,8,9] (.load 22 false 1 (.s 21)), Zc [12,13,14,15,16,17,18,19,20,21,22,24] (.mv 23 (.s 0)), Zc [12,13,14,15,16,17,18,19,20,21,22,23] (.mv 24 (.s 4)), Zd [12,13,14,15,16,17,18,19,20,21,22] [11,12] (.idx 25 9 (.s 23) (.s 24)), Zd [12,13,14,15,16,17,18,19,20,21,22] [11,12,13] (.fld 26 (.s 25) 4), Zd [12,13,14,15,16,17,18,19,20,21,22] [11,12,13,14] (.load 27 true 5 (.s 26)), { o := .call 28 [1] (.f n_spec_l5Copy) [.s 27], hs := [12,13,14,15,16,17,18,19,20,21,22], ws := [1], bf := [11,12,13,14,15] }, Zd [12] [1,2,3,4,5,6,7,8,9,10,11,12,13,14,15,16] (.build 29 [pz, pz, pz, pz, pz, .emp 1, pz, pz, pz] [(0, 3, .s 17), (3, 1, .s 22), (4, 5, .s 28)]), { o := .lit 30 2 9 88 [.s 29], hs := [12], ws := [1,2], bf := [1,2,3,4,5,6,7,8,9,10,11,12,13,14,15,16,17] }, { o := .app 31 0 9 88 (.s 12) (.s 30), ws := [0,2], bf := (.range 19) }, Ze (.range 20) (.mv 3 (.s 31))] [0,3,4]))
(pr [.mv 10 (.s 4), .bin 11 false .add (.s 10) (ci 1), .mv 4 (.s 11)] [0,3,4]))))))
(.seq (pr [.mv 32 (.s 3), .mv 2 (.s 32)] [2])
.ret))))
theorem c_spec_l32Site (xs : List GVersion) (hs : xs.length + (xs.map GVersion.size).sum ≤ 1073741824) : Ctr Tryz.prog n_spec_l32Site [aL 9 (xs.map GVersion.enc)] [rL 9 (xs.map GVersion.enc)] := by
 refine cA m_spec_l32Site 3 33 [(.tmp 2, [true])] Tryz.func61 rfl rfl ?_; unfold m_spec_l32Site
 intro hb
 clear hb
 simp only [↓reduceIte, reduceEqDiff, reduceLT, reduceAdd, reduceMul, reduceCtorEq, go_sem]
 refine loopK_rng xs (fun k => [(3, .val false [.ref 0 0 9 0 (xs.take k).length]), (4, vI k)]) (fun k => [(0, ⟨0, .row true 9 ((xs.take k).map GVersion.enc)⟩)]) (fun _ => True) (by simp only [roomB]; omega) ?_
 simp only [↓reduceIte, reduceEqDiff, reduceAdd, reduceCtorEq, go_sem]
 refine ⟨?_, trivial, ?_, ?_⟩
 ·simp only [↓reduceIte, reduceEqDiff, reduceLT, reduceCtorEq, go_sem, List.take_zero]
 ·intro k x hx _ h0 h1 hw
  have hk : k < xs.length := by omega
  have hlt := List.length_take_le k xs
  have hx1 := mem_sum (f := GVersion.size) (at_mem hx)
  simp only [↓reduceIte, reduceEqDiff, reduceLT, reduceLeDiff, reduceAdd, reduceCtorEq, go_sem, bk_eq hx, h0, h1]
  apply callK_of (c_spec_l5Copy x.Resource (by simp only [GVersion.size, GResource.size] at hx1; omega))
  simp only [↓reduceIte, reduceEqDiff, reduceLT, reduceLeDiff, reduceAdd, reduceMul, reduceCtorEq, go_sem, hw]
  simp only [roomB]
  exact ⟨by omega, by omega, fun _ => ⟨snoc_len hx, snoc_map hx⟩⟩
 ·intro _
  simp only [↓reduceIte, reduceEqDiff, reduceLT, reduceCtorEq, go_sem, List.take_length]
def m_impl_copyLibraries : MC :=
(.seq (pr [.nilo 2 0 4] [0])
(.seq (pr [.nilo 3 0 4] [0,3])
(.seq (.seq (pr [.mv 6 (.s 0), .len 7 false (.s 6), .mv 8 (ci 0)] [3,6,7,8])
(.block 0 (.loop ([3,6,7,8], [1,2,3]) (.seq (pr [.bin 9 false .lss (.s 8) (.s 7)] [3,6,7,8,9])
(.seq (.cond (.s 9) .skip (.exit 0))
(.seq (.block 1 (.seq (pr [.idx 10 4 (.s 6) (.s 8), .load 11 true 4 (.s 10), .alloc 5 1 [pz, .emp 1, .pl (.sc (.bool false)), .pl (.sc (.bool false))], .store 4 (.s 5) (.s 11)] [3,5,6,7,8])
(.seq (pr [.fld 12 (.s 5) 1, .load 13 false 1 (.s 12), .call 14 [2] (.f n_slices_Clone_int_int) [.s 13], .fld 15 (.s 5) 1, .store 1 (.s 15) (.s 14)] [3,5,6,7,8])
(pr [.mv 16 (.s 3), .load 17 true 4 (.s 5), .lit 18 3 4 40 [.s 17], .app 19 0 4 40 (.s 16) (.s 18), .mv 3 (.s 19)] [3,6,7,8]))))
(pr [.bin 20 false .add (.s 8) (ci 1), .mv 8 (.s 20)] [3,6,7,8])))))))
(.seq (pr [.mv 21 (.s 3), .mv 2 (.s 21)] [2])
.ret))))
theorem c_impl_copyLibraries (xs : List GLibrary) (hs : xs.length + (xs.map GLibrary.size).sum ≤ 1073741824) : Ctr Tryz.prog n_impl_copyLibraries [aL 4 (xs.map GLibrary.enc)] [rL 4 (xs.map GLibrary.enc)] := by
 refine cA m_impl_copyLibraries 4 22 [(.tmp 2, [true])] Tryz.func137 rfl rfl ?_; unfold m_impl_copyLibraries
 intro hb
 clear hb
 simp only [↓reduceIte, reduceEqDiff, reduceLT, reduceAdd, reduceCtorEq, go_sem]
 refine loopK_rng xs (fun k => [(3, .val false [.ref 0 0 4 0 (xs.take k).length]), (8, vI k)]) (fun k => [(0, ⟨0, .row true 4 ((xs.take k).map GLibrary.enc)⟩)]) (fun _ => True) (by simp only [roomB]; omega) ?_
 simp only [↓reduceIte, reduceEqDiff, reduceAdd, reduceCtorEq, go_sem]
 refine ⟨?_, trivial, ?_, ?_⟩
 ·simp only [↓reduceIte, reduceEqDiff, reduceLT, go_sem, List.take_zero]
 ·intro k x hx _ h0 h1 hw
  have hk : k < xs.length := by omega
  have hlt := List.length_take_le k xs
  have hx1 := mem_sum (f := GLibrary.size) (at_mem hx)
  simp only [↓reduceIte, reduceEqDiff, reduceLT, reduceLeDiff, reduceAdd, reduceCtorEq, go_sem, bk_eq hx, h0, h1]
  apply callK_of (c_slices_Clone_int x.Digests (by simp only [GLibrary.size] at hx1; omega))
  simp only [↓reduceIte, reduceEqDiff, reduceLT, reduceLeDiff, reduceAdd, reduceMul, reduceCtorEq, go_sem, hw]
  intro _
  simp only [roomB]
  exact ⟨by omega, by omega, snoc_len hx, snoc_map hx⟩
 ·intro _
  simp only [↓reduceIte, reduceEqDiff, reduceLT, reduceCtorEq, go_sem, List.take_length]
def m_spec_l29Copy : MC :=
(.seq (pr [.nilo 2 0 4] [0])
(.seq (pr [.lit 5 0 4 40 [], .mv 3 (.s 5)] [0,3])
(.seq (.seq (pr [.mv 4 (ci 0)] [0,3,4])
(.block 0 (.loop ([0,3,4], [1,2]) (.seq (.seq (pr [.mv 6 (.s 4), .mv 7 (.s 0), .len 8 false (.s 7), .bin 9 false .lss (.s 6) (.s 8)] [0,3,4,9])
(.cond (.s 9) .skip (.exit 0)))
(.seq (.block 1 (.dreg [Zf [13,14,15,16,17,18,19,20,21,22,23,24,25,26,27,28,29,30,31,32,33,34,35,36] [1,2] (.mv 12 (.s 3)), Zf [12,14,18,19,20,21,22,23,24,25,26,27,28,29,30,31,32,33,34] [1] (.mv 13 (.s 0)), Zf [12,13,18,19,20,21,22,23,24,25,26,27,28,29,30,31,32,33,34] [1] (.mv 14 (.s 4)), Zg [12,18,19,20,21,22,23,24,25,26,27,28,29,30,31,32,33,34] [1] [1,2] (.idx 15 4 (.s 13) (.s 14)), Zg [12,18,19,20,21,22,23,24,25,26,27,28,29,30,31,32,33,34] [1] [1,2,3] (.fld 16 (.s 15) 0), Zg [12,18,19,20,21,22,23,24,25,26,27,28,29,30,31,32,33,34] [1] [1,2,3,4] (.load 17 false 1 (.s 16)), { o := .lit 18 1 1 8 [], hs := [12,13,14,15,16,17,19,20,21,22,23,25,26,27,28,29,30,31,32,33,34], ws := [1] }, Zf [12,13,14,15,16,17,18,20,25,26,27,28,29,30,31,32,33,34] [1] (.mv 19 (.s 0)), Zf [12,13,14,15,16,17,18,19,25,26,27,28,29,30,31,32,33,34] [1] (.mv 20 (.s 4)), Zg [12,13,14,15,16,17,18,25,26,27,28,29,30,31,32,33,34] [1] [7,8] (.idx 21 4 (.s 19) (.s 20)), Zg [12,13,14,15,16,17,18,25,26,27,28,29,30,31,32,33,34] [1] [7,8,9] (.fld 22 (.s 21) 1), Zg [12,13,14,15,16,17,18,25,26,27,28,29,30,31,32,33,34] [1] [7,8,9,10] (.load 23 false 1 (.s 22)), { o := .app 24 1 1 8 (.s 18) (.s 23), hs := [12,13,14,15,16,17,25,26,27,28,29,30,31,32,33,34], ws := [1], bf := [6,7,8,9,10,11] }, Zf [12,13,14,15,16,17,18,19,20,21,22,23,24,26,30,31,32,33,34] [1] (.mv 25 (.s 0)), Zf [12,13,14,15,16,17,18,19,20,21,22,23,24,25,30,31,32,33,34] [1] (.mv 26 (.s 4)), Zg [12,13,14,15,16,17,18,19,20,21,22,23,24,30,31,32,33,34] [1] [13,14] (.idx 27 4 (.s 25) (.s 26)), Zg [12,13,14,15,16,17,18,19,20,21,22,23,24,30,31,32,33,34] [1] [13,14,15] (.fld 28 (.s 27) 2), Zg [12,13,14,15,16,17,18,19,20,21,22,23,24,30,31,32,33,34] [1] [13,14,15,16] (.load 29 false 1 (.s 28)), Zf [12,13,14,15,16,17,18,19,20,21,22,23,24,25,26,27,28,29,31] [1] (.mv 30 (.s 0)), Zf [12,13,14,15,16,17,18,19,20,21,22,23,24,25,26,27,28,29,30] [1] (.mv 31 (.s 4)), Zg [12,13,14,15,16,17,18,19,20,21,22,23,24,25,26,27,28,29] [1] [18,19] (.idx 32 4 (.s 30) (.s 31)), Zg [12,13,14,15,16,17,18,19,20,21,22,23,24,25,26,27,28,29] [1] [18,19,20] (.fld 33 (.s 32) 3), Zg [12,13,14,15,16,17,18,19,20,21,22,23,24,25,26,27,28,29] [1] [18,19,20,21] (.load 34 false 1 (.s 33)), Zd [12] [1,2,3,4,5,6,7,8,9,10,11,12,13,14,15,16,17,18,19,20,21,22] (.build 35 [pz, .emp 1, .pl (.sc (.bool false)), .pl (.sc (.bool false))] [(0, 1, .s 17), (1, 1, .s 24), (2, 1, .s 29), (3, 1, .s 34)]), { o := .lit 36 2 4 40 [.s 35], hs := [12], ws := [1,2], bf := [1,2,3,4,5,6,7,8,9,10,11,12,13,14,15,16,17,18,19,20,21,22,23] }, { o := .app 37 0 4 40 (.s 12) (.s 36), ws := [0,2], bf := (.range 25) }, Ze (.range 26) (.mv 3 (.s 37))] [0,3,4]))
(pr [.mv 10 (.s 4), .bin 11 false .add (.s 10) (ci 1), .mv 4 (.s 11)] [0,3,4]))))))
(.seq (pr [.mv 38 (.s 3), .mv 2 (.s 38)] [2])
.ret))))
theorem c_spec_l29Copy (xs : List GLibrary) (hs : xs.length + (xs.map GLibrary.size).sum ≤ 1073741824) : Ctr Tryz.prog n_spec_l29Copy [aL 4 (xs.map GLibrary.enc)] [rL 4 (xs.map GLibrary.enc)] := by
 refine cA m_spec_l29Copy 3 39 [(.tmp 2, [true])] Tryz.func126 rfl rfl ?_; unfold m_spec_l29Copy
 intro hb
 clear hb
 simp only [↓reduceIte, reduceEqDiff, reduceLT, reduceAdd, reduceMul, reduceCtorEq, go_sem]
 refine loopK_rng xs (fun k => [(3, .val false [.ref 0 0 4 0 (xs.take k).length]), (4, vI k)]) (fun k => [(0, ⟨0, .row true 4 ((xs.take k).map GLibrary.enc)⟩)]) (fun _ => True) (by simp only [roomB]; omega) ?_
 simp only [↓reduceIte, reduceEqDiff, reduceAdd, reduceCtorEq, go_sem]
 refine ⟨?_, trivial, ?_, ?_⟩
 ·simp only [↓reduceIte, reduceEqDiff, reduceLT, reduceCtorEq, go_sem, List.take_zero]
 ·intro k x hx _ h0 h1 hw
  have hk : k < xs.length := by omega
  have hlt := List.length_take_le k xs
  have hx1 := mem_sum (f := GLibrary.size) (at_mem hx)
  simp only [GLibrary.size] at hx1
  simp only [↓reduceIte, reduceEqDiff, reduceLT, reduceLeDiff, reduceAdd, reduceMul, reduceCtorEq, go_sem, bk_eq hx, h0, h1, hw, ↓flat_of (f := encI) (fun _ => rfl) x.Digests]
  simp only [roomB]
  exact ⟨by omega, by omega, by omega, snoc_len hx, snoc_map hx⟩
 ·intro _
  simp only [↓reduceIte, reduceEqDiff, reduceLT, reduceCtorEq, go_sem, List.take_length]
end Go.Proofs.YtpclnmleldeleaaGreatR
namespace Go.Proofs.YtpclnmleldeleaaGreatR
open Go Go.RowKit Go.Proofs
open Nat (reduceEqDiff reduceLT reduceLeDiff reduceAdd reduceMul)
open List (reduceReplicate)
set_option linter.unusedSimpArgs false
set_option linter.unusedVariables false
def m_impl_copyDisk : MC :=
(.seq (pr [.box 1 0 (.s 0), .alloc 2 1 [.emp 4, .emp 6, .emp 4]] [1,2])
(.seq (.dreg [Zc [6,7,9,10] (.fld 3 (.s 1) 0), Zd [6,7,9,10] [0] (.load 4 false 1 (.s 3)), { o := .call 5 [2] (.f n_impl_copyContainers) [.s 4], hs := [6,7,9,10], ws := [2], bf := [0,1] }, Zf [3,4,5,9,10] [2] (.fld 6 (.s 1) 1), Zg [3,4,5,9,10] [2] [3] (.load 7 false 1 (.s 6)), { o := .call 8 [3] (.f n_slices_Clone_impl_Found_impl_Found) [.s 7], hs := [9,10], ws := [3], bf := (.range 5) }, Zf [3,4,5,6,7,8] [2,3] (.fld 9 (.s 1) 2), Zg [3,4,5,6,7,8] [2,3] [6] (.load 10 false 1 (.s 9)), { o := .call 11 [4] (.f n_impl_copyContainers) [.s 10], ws := [4], bf := (.range 8) }, Ze (.range 9) (.build 12 [.emp 4, .emp 6, .emp 4] [(0, 1, .s 5), (1, 1, .s 8), (2, 1, .s 11)]), { o := .store 3 (.s 2) (.s 12), ws := [1,2,3,4], bf := (.range 10) }] [2])
.ret))
theorem c_impl_copyDisk (d : GDisk) (hs : d.size ≤ 1073741824) : Ctr Tryz.prog n_impl_copyDisk [aS d.enc] [rS d.enc] := by
 refine cA m_impl_copyDisk 5 13 [(.cell 2 true 3, [true, true, true])] Tryz.func135 rfl rfl ?_; unfold m_impl_copyDisk
 intro hb
 clear hb
 simp only [GDisk.size] at hs
 simp only [↓reduceIte, reduceEqDiff, reduceLT, reduceLeDiff, reduceAdd, reduceCtorEq, go_sem]
 apply callK_of (c_impl_copyContainers d.Containers (by omega))
 simp only [↓reduceIte, reduceEqDiff, reduceLT, reduceLeDiff, reduceAdd, reduceCtorEq, go_sem]
 apply callK_of (c_slices_Clone_Found d.Index (by omega))
 simp only [↓reduceIte, reduceEqDiff, reduceLT, reduceAdd, reduceCtorEq, go_sem]
 apply callK_of (c_impl_copyContainers d.Wanted (by omega))
 simp only [↓reduceIte, reduceEqDiff, reduceLT, reduceLeDiff, reduceAdd, reduceCtorEq, go_sem]
 try intros
 try trivial
def m_spec_l31Copy : MC :=
(.seq (pr [.box 1 0 (.s 0), .alloc 2 1 [.emp 4, .emp 6, .emp 4]] [1,2])
(.seq (pr [.lit 6 2 6 48 [], .fld 7 (.s 1) 1, .load 8 false 1 (.s 7), .app 9 2 6 48 (.s 6) (.s 8), .buildO 10 [.emp 4, .emp 6, .emp 4] [(1, 1, .s 9)] [some 3, none, some 4], .alloc 3 5 [.emp 4, .emp 6, .emp 4], .store 3 (.s 3) (.s 10)] [1,2,3])
(.seq (.seq (pr [.mv 4 (ci 0)] [1,2,3,4])
(.block 0 (.loop ([1,2,3,4], [6,7,8,9,10,11,12,13]) (.seq (.seq (pr [.mv 11 (.s 4), .fld 12 (.s 1) 0, .load 13 false 1 (.s 12), .len 14 false (.s 13), .bin 15 false .lss (.s 11) (.s 14)] [1,2,3,4,15])
(.cond (.s 15) .skip (.exit 0)))
(.seq (.block 1 (.dreg [Zf [20,21,22,23,24,25,26] [6,7,8,9] (.fld 18 (.s 3) 0), Zg [20,21,22,23,24,25,26] [6,7,8,9] [0] (.load 19 false 1 (.s 18)), Zc [18,19,22] (.fld 20 (.s 1) 0), Zd [18,19,22] [2] (.load 21 false 1 (.s 20)), Zc [18,19,20,21] (.mv 22 (.s 4)), Zd [18,19] [2,3,4] (.idx 23 4 (.s 21) (.s 22)), Zd [18,19] [2,3,4,5] (.load 24 true 4 (.s 23)), { o := .call 25 [6, 7, 8] (.f n_spec_l30Copy) [.s 24], hs := [18,19], ws := [6,7,8], bf := [2,3,4,5,6] }, { o := .lit 26 9 4 80 [.s 25], hs := [18,19], ws := [6,7,8,9], bf := [2,3,4,5,6,7] }, { o := .app 27 3 4 80 (.s 19) (.s 26), ws := [3,9], bf := (.range 9) }, Ze (.range 10) (.fld 28 (.s 3) 0), { o := .store 1 (.s 28) (.s 27), ws := [3,5], bf := (.range 11) }] [1,2,3,4]))
(pr [.mv 16 (.s 4), .bin 17 false .add (.s 16) (ci 1), .mv 4 (.s 17)] [1,2,3,4]))))))
(.seq (.seq (pr [.mv 5 (ci 0)] [1,2,3,5])
(.block 2 (.loop ([1,2,3,5], [6,7,8,9,10,11,12,13]) (.seq (.seq (pr [.mv 29 (.s 5), .fld 30 (.s 1) 2, .load 31 false 1 (.s 30), .len 32 false (.s 31), .bin 33 false .lss (.s 29) (.s 32)] [1,2,3,5,33])
(.cond (.s 33) .skip (.exit 2)))
(.seq (.block 3 (.dreg [Zf [38,39,40,41,42,43,44] [10,11,12,13] (.fld 36 (.s 3) 2), Zg [38,39,40,41,42,43,44] [10,11,12,13] [0] (.load 37 false 1 (.s 36)), Zc [36,37,40] (.fld 38 (.s 1) 2), Zd [36,37,40] [2] (.load 39 false 1 (.s 38)), Zc [36,37,38,39] (.mv 40 (.s 5)), Zd [36,37] [2,3,4] (.idx 41 4 (.s 39) (.s 40)), Zd [36,37] [2,3,4,5] (.load 42 true 4 (.s 41)), { o := .call 43 [10, 11, 12] (.f n_spec_l30Copy) [.s 42], hs := [36,37], ws := [10,11,12], bf := [2,3,4,5,6] }, { o := .lit 44 13 4 80 [.s 43], hs := [36,37], ws := [10,11,12,13], bf := [2,3,4,5,6,7] }, { o := .app 45 4 4 80 (.s 37) (.s 44), ws := [4,13], bf := (.range 9) }, Ze (.range 10) (.fld 46 (.s 3) 2), { o := .store 1 (.s 46) (.s 45), ws := [4,5], bf := (.range 11) }] [1,2,3,5]))
(pr [.mv 34 (.s 5), .bin 35 false .add (.s 34) (ci 1), .mv 5 (.s 35)] [1,2,3,5]))))))
(.seq (pr [.load 47 true 3 (.s 3), .store 3 (.s 2) (.s 47)] [2])
.ret)))))
theorem c_spec_l31Copy (d : GDisk) (hs : d.size ≤ 1073741824) : Ctr Tryz.prog n_spec_l31Copy [aS d.enc] [rS d.enc] := by
 refine cA m_spec_l31Copy 14 48 [(.cell 2 true 3, [true, true, true])] Tryz.func125 rfl rfl ?_; unfold m_spec_l31Copy
 intro hb
 clear hb
 simp only [GDisk.size] at hs
 simp only [↓reduceIte, reduceEqDiff, reduceLT, reduceLeDiff, reduceAdd, reduceMul, reduceCtorEq, go_sem, ↓flat_of (f := GFound.enc) (fun _ => rfl) d.Index]
 simp only [roomB]
 refine ⟨by omega, ?_⟩
 refine loopK_rng d.Containers (fun k => [(4, vI k)]) (fun k => [(3, ⟨0, .row true 4 ((d.Containers.take k).map GContainer.enc)⟩), (5, ⟨0, .box [.ref 3 0 4 0 (d.Containers.take k).length, .ref 2 0 6 0 d.Index.length, .ref 4 0 4 0 0]⟩)]) (fun _ => True) (by simp only [roomB]; omega) ?_
 simp only [↓reduceIte, reduceEqDiff, reduceAdd, reduceCtorEq, go_sem]
 refine ⟨?_, trivial, ?_, ?_⟩
 ·simp only [↓reduceIte, reduceEqDiff, reduceLT, go_sem, List.take_zero]
 ·intro k x hx _ h0 h1 hw
  have hlt := List.length_take_le k d.Containers
  have hk : k < d.Containers.length := by omega
  have hx1 := mem_sum (f := GContainer.size) (at_mem hx)
  simp only [↓reduceIte, reduceEqDiff, reduceLT, reduceLeDiff, reduceAdd, reduceCtorEq, go_sem, bk_eq hx, h0, h1]
  apply callK_of (c_spec_l30Copy x (by omega))
  simp only [↓reduceIte, reduceEqDiff, reduceLT, reduceLeDiff, reduceAdd, reduceMul, reduceCtorEq, go_sem, hw]
  simp only [roomB]
  exact ⟨by omega, by omega, fun _ => ⟨snoc_map hx, snoc_len hx⟩⟩
 ·intro _
  simp only [↓reduceIte, reduceEqDiff, reduceLT, reduceLeDiff, reduceAdd, reduceCtorEq, go_sem, List.take_length]
  refine loopK_rng d.Wanted (fun k => [(5, vI k)]) (fun k => [(4, ⟨0, .row true 4 ((d.Wanted.take k).map GContainer.enc)⟩), (5, ⟨0, .box [.ref 3 0 4 0 d.Containers.length, .ref 2 0 6 0 d.Index.length, .ref 4 0 4 0 (d.Wanted.take k).length]⟩)]) (fun _ => True) (by simp only [roomB]; omega) ?_
  simp only [↓reduceIte, reduceEqDiff, reduceAdd, reduceCtorEq, go_sem]
  refine ⟨?_, trivial, ?_, ?_⟩
  ·simp only [↓reduceIte, reduceEqDiff, reduceLT, go_sem, List.take_zero]
  ·intro k x hx _ h0 h1 hw
   have hlt := List.length_take_le k d.Wanted
   have hk : k < d.Wanted.length := by omega
   have hx1 := mem_sum (f := GContainer.size) (at_mem hx)
   simp only [↓reduceIte, reduceEqDiff, reduceLT, reduceAdd, reduceCtorEq, go_sem, bk_eq hx, h0, h1]
   apply callK_of (c_spec_l30Copy x (by omega))
   simp only [↓reduceIte, reduceEqDiff, reduceLT, reduceAdd, reduceMul, reduceCtorEq, go_sem, hw]
   simp only [roomB]
   exact ⟨by omega, by omega, fun _ => ⟨snoc_map hx, snoc_len hx⟩⟩
  ·intro _
   simp only [↓reduceIte, reduceEqDiff, reduceLT, reduceAdd, reduceCtorEq, go_sem, List.take_length]
def m_impl_copyArchive : MC :=
(.seq (pr [.box 1 0 (.s 0), .alloc 2 1 [.emp 9, .emp 4, .emp 4, .emp 6, .emp 4, .emp 5, .emp 4, .emp 1, .emp 4, pz]] [1,2])
(.seq (.dreg [Zc [6,7,9,10,12,13,15,16,18,19,21,22,24,25] (.fld 3 (.s 1) 0), Zd [6,7,9,10,12,13,15,16,18,19,21,22,24,25] [0] (.load 4 false 1 (.s 3)), { o := .call 5 [2] (.f n_impl_copySite) [.s 4], hs := [6,7,9,10,12,13,15,16,18,19,21,22,24,25], ws := [2], bf := [0,1] }, Zf [3,4,5,9,10,12,13,15,16,18,19,21,22,24,25] [2] (.fld 6 (.s 1) 1), Zg [3,4,5,9,10,12,13,15,16,18,19,21,22,24,25] [2] [3] (.load 7 false 1 (.s 6)), { o := .call 8 [3] (.f n_slices_Clone_impl_Op_impl_Op) [.s 7], hs := [9,10,12,13,15,16,18,19,21,22,24,25], ws := [3], bf := (.range 5) }, Zf [3,4,5,6,7,8,12,13,15,16,18,19,21,22,24,25] [2,3] (.fld 9 (.s 1) 2), Zg [3,4,5,6,7,8,12,13,15,16,18,19,21,22,24,25] [2,3] [6] (.load 10 true 3 (.s 9)), { o := .call 11 [4, 5, 6] (.f n_impl_copyDisk) [.s 10], hs := [12,13,15,16,18,19,21,22,24,25], ws := [4,5,6], bf := (.range 8) }, Zf [3,4,5,6,7,8,9,10,11,15,16,18,19,21,22,24,25] [2,3,4,5,6] (.fld 12 (.s 1) 5), Zg [3,4,5,6,7,8,9,10,11,15,16,18,19,21,22,24,25] [2,3,4,5,6] [9] (.load 13 false 1 (.s 12)), { o := .call 14 [7] (.f n_slices_Clone_impl_Exclusion_impl_Exclusion) [.s 13], hs := [15,16,18,19,21,22,24,25], ws := [7], bf := (.range 11) }, Zf [3,4,5,6,7,8,9,10,11,12,13,14,18,19,21,22,24,25] [2,3,4,5,6,7] (.fld 15 (.s 1) 6), Zg [3,4,5,6,7,8,9,10,11,12,13,14,18,19,21,22,24,25] [2,3,4,5,6,7] [12] (.load 16 false 1 (.s 15)), { o := .call 17 [8] (.f n_impl_copyLibraries) [.s 16], hs := [18,19,21,22,24,25], ws := [8], bf := (.range 14) }, Zf [3,4,5,6,7,8,9,10,11,12,13,14,15,16,17,21,22,24,25] [2,3,4,5,6,7,8] (.fld 18 (.s 1) 7), Zg [3,4,5,6,7,8,9,10,11,12,13,14,15,16,17,21,22,24,25] [2,3,4,5,6,7,8] [15] (.load 19 false 1 (.s 18)), { o := .call 20 [9] (.f n_slices_Clone_int_int) [.s 19], hs := [21,22,24,25], ws := [9], bf := (.range 17) }, Zf [3,4,5,6,7,8,9,10,11,12,13,14,15,16,17,18,19,20,24,25] [2,3,4,5,6,7,8,9] (.fld 21 (.s 1) 8), Zg [3,4,5,6,7,8,9,10,11,12,13,14,15,16,17,18,19,20,24,25] [2,3,4,5,6,7,8,9] [18] (.load 22 false 1 (.s 21)), { o := .call 23 [10] (.f n_slices_Clone_impl_Statement_impl_Statement) [.s 22], hs := [24,25], ws := [10], bf := (.range 20) }, Zf [3,4,5,6,7,8,9,10,11,12,13,14,15,16,17,18,19,20,21,22,23] [2,3,4,5,6,7,8,9,10] (.fld 24 (.s 1) 9), Zg [3,4,5,6,7,8,9,10,11,12,13,14,15,16,17,18,19,20,21,22,23] [2,3,4,5,6,7,8,9,10] [21] (.load 25 false 1 (.s 24)), Ze (.range 23) (.build 26 [.emp 9, .emp 4, .emp 4, .emp 6, .emp 4, .emp 5, .emp 4, .emp 1, .emp 4, pz] [(0, 1, .s 5), (1, 1, .s 8), (2, 3, .s 11), (5, 1, .s 14), (6, 1, .s 17), (7, 1, .s 20), (8, 1, .s 23), (9, 1, .s 25)]), { o := .store 10 (.s 2) (.s 26), ws := [1,2,3,4,5,6,7,8,9,10], bf := (.range 24) }] [2])
.ret))
theorem c_impl_copyArchive (a : GArchive) (hs : a.size ≤ 1073741824) : Ctr Tryz.prog n_impl_copyArchive [aS a.enc] [rS a.enc] := by
 refine cA m_impl_copyArchive 11 27 [(.cell 2 true 10, [true, true, true, true, true, true, true, true, true, false])] Tryz.func67 rfl rfl ?_; unfold m_impl_copyArchive
 intro hb
 clear hb
 simp only [GArchive.size] at hs
 simp only [↓reduceIte, reduceEqDiff, reduceLT, reduceLeDiff, reduceAdd, reduceCtorEq, go_sem]
 apply callK_of (c_impl_copySite a.Site (by omega))
 simp only [↓reduceIte, reduceEqDiff, reduceLT, reduceLeDiff, reduceAdd, reduceCtorEq, go_sem]
 apply callK_of (c_slices_Clone_Op a.Script (by omega))
 simp only [↓reduceIte, reduceEqDiff, reduceLT, reduceLeDiff, reduceAdd, reduceCtorEq, go_sem]
 apply callK_of (c_impl_copyDisk a.Disk (by omega))
 simp only [↓reduceIte, reduceEqDiff, reduceLT, reduceLeDiff, reduceAdd, reduceCtorEq, go_sem]
 apply callK_of (c_slices_Clone_Exclusion a.Exclusions (by omega))
 simp only [↓reduceIte, reduceEqDiff, reduceLT, reduceLeDiff, reduceAdd, reduceCtorEq, go_sem]
 apply callK_of (c_impl_copyLibraries a.Libraries (by omega))
 simp only [↓reduceIte, reduceEqDiff, reduceLT, reduceLeDiff, reduceAdd, reduceCtorEq, go_sem]
 apply callK_of (c_slices_Clone_int a.Keys (by omega))
 simp only [↓reduceIte, reduceEqDiff, reduceLT, reduceLeDiff, reduceAdd, reduceCtorEq, go_sem]
 apply callK_of (c_slices_Clone_Statement a.Statements (by omega))
 simp only [↓reduceIte, reduceEqDiff, reduceLT, reduceLeDiff, reduceAdd, reduceCtorEq, go_sem]
 try intros
 try trivial
def m_spec_l32Copy : MC :=
(.seq (pr [.box 1 0 (.s 0), .alloc 2 1 [.emp 9, .emp 4, .emp 4, .emp 6, .emp 4, .emp 5, .emp 4, .emp 1, .emp 4, pz]] [1,2])
(.seq (.dreg [Zf [6,7,8,10,11,13,14,15,17,18,20,21,22,24,25,26,28,29] [3,7,9,10] (.fld 3 (.s 1) 0), Zg [6,7,8,10,11,13,14,15,17,18,20,21,22,24,25,26,28,29] [3,7,9,10] [0] (.load 4 false 1 (.s 3)), { o := .call 5 [2] (.f n_spec_l32Site) [.s 4], hs := [6,7,8,10,11,13,14,15,17,18,20,21,22,24,25,26,28,29], ho := [3,7,9,10], ws := [2], bf := [0,1] }, { o := .lit 6 3 4 32 [], hs := [3,4,5,7,8,10,11,13,14,15,17,18,20,21,22,24,25,26,28,29], ho := [2,7,9,10], ws := [3] }, Zf [3,4,5,6,10,11,13,14,15,17,18,20,21,22,24,25,26,28,29] [2,3,7,9,10] (.fld 7 (.s 1) 1), Zg [3,4,5,6,10,11,13,14,15,17,18,20,21,22,24,25,26,28,29] [2,3,7,9,10] [4] (.load 8 false 1 (.s 7)), { o := .app 9 3 4 32 (.s 6) (.s 8), hs := [10,11,13,14,15,17,18,20,21,22,24,25,26,28,29], ho := [7,9,10], ws := [3], bf := (.range 6) }, Zf [3,4,5,6,7,8,9,13,14,15,17,18,20,21,22,24,25,26,28,29] [2,3,7,9,10] (.fld 10 (.s 1) 2), Zg [3,4,5,6,7,8,9,13,14,15,17,18,20,21,22,24,25,26,28,29] [2,3,7,9,10] [7] (.load 11 true 3 (.s 10)), { o := .call 12 [4, 5, 6] (.f n_spec_l31Copy) [.s 11], hs := [13,14,15,17,18,20,21,22,24,25,26,28,29], ho := [7,9,10], ws := [4,5,6], bf := (.range 9) }, { o := .lit 13 7 5 40 [], hs := [3,4,5,6,7,8,9,10,11,12,14,15,17,18,20,21,22,24,25,26,28,29], ho := [2,3,4,5,6,9,10], ws := [7] }, Zf [3,4,5,6,7,8,9,10,11,12,13,17,18,20,21,22,24,25,26,28,29] [2,3,4,5,6,7,9,10] (.fld 14 (.s 1) 5), Zg [3,4,5,6,7,8,9,10,11,12,13,17,18,20,21,22,24,25,26,28,29] [2,3,4,5,6,7,9,10] [11] (.load 15 false 1 (.s 14)), { o := .app 16 7 5 40 (.s 13) (.s 15), hs := [17,18,20,21,22,24,25,26,28,29], ho := [9,10], ws := [7], bf := (.range 13) }, Zf [3,4,5,6,7,8,9,10,11,12,13,14,15,16,20,21,22,24,25,26,28,29] [2,3,4,5,6,7,9,10] (.fld 17 (.s 1) 6), Zg [3,4,5,6,7,8,9,10,11,12,13,14,15,16,20,21,22,24,25,26,28,29] [2,3,4,5,6,7,9,10] [14] (.load 18 false 1 (.s 17)), { o := .call 19 [8] (.f n_spec_l29Copy) [.s 18], hs := [20,21,22,24,25,26,28,29], ho := [9,10], ws := [8], bf := (.range 16) }, { o := .lit 20 9 1 8 [], hs := [3,4,5,6,7,8,9,10,11,12,13,14,15,16,17,18,19,21,22,24,25,26,28,29], ho := [2,3,4,5,6,7,8,10], ws := [9] }, Zf [3,4,5,6,7,8,9,10,11,12,13,14,15,16,17,18,19,20,24,25,26,28,29] [2,3,4,5,6,7,8,9,10] (.fld 21 (.s 1) 7), Zg [3,4,5,6,7,8,9,10,11,12,13,14,15,16,17,18,19,20,24,25,26,28,29] [2,3,4,5,6,7,8,9,10] [18] (.load 22 false 1 (.s 21)), { o := .app 23 9 1 8 (.s 20) (.s 22), hs := [24,25,26,28,29], ho := [10], ws := [9], bf := (.range 20) }, { o := .lit 24 10 4 32 [], hs := [3,4,5,6,7,8,9,10,11,12,13,14,15,16,17,18,19,20,21,22,23,25,26,28,29], ho := [2,3,4,5,6,7,8,9], ws := [10] }, Zf [3,4,5,6,7,8,9,10,11,12,13,14,15,16,17,18,19,20,21,22,23,24,28,29] [2,3,4,5,6,7,8,9,10] (.fld 25 (.s 1) 8), Zg [3,4,5,6,7,8,9,10,11,12,13,14,15,16,17,18,19,20,21,22,23,24,28,29] [2,3,4,5,6,7,8,9,10] [22] (.load 26 false 1 (.s 25)), { o := .app 27 10 4 32 (.s 24) (.s 26), hs := [28,29], ws := [10], bf := (.range 24) }, Zf [3,4,5,6,7,8,9,10,11,12,13,14,15,16,17,18,19,20,21,22,23,24,25,26,27] [2,3,4,5,6,7,8,9,10] (.fld 28 (.s 1) 9), Zg [3,4,5,6,7,8,9,10,11,12,13,14,15,16,17,18,19,20,21,22,23,24,25,26,27] [2,3,4,5,6,7,8,9,10] [25] (.load 29 false 1 (.s 28)), Ze (.range 27) (.build 30 [.emp 9, .emp 4, .emp 4, .emp 6, .emp 4, .emp 5, .emp 4, .emp 1, .emp 4, pz] [(0, 1, .s 5), (1, 1, .s 9), (2, 3, .s 12), (5, 1, .s 16), (6, 1, .s 19), (7, 1, .s 23), (8, 1, .s 27), (9, 1, .s 29)]), { o := .store 10 (.s 2) (.s 30), ws := [1,2,3,4,5,6,7,8,9,10], bf := (.range 28) }] [2])
.ret))
theorem c_spec_l32Copy (a : GArchive) (hs : a.size ≤ 1073741824) : Ctr Tryz.prog n_spec_l32Copy [aS a.enc] [rS a.enc] := by
 refine cA m_spec_l32Copy 11 31 [(.cell 2 true 10, [true, true, true, true, true, true, true, true, true, false])] Tryz.func60 rfl rfl ?_; unfold m_spec_l32Copy
 intro hb
 clear hb
 simp only [GArchive.size] at hs
 simp only [↓reduceIte, reduceEqDiff, reduceLT, reduceLeDiff, reduceAdd, reduceCtorEq, go_sem]
 apply callK_of (c_spec_l32Site a.Site (by omega))
 simp only [↓reduceIte, reduceEqDiff, reduceLT, reduceLeDiff, reduceAdd, reduceMul, reduceCtorEq, go_sem, ↓flat_of (f := GOp.enc) (fun _ => rfl) a.Script]
 refine ⟨by simp only [roomB]; omega, ?_⟩
 apply callK_of (c_spec_l31Copy a.Disk (by omega))
 simp only [↓reduceIte, reduceEqDiff, reduceLT, reduceLeDiff, reduceAdd, reduceMul, reduceCtorEq, go_sem, ↓flat_of (f := GExclusion.enc) (fun _ => rfl) a.Exclusions]
 refine ⟨by simp only [roomB]; omega, ?_⟩
 apply callK_of (c_spec_l29Copy a.Libraries (by omega))
 simp only [↓reduceIte, reduceEqDiff, reduceLT, reduceLeDiff, reduceAdd, reduceMul, reduceCtorEq, go_sem, ↓flat_of (f := encI) (fun _ => rfl) a.Keys, ↓flat_of (f := GStatement.enc) (fun _ => rfl) a.Statements]
 simp only [roomB]
 exact ⟨by omega, by omega⟩
end Go.Proofs.YtpclnmleldeleaaGreatR
namespace Go.Proofs.YtpclnmleldeleaaGreatR
set_option linter.unusedSimpArgs false
set_option linter.unusedVariables false
namespace Srt
structure Swo {α : Type} (lt : α → α → Bool) : Prop where
 asy : ∀ x y, lt x y = true → lt y x = false
 neg : ∀ x y z, lt x z = true → lt x y = true ∨ lt y z = true
variable {α : Type} {lt : α → α → Bool}
theorem Swo.tr (h : Swo lt) {x y z : α} (h1 : lt x y = true) (h2 : lt y z = true) : lt x z = true := by
 rcases h.neg x z y h1 with k | k
 ·exact k
 ·rw [h.asy y z h2] at k; cases k
theorem Swo.ntr (h : Swo lt) {x y z : α} (h1 : lt x y = false) (h2 : lt y z = false) : lt x z = false := by
 cases k : lt x z
 ·rfl
 ·rcases h.neg x y z k with k | k <;> simp_all
theorem Swo.irr (h : Swo lt) (x : α) : lt x x = false := by
 cases k : lt x x
 ·rfl
 ·have := h.asy x x k; simp_all
theorem Swo.lf (h : Swo lt) {x y z : α} (h1 : lt x y = true) (h2 : lt z y = false) : lt x z = true := by
 rcases h.neg x z y h1 with k | k <;> simp_all
theorem Swo.fl (h : Swo lt) {x y z : α} (h1 : lt y x = false) (h2 : lt y z = true) : lt x z = true := by
 rcases h.neg y x z h2 with k | k <;> simp_all
variable (lt)
def ins (x : α) : List α → List α
 | [] => [x]
 | z :: zs => if lt x z then x :: z :: zs else z :: ins x zs
def mrg (A B : List α) : List α := B.foldl (fun acc x => ins lt x acc) A
def isort (l : List α) : List α := mrg lt [] l
def srt (l : List α) : Prop := l.Pairwise fun x y => lt y x = false
variable {lt}
theorem mem_ins {x y : α} : ∀ {l : List α}, y ∈ ins lt x l ↔ y = x ∨ y ∈ l
 | [] => by simp [ins]
 | z :: zs => by
  simp only [ins]
  split
  ·simp
  ·rw [List.mem_cons, mem_ins, List.mem_cons]
   constructor <;> rintro (h | h | h) <;> simp [h]
theorem len_ins {x : α} : ∀ {l : List α}, (ins lt x l).length = l.length + 1
 | [] => rfl
 | z :: zs => by
  simp only [ins]
  split
  ·rfl
  ·simp [len_ins]
theorem mrg_nil {A : List α} : mrg lt A [] = A := rfl
theorem mrg_cons {A B : List α} {x : α} : mrg lt A (x :: B) = mrg lt (ins lt x A) B := rfl
theorem mrg_append {A B C : List α} : mrg lt A (B ++ C) = mrg lt (mrg lt A B) C := List.foldl_append
theorem mem_mrg {y : α} : ∀ {B A : List α}, y ∈ mrg lt A B ↔ y ∈ A ∨ y ∈ B
 | [], A => by simp [mrg_nil]
 | x :: B, A => by
  rw [mrg_cons, mem_mrg, mem_ins, List.mem_cons]
  exact ⟨fun h => h.elim (fun h => h.elim (fun h => .inr (.inl h)) .inl) (fun h => .inr (.inr h)), fun h => h.elim (fun h => .inl (.inr h)) (fun h => h.elim (fun h => .inl (.inl h)) .inr)⟩
theorem len_mrg : ∀ {B A : List α}, (mrg lt A B).length = A.length + B.length
 | [], A => rfl
 | x :: B, A => by
  rw [mrg_cons, len_mrg, len_ins, List.length_cons]; omega
theorem len_isort {l : List α} : (isort lt l).length = l.length := by
 unfold isort; rw [len_mrg]; simp
theorem ins_comm (h : Swo lt) {x y : α} (hxy : lt x y = true) : ∀ (A : List α), ins lt y (ins lt x A) = ins lt x (ins lt y A)
 | [] => by simp [ins, hxy, h.asy x y hxy]
 | z :: zs => by
  cases k1 : lt x z <;> cases k2 : lt y z
  ·simp [ins, k1, k2, ins_comm h hxy zs]
  ·rw [h.tr hxy k2] at k1; cases k1
  ·simp [ins, k1, k2, h.asy x y hxy]
  ·simp [ins, k1, k2, hxy, h.asy x y hxy]
theorem mrg_past (h : Swo lt) {x : α} : ∀ {s A : List α}, (∀ y ∈ s, lt x y = true) → mrg lt (ins lt x A) s = ins lt x (mrg lt A s)
 | [], A, _ => rfl
 | y :: s, A, hs => by
  rw [mrg_cons, ins_comm h (hs y (by simp)), mrg_past h (fun z hz => hs z (by simp [hz])), mrg_cons]
theorem srt_cons {x : α} {l : List α} : srt lt (x :: l) ↔ (∀ y ∈ l, lt y x = false) ∧ srt lt l := List.pairwise_cons
theorem srt_append {A B : List α} : srt lt (A ++ B) ↔ srt lt A ∧ srt lt B ∧ ∀ a ∈ A, ∀ b ∈ B, lt b a = false := List.pairwise_append
theorem srt_ins (h : Swo lt) {x : α} : ∀ {l : List α}, srt lt l → srt lt (ins lt x l)
 | [], _ => by simp [ins, srt]
 | z :: zs, hs => by
  obtain ⟨h1, h2⟩ := srt_cons.1 hs
  simp only [ins]
  split
  ·rename_i k
   refine srt_cons.2 ⟨fun y hy => ?_, hs⟩
   rcases List.mem_cons.1 hy with rfl | hy
   ·exact h.asy _ _ k
   ·exact h.ntr (h1 y hy) (h.asy _ _ k)
  ·rename_i k
   refine srt_cons.2 ⟨fun y hy => ?_, srt_ins h h2⟩
   rcases mem_ins.1 hy with rfl | hy
   ·simpa using k
   ·exact h1 y hy
theorem srt_mrg (h : Swo lt) : ∀ {B A : List α}, srt lt A → srt lt (mrg lt A B)
 | [], A, hA => hA
 | x :: B, A, hA => srt_mrg h (B := B) (srt_ins h hA)
theorem srt_isort (h : Swo lt) (l : List α) : srt lt (isort lt l) := srt_mrg h List.Pairwise.nil
theorem ins_split (h : Swo lt) {x : α} : ∀ {l : List α}, srt lt l → ∃ s t, l = s ++ t ∧ ins lt x l = s ++ x :: t ∧ ∀ y ∈ t, lt x y = true
 | [], _ => ⟨[], [], rfl, rfl, by simp⟩
 | z :: zs, hs => by
  obtain ⟨h1, h2⟩ := srt_cons.1 hs
  cases k : lt x z
  ·obtain ⟨s, t, e, e2, h3⟩ := ins_split h (x := x) h2
   exact ⟨z :: s, t, by simp [e], by simp [ins, k, e2], h3⟩
  ·refine ⟨[], z :: zs, rfl, by simp [ins, k], fun y hy => ?_⟩
   rcases List.mem_cons.1 hy with rfl | hy
   ·exact k
   ·exact h.lf k (h1 y hy)
theorem mrg_ins (h : Swo lt) {x : α} {A s : List α} (hs : srt lt s) : mrg lt A (ins lt x s) = ins lt x (mrg lt A s) := by
 obtain ⟨s1, s2, rfl, e, h2⟩ := ins_split h (x := x) hs
 rw [e, mrg_append, mrg_cons, mrg_past h h2, mrg_append]
theorem isort_snoc {l : List α} {x : α} : isort lt (l ++ [x]) = ins lt x (isort lt l) := by
 unfold isort; rw [mrg_append]; rfl
theorem mrg_isort (h : Swo lt) {A : List α} (r : List α) : mrg lt A (isort lt r) = mrg lt A r := by
 suffices H : ∀ (n : Nat) (r : List α), r.length = n → mrg lt A (isort lt r) = mrg lt A r from H _ r rfl
 intro n
 induction n with
 | zero => intro r hr; obtain rfl := List.length_eq_zero_iff.1 hr; rfl
 | succ n ih =>
  intro r hr
  rcases List.eq_nil_or_concat r with rfl | ⟨s, x, rfl⟩
  ·rfl
  ·rw [List.concat_eq_append] at *
   rw [isort_snoc, mrg_ins h (srt_isort h s), ih s (by simpa using hr), mrg_append]; rfl
theorem isort_append (h : Swo lt) (l r : List α) : isort lt (l ++ r) = mrg lt (isort lt l) (isort lt r) := by
 rw [mrg_isort h]; unfold isort; rw [mrg_append]
theorem ins_left {b : α} {A2 : List α} (h : ∀ a ∈ A2.head?, lt b a = true) : ∀ (A1 : List α), ins lt b (A1 ++ A2) = ins lt b A1 ++ A2
 | [] => by
  cases A2 with
  | nil => rfl
  | cons z zs => simp [ins, h z (by simp)]
 | z :: zs => by
  simp only [List.cons_append, ins]
  split
  ·rfl
  ·rw [ins_left h zs, List.cons_append]
theorem ins_right {b : α} {A2 : List α} : ∀ {A1 : List α}, (∀ a ∈ A1, lt b a = false) → ins lt b (A1 ++ A2) = A1 ++ ins lt b A2
 | [], _ => rfl
 | z :: zs, h => by
  simp only [List.cons_append, ins, h z (by simp), ins_right (A1 := zs) (fun a ha => h a (by simp [ha]))]
  rfl
theorem ins_mid {x : α} {s t : List α} (h1 : ∀ a ∈ s, lt x a = false) (h2 : ∀ a ∈ t.head?, lt x a = true) : ins lt x (s ++ t) = s ++ x :: t := by
 rw [ins_right h1]
 cases t with
 | nil => rfl
 | cons z zs => simp [ins, h2 z (by simp)]
theorem mrg_left {A2 : List α} : ∀ {B A1 : List α}, (∀ b ∈ B, ∀ a ∈ A2.head?, lt b a = true) → mrg lt (A1 ++ A2) B = mrg lt A1 B ++ A2
 | [], _, _ => rfl
 | b :: B, A1, h => by
  rw [mrg_cons, ins_left (h b (by simp)), mrg_left (fun b hb => h b (by simp [hb])), mrg_cons]
theorem mrg_right {A1 : List α} : ∀ {B A2 : List α}, (∀ b ∈ B, ∀ a ∈ A1, lt b a = false) → mrg lt (A1 ++ A2) B = A1 ++ mrg lt A2 B
 | [], _, _ => rfl
 | b :: B, A2, h => by
  rw [mrg_cons, ins_right (h b (by simp)), mrg_right (fun b hb => h b (by simp [hb])), mrg_cons]
theorem mrg_nil_srt (h : Swo lt) {l : List α} (hs : srt lt l) : mrg lt [] l = l := by
 suffices H : ∀ (l A : List α), srt lt (A ++ l) → mrg lt A l = A ++ l from H l [] (by simpa using hs)
 intro l
 induction l with
 | nil => intro A _; simp [mrg_nil]
 | cons x l ih =>
  intro A hA
  have := srt_append.1 hA
  rw [mrg_cons, show ins lt x A = A ++ [x] from by
   have := ins_mid (lt := lt) (x := x) (s := A) (t := []) (fun a ha => (srt_append.1 hA).2.2 a ha x (by simp)) (by simp)
   simpa using this, ih (A ++ [x]) (by simpa using hA)]
  simp
theorem mrg_split {A1 A2 B1 B2 : List α} (h1 : ∀ b ∈ B1, ∀ a ∈ A2.head?, lt b a = true) (h2 : ∀ b ∈ B2, ∀ a ∈ A1, lt b a = false) (h3 : ∀ b ∈ B2, ∀ a ∈ B1, lt b a = false) : mrg lt (A1 ++ A2) (B1 ++ B2) = mrg lt A1 B1 ++ mrg lt A2 B2 := by
 rw [mrg_append, mrg_left h1, mrg_right]
 intro b hb a ha
 rcases mem_mrg.1 ha with k | k
 ·exact h2 b hb a k
 ·exact h3 b hb a k
def blk (lt : α → α → Bool) (s : Nat) (l : List α) : List α :=
 if h : s = 0 ∨ l.length ≤ s then isort lt l else isort lt (l.take s) ++ blk lt s (l.drop s)
termination_by l.length
decreasing_by
 simp only [List.length_drop]
 omega
end Srt
end Go.Proofs.YtpclnmleldeleaaGreatR
