/- A pure semantics of the program's operations over trees, proved against the model. No condition. -/
import Derived.Deep.Slices
import Derived.SizedLaws
import Derived.ChangeOld
import Derived.WalkKit
import Derived.ProofKit
import Derived.OpenShut
import Derived.Test.YtpclnmleldeleaaGreatRab
namespace Go.Proofs.YtpclnmleldeleaaGreatR
open Go Go.RowKit
section
variable {P : Program} {σ σ' : St} {Q : Xt → St → Prop} {L : Ef → Prop} {n id : Nat} {s : List (Nat × SV)} {o : List OV} {α β : Type}
attribute [go_sem] rv SC.noB csNoB vsNoB SV.noB OC.noB sNoB oNoB
@[go_sem] theorem noB_mk : St.noB ⟨s, n, o⟩ = (sNoB s && oNoB o) := rfl
@[go_sem] theorem effT_eq {d id2 : Nat} {x : Od} : effT d id2 x σ = (σ.adr x).bind fun a => match a with
 | .el id ver sz i k => match σ.ob id with
  | ⟨v, .row true sz' es⟩ => if v = ver ∧ sz = sz' ∧ id2 ≠ id ∧ id2 < σ.o.length ∧ σ.noB = true then (es[i]?).bind fun e => (e[k]?).bind fun t => match t with
    | .sl sz2 es2 => some ⟨some (d, .val false [.ref id2 (σ.nw id2) sz2 0 es2.length]), [(id2, ⟨σ.nw id2, .row true sz2 es2⟩), (id, ⟨ver, .hole sz es i k id2 (σ.nw id2)⟩)]⟩
    | _ => none
   else none
  | _ => none
 | _ => none := rfl
@[go_sem] theorem bkO_eq {pid : Nat} : bkO σ pid = match σ.ob pid with
 | ⟨ver, .hole sz es i k id2 v2⟩ => match σ.ob id2 with
  | ⟨v, .row true sz2 es2⟩ => if v = v2 ∧ id2 ≠ pid then some [(id2, ⟨v2, .none⟩), (pid, ⟨ver, .row true sz (es.set i ((es.getD i []).set k (.sl sz2 es2)))⟩)] else none
  | _ => none
 | _ => none := rfl
@[go_sem] theorem effB_eq {d : Nat} {zs : List SC} {ps : List (Nat × Nat × Od)} {ns : List (Option Nat)} : effB d zs ps ns σ = (σ.fill zs ps).bind fun cs => if distinct (newIds ns) = true ∧ d < σ.n then (promo σ cs ns).map fun x => ⟨some (d, .val true x.1), x.2⟩ else none := rfl
attribute [go_sem] newIds
@[go_sem] theorem promo_nil : promo σ [] [] = some ([], []) := rfl
@[go_sem] theorem promo_none {c : SC} {cs : List SC} {ns : List (Option Nat)} : promo σ (c :: cs) (none :: ns) = (promo σ cs ns).map fun x => (c :: x.1, x.2) := rfl
@[go_sem] theorem promo_some {sz id : Nat} {cs : List SC} {ns : List (Option Nat)} : promo σ (.emp sz :: cs) (some id :: ns) = if id < σ.o.length then (promo σ cs ns).map fun x => (.ref id (σ.nw id) sz 0 0 :: x.1, (id, ⟨σ.nw id, .row true sz []⟩) :: x.2) else none := rfl
@[go_sem] theorem bksE_nil : bksE σ [] = some [] := rfl
@[go_sem] theorem bksE_cons {p : Nat} {l : List Nat} : bksE σ (p :: l) = (bkO σ p).bind fun o => (bksE (σ.app ⟨none, o⟩) l).map (o ++ ·) := rfl
@[go_sem] theorem effI_eq {d : Nat} {ids idl : List Nat} {outs : List (Option (Nat × List (List T)))} {rs : List RV} : effI σ d ids idl outs rs =
  if distinct (idl ++ ids) = true ∧ σ.noB = true then (outsO σ idl outs).bind fun os => (placeAll σ .e ids rs).map fun x => ⟨some (d, tupOf x.1), os ++ x.2.1⟩ else none := rfl
@[go_sem] theorem outsO_nil : outsO σ [] [] = some [] := rfl
@[go_sem] theorem outsO_none {id : Nat} {ids : List Nat} {os} : outsO σ (id :: ids) (none :: os) = (outsO σ ids os).map ((id, ⟨(σ.ob id).ver, .none⟩) :: ·) := rfl
@[go_sem] theorem outsO_some {id sz : Nat} {ids : List Nat} {es} {os} : outsO σ (id :: ids) (some (sz, es) :: os) = (outsO σ ids os).map ((id, ⟨(σ.ob id).ver, .row true sz es⟩) :: ·) := rfl
@[go_sem] theorem cellI_ref {ios : List Nat} {id ver sz lo n : Nat} : σ.cellI ios (.ref id ver sz lo n) = match σ.ob id with
  | ⟨v, .row true sz' es⟩ => if v = ver ∧ sz = sz' ∧ lo = 0 ∧ n = es.length ∧ ios.contains id = true then some ((true, .sl sz es), [id]) else none
  | _ => none := rfl
attribute [go_sem] hasN_eq
@[go_sem] theorem cellI_pl {ios : List Nat} {t : T} : σ.cellI ios (.pl t) = some ((false, t), []) := rfl
@[go_sem] theorem cellI_bsc {ios : List Nat} {v : Value} : σ.cellI ios (.bor (.sc v)) = some ((false, .sc v), []) := rfl
@[go_sem] theorem cellI_emp {ios : List Nat} {sz : Nat} : σ.cellI ios (.emp sz) = some ((false, .sl sz []), []) := rfl
@[go_sem] theorem cellI_clo {ios : List Nat} {g : FuncId} : σ.cellI ios (.clo g []) = some ((false, .fn g []), []) := rfl
@[go_sem] theorem cellsI_nil {ios : List Nat} : σ.cellsI ios [] = some ([], []) := rfl
@[go_sem] theorem cellsI_cons {ios : List Nat} {c : SC} {cs : List SC} : σ.cellsI ios (c :: cs) = (σ.cellI ios c).bind fun x => (σ.cellsI ios cs).map fun y => (x.1 :: y.1, x.2 ++ y.2) := rfl
@[go_sem] theorem argsI_nil {ios : List Nat} : σ.argsI ios [] = some ([], []) := rfl
@[go_sem] theorem argsI_cons {ios : List Nat} {x : Od} {xs : List Od} : σ.argsI ios (x :: xs) = (σ.ev x).all.bind fun v => (σ.cellsI ios v.2).bind fun c => (σ.argsI ios xs).map fun y => (⟨v.1, c.1⟩ :: y.1, c.2 ++ y.2) := rfl
def kI (res : List (MR × List Bool)) (outs : List (Option (Nat × List (List T)))) (rs : List RV) (x : Xt) (σ : St) : Prop := (x = .nrm ∨ x = .ret) ∧ outI σ res outs rs
variable {res : List (MR × List Bool)} {outs : List (Option (Nat × List (List T)))} {rs : List RV}
@[go_sem] theorem kI_nrm : kI res outs rs .nrm σ = outI σ res outs rs := by simp [kI]
@[go_sem] theorem kI_ret : kI res outs rs .ret σ = outI σ res outs rs := by simp [kI]
@[go_sem] theorem outI_eq : outI σ res outs rs = bk (outR σ res) fun x => neuO x.2.1 = true ∧ distinct (owns x.2.1) = true ∧ x.2.2 = .e ∧ x.1 = rs ∧ endI σ (owns x.2.1) 0 outs := rfl
@[go_sem] theorem endI_nil {own : List Nat} {j : Nat} : endI σ own j [] = True := rfl
@[go_sem] theorem endI_none {own : List Nat} {j : Nat} {l} : endI σ own j (none :: l) = endI σ own (j + 1) l := rfl
@[go_sem] theorem endI_some {own : List Nat} {j sz : Nat} {es l} : endI σ own j (some (sz, es) :: l) = (σ.ob j = ⟨1, .row true sz es⟩ ∧ ¬ j ∈ own ∧ endI σ own (j + 1) l) := rfl
theorem ctrI_at {f : FuncId} {fn : Func} {c : Code} {args : List RV} {M : MC} {m n : Nat} (hmix : P.follows .mixedOrders = true) (hf : P.funcs[f]? = some fn) (hb : fn.body = some c)
  (hname : (fn.name == "runtime.NumGoroutine") = false) (hnt : fn.ntmps = n) (hc : chkC P c M = true) (hres : chkRes P fn.results.toList (res.map (·.1)) = true) (hn : args.length ≤ n) (hsl : slA args = true) (hout : outs.length = (objsA args).length)
  (h : bdVA args → wpC P M (kI res outs rs) (startI args n m)) : CtrI P f args outs rs := by
 subst hnt
 exact ctrI_of hmix hf hb hname hc hres hn hsl hout h
attribute [go_sem] startI argSI objsA objsC cellsS List.replicate_succ List.replicate_zero
end
abbrev oL (sz : Nat) (es : List (List T)) : RV := ⟨false, [(true, .sl sz es)]⟩
abbrev iI (n : Int) : RV := ⟨false, [(false, .sc (.int .i64 n))]⟩
attribute [go_sem] oL iI
end Go.Proofs.YtpclnmleldeleaaGreatR
namespace Go.Proofs.YtpclnmleldeleaaGreatR
open Go Go.RowKit Go.ChangeShapes
inductive DT where
 | int
 | bool
 | str
 | sl (t : DT)
 | st (f : DT)
 | fn
 | fc (t f : DT)
def szT : DT → Nat
 | .int => 1
 | .bool => 1
 | .str => 1
 | .sl _ => 1
 | .st f => szT f
 | .fn => 0
 | .fc t f => szT t + szT f
mutual
def tyOk (P : Program) : DT → TypeId → Bool
 | .int, t => (match P.underlying t with | some (.int .i64) => true | _ => false)
 | .bool, t => (match P.underlying t with | some .bool => true | _ => false)
 | .str, t => (match P.underlying t with | some .string => true | _ => false)
 | .sl e, t => (match P.underlying t with | some (.slice e') => tyOk P e e' && szT e == P.cellsOf e' && decide (1 ≤ P.bytesOf e') && decide (0 < szT e) | _ => false)
 | .st f, t => (match P.underlying t with | some (.struct fs) => tyOkF P f fs.toList 0 && szT f == P.cellsOf t | _ => false)
 | .fn, _ => false
 | .fc _ _, _ => false
def tyOkF (P : Program) : DT → List Field → Nat → Bool
 | .fn, [], _ => true
 | .fc a f, fd :: fs, off => fd.offset == off && tyOk P a fd.type && szT a == P.cellsOf fd.type && tyOkF P f fs (off + szT a)
 | _, _, _ => false
end
def IsT : DT → List T → Prop
 | .int, ts => ∃ n, ts = [tI n]
 | .bool, ts => ∃ b, ts = [tB b]
 | .str, ts => ∃ s, ts = [tS s]
 | .sl e, ts => ∃ es, ts = [.sl (szT e) es] ∧ ∀ x ∈ es, IsT e x
 | .st f, ts => IsT f ts
 | .fn, ts => ts = []
 | .fc a f, ts => ∃ u v, ts = u ++ v ∧ IsT a u ∧ IsT f v
theorem isT_len : ∀ {ty : DT} {ts : List T}, IsT ty ts → ts.length = szT ty
 | .int, _, h => by obtain ⟨n, rfl⟩ := h; rfl
 | .bool, _, h => by obtain ⟨n, rfl⟩ := h; rfl
 | .str, _, h => by obtain ⟨n, rfl⟩ := h; rfl
 | .sl e, _, h => by obtain ⟨n, rfl, _⟩ := h; rfl
 | .st f, _, h => isT_len (ty := f) h
 | .fn, _, h => by simp only [IsT] at h; subst h; rfl
 | .fc a f, _, h => by
  obtain ⟨u, v, rfl, h1, h2⟩ := h
  simp [szT, isT_len h1, isT_len h2]
theorem mapM_same {α β : Type} {f g : α → Option β} : ∀ {l : List α}, (∀ a ∈ l, f a = g a) → l.mapM f = l.mapM g
 | [], _ => rfl
 | a :: l, h => by
  rw [List.mapM_cons, List.mapM_cons, h a (by simp), mapM_same fun x hx => h x (by simp [hx])]
theorem mapM_each {α β : Type} {f : α → Option β} : ∀ {l : List α} {r : List β}, l.mapM f = some r → ∀ a ∈ l, ∃ b ∈ r, f a = some b
 | [], _, _ => by simp
 | a :: l, r, h => by
  rw [List.mapM_cons] at h
  simp only [Option.bind_eq_bind, Option.bind_eq_some_iff, Option.pure_def, Option.some.injEq] at h
  obtain ⟨b, h1, r', h2, rfl⟩ := h
  intro x hx
  rcases List.mem_cons.1 hx with rfl | hx
  ·exact ⟨b, by simp, h1⟩
  ·obtain ⟨y, hy, e⟩ := mapM_each h2 x hx
   exact ⟨y, by simp [hy], e⟩
section
variable {H : Type} {enc : TypeId × Value → H} {P : Program} {w w' : World}
theorem weightsAll_mem {e : TypeId} : ∀ {ds : List (DataW H)} {d : DataW H}, d ∈ ds → ∀ n ∈ d.weights P e, n ∈ DataW.weightsAll P e ds
 | x :: ds, d, h, n, hn => by
  simp only [DataW.weightsAll, List.mem_append]
  rcases List.mem_cons.1 h with rfl | h
  ·exact .inl hn
  ·exact .inr (weightsAll_mem h n hn)
 | [], _, h, _, _ => by simp at h
def Got (enc : TypeId × Value → H) (P : Program) (w w' : World) (ty : DT) (fuel : Nat) (t : TypeId) (cs : List Value) (x : DataW H × List MemPlace) : Prop :=
 (∃ ts, IsT ty ts ∧ RdL w (fun _ => True) ts cs) ∧ DataW.trod enc P w' 0 (fun b => decide (b < w.heap.size)) true fuel t cs = some x
theorem rdL_app {X : Nat → Prop} : ∀ {a b : List T} {u v : List Value}, RdL w X a u → RdL w X b v → RdL w X (a ++ b) (u ++ v)
 | [], _, [], _, _, h => by simpa using h
 | _ :: _, _, _ :: _, _, h, k => by
  simp only [RdL] at h
  simp only [List.cons_append, RdL]
  exact ⟨h.1, rdL_app h.2 k⟩
 | [], _, _ :: _, _, h, _ => by simp only [RdL] at h
 | _ :: _, _, [], _, h, _ => by simp only [RdL] at h
theorem rdL_len {X : Nat → Prop} : ∀ {a : List T} {u : List Value}, RdL w X a u → a.length = u.length
 | [], [], _ => rfl
 | _ :: _, _ :: _, h => by simp only [RdL] at h; simp [rdL_len h.2]
 | [], _ :: _, h => by simp only [RdL] at h
 | _ :: _, [], h => by simp only [RdL] at h
theorem rdEl_of {X : Nat → Prop} {b : Nat} : ∀ {ts : List T} {cs : List Value} {off : Nat}, RdL w X ts cs → (∀ i, i < cs.length → w.cell? ⟨b, off + i, none⟩ = cs[i]?) → RdEl w X b off ts
 | [], _, _, _, _ => by simp only [RdEl]
 | t :: ts, v :: cs, off, h, hc => by
  simp only [RdL] at h
  simp only [RdEl]
  refine ⟨⟨v, by simpa using hc 0 (by simp), h.1⟩, rdEl_of h.2 fun i hi => ?_⟩
  have := hc (i + 1) (by simpa using hi)
  rw [show off + 1 + i = off + (i + 1) by omega]
  simpa using this
 | _ :: _, [], _, h, _ => by simp only [RdL] at h
mutual
theorem entry (hw : ∀ b, b < w.heap.size → w'.heap[b]? = w.heap[b]?) : ∀ (ty : DT) (t : TypeId) (fuel : Nat) (cs : List Value) (x : DataW H × List MemPlace), tyOk P ty t = true → DataW.trod enc P w 0 (fun _ => true) true fuel t cs = some x →
  (∀ n ∈ x.1.weights P t, n ≤ reachBytes) → Got enc P w w' ty fuel t cs x
 | .int, t, fuel, cs, x, ht, h, _ => by
  have hu : P.underlying t = some (.int .i64) := by
   unfold tyOk at ht; split at ht <;> simp_all
  cases fuel with
  | zero => simp [DataW.trod] at h
  | succ m =>
  obtain ⟨n, rfl, rfl, hwf⟩ := DataW.trod_int hu h
  refine ⟨⟨[tI n], ⟨n, rfl⟩, ?_⟩, ?_⟩
  ·simp only [RdL, Rd, and_true, true_and]
   exact oneW_int (int_range (k := .i64) hwf)
  ·unfold DataW.trod
   simp only [hu]
   rw [if_pos ⟨trivial, hwf⟩]
 | .bool, t, fuel, cs, x, ht, h, _ => by
  have hu : P.underlying t = some .bool := by
   unfold tyOk at ht; split at ht <;> simp_all
  cases fuel with
  | zero => simp [DataW.trod] at h
  | succ m =>
  unfold DataW.trod at h
  simp only [hu] at h
  split at h
  all_goals first
   | (simp at h; done)
   | (rename_i hq; cases hq; done)
   | skip
  rename_i b hb
  simp only [Option.some.injEq] at h
  subst h
  refine ⟨⟨[tB b], ⟨b, rfl⟩, ?_⟩, ?_⟩
  ·simp only [RdL, Rd, and_true, true_and]
   exact oneW_bool _
  ·unfold DataW.trod
   simp only [hu]
 | .str, t, fuel, cs, x, ht, h, _ => by
  have hu : P.underlying t = some .string := by
   unfold tyOk at ht; split at ht <;> simp_all
  cases fuel with
  | zero => simp [DataW.trod] at h
  | succ m =>
  unfold DataW.trod at h
  simp only [hu] at h
  split at h
  all_goals first
   | (simp at h; done)
   | (rename_i hq; cases hq; done)
   | skip
  rename_i s hb
  obtain ⟨hs, h⟩ := Option.ite_none_right_eq_some.1 h
  simp only [Option.some.injEq] at h
  subst h
  refine ⟨⟨[tS s], ⟨s, rfl⟩, ?_⟩, ?_⟩
  ·simp only [RdL, Rd, and_true, true_and]
   exact oneW_str (by unfold Go.maxLen at hs; omega)
  ·unfold DataW.trod
   simp only [hu]
   rw [if_pos hs]
 | .sl e, t, fuel, cs, x, ht, h, hwt => by
  obtain ⟨e', hu, ht⟩ : ∃ e', P.underlying t = some (.slice e') ∧ (tyOk P e e' && szT e == P.cellsOf e' && decide (1 ≤ P.bytesOf e') && decide (0 < szT e)) = true := by
   unfold tyOk at ht
   split at ht
   ·rename_i e' hu; exact ⟨e', hu, ht⟩
   ·simp at ht
  simp only [Bool.and_eq_true, beq_iff_eq, decide_eq_true_eq] at ht
  obtain ⟨⟨⟨he, hsz⟩, hby⟩, hpz⟩ := ht
  cases fuel with
  | zero => simp [DataW.trod] at h
  | succ m =>
  rcases DataW.trod_slice hu h with ⟨rfl, rfl⟩ | ⟨a, len, cap, elems, rest, n, hfn, rfl, hx, _, hlc, hcm, hel, hget, hsp, _⟩
  ·refine ⟨⟨[.sl (szT e) []], ⟨[], rfl, by simp⟩, ?_⟩, ?_⟩
   ·simp only [RdL, and_true]
    unfold Rd
    exact ⟨none, 0, rfl, Ln.z _, .inl rfl⟩
   ·unfold DataW.trod
    simp only [hu]
  ·obtain rfl : n = m := by omega
   subst hx
   simp only [DataW.weights, hu] at hwt
   have hlen : (elems.length + rest.length) * P.bytesOf e' ≤ reachBytes := by simpa using hwt _ (List.mem_cons_self ..)
   have hlb : len ≤ roomB := by
    have h1 : len * 1 ≤ (elems.length + rest.length) * P.bytesOf e' := Nat.mul_le_mul (by omega) hby
    have h2 : reachBytes ≤ roomB := by decide
    omega
   have hone : ∀ i, i < cap → ∃ y : DataW H × List MemPlace, (w.cells? 0 (a.add (i * P.cellsOf e')) (P.cellsOf e')).bind (DataW.trod enc P w 0 (fun _ => true) true n e') = some y ∧ ∀ k ∈ y.1.weights P e', k ≤ reachBytes := by
    intro i hi
    by_cases hil : i < len
    ·rw [hget i hil]
     have hie : i < elems.length := by omega
     refine ⟨elems[i], List.getElem?_eq_getElem hie, fun k hk => hwt k ?_⟩
     refine List.mem_cons_of_mem _ (List.mem_append.2 (.inl (weightsAll_mem (d := elems[i].1) ?_ k hk)))
     exact List.mem_map.2 ⟨elems[i], List.getElem_mem hie, rfl⟩
    ·obtain ⟨hr1, hr2⟩ := hsp rfl
     have hj := hr2 (i - len) (by omega)
     rw [show len + (i - len) = i by omega] at hj
     rw [hj]
     have hir : i - len < rest.length := by omega
     refine ⟨rest[i - len], List.getElem?_eq_getElem hir, fun k hk => hwt k ?_⟩
     refine List.mem_cons_of_mem _ (List.mem_append.2 (.inr (weightsAll_mem (d := rest[i - len].1) ?_ k hk)))
     exact List.mem_map.2 ⟨rest[i - len], List.getElem_mem hir, rfl⟩
   have hgot : ∀ i, i < cap → ∃ cs' y, w.cells? 0 (a.add (i * P.cellsOf e')) (P.cellsOf e') = some cs' ∧ DataW.trod enc P w 0 (fun _ => true) true n e' cs' = some y ∧ Got enc P w w' e n e' cs' y := by
    intro i hi
    obtain ⟨y, h1, h2⟩ := hone i hi
    obtain ⟨cs', h3, h4⟩ := Option.bind_eq_some_iff.1 h1
    exact ⟨cs', y, h3, h4, entry hw e e' n cs' y he h4 h2⟩
   have hspot : 0 < cap → 0 < P.cellsOf e' → a.spot = none := by
    intro hi hp
    obtain ⟨cs', y, h3, _, _⟩ := hgot 0 hi
    obtain ⟨_, hcl, hc⟩ := World.cells?_some h3
    have h0 := hc 0 hp
    rw [List.getElem?_eq_getElem (by omega)] at h0
    obtain ⟨ab, ao, asp⟩ := a
    cases asp with
    | none => rfl
    | some s =>
     exfalso
     have e1 : (Addr.add (Addr.add ⟨ab, ao, some s⟩ (0 * P.cellsOf e')) 0) = ⟨ab, ao, some s⟩ := by simp [Addr.add]
     rw [e1] at h0
     unfold World.cell? at h0
     simp only at h0
     split at h0 <;> simp at h0
   have hadd : ∀ n, 0 < cap → 0 < P.cellsOf e' → a.add n = ⟨a.block, a.off + n, none⟩ := by
    intro n h1 h2
    have hs := hspot h1 h2
    obtain ⟨ab, ao, asp⟩ := a
    simp only at hs
    subst hs
    exact add_plain _ _ _
   have hcell : ∀ i, i < cap → 0 < P.cellsOf e' → a.spot = none ∧ a.block < w.heap.size := by
    intro i hi hp
    refine ⟨hspot (by omega) hp, ?_⟩
    obtain ⟨cs', y, h3, _, _⟩ := hgot i hi
    obtain ⟨_, hcl, hc⟩ := World.cells?_some h3
    have h0 := hc 0 hp
    rw [List.getElem?_eq_getElem (by omega), hadd _ (by omega) hp, add_plain] at h0
    simp only [World.cell?] at h0
    cases hb : w.heap[a.block]? with
    | none => rw [hb] at h0; simp at h0
    | some o => exact (Array.getElem?_eq_some_iff.1 hb).1
   have htrees : ∀ (m s : Nat), s + m ≤ cap → ∃ es : List (List T), es.length = m ∧ (∀ x ∈ es, IsT e x) ∧ (0 < m → 0 < P.cellsOf e' → RdRow w (fun _ => True) (szT e) a.block (a.off + s * szT e) es) ∧ (P.cellsOf e' = 0 → RdRow w (fun _ => True) (szT e) a.block (a.off + s * szT e) es) := by
    intro m
    induction m with
    | zero => intro s _; exact ⟨[], rfl, by simp, by simp, fun _ => by simp only [RdRow]⟩
    | succ m ih =>
     intro s hs
     obtain ⟨es, h1, h2, h3, h4⟩ := ih (s + 1) (by omega)
     obtain ⟨cs', y, h5, _, ⟨ts, h6, h7⟩, _⟩ := hgot s (by omega)
     obtain ⟨_, hcl, hc⟩ := World.cells?_some h5
     have hoff : a.off + (s + 1) * szT e = a.off + s * szT e + szT e := by rw [Nat.add_mul]; omega
     refine ⟨ts :: es, by simp [h1], by simpa using ⟨h6, h2⟩, fun _ hp => ?_, fun hz => ?_⟩
     ·obtain ⟨hsp0, _⟩ := hcell s (by omega) hp
      simp only [RdRow]
      refine ⟨isT_len h6, rdEl_of h7 fun i hi => ?_, ?_⟩
      ·have := hc i (by omega)
       rw [hadd _ (by omega) hp, add_plain] at this
       rw [hsz, ← this]
      ·rw [← hoff]
       cases m with
       | zero =>
        have : es = [] := List.length_eq_zero_iff.1 h1
        rw [this]; simp only [RdRow]
       | succ m => exact h3 (by omega) hp
     ·simp only [RdRow]
      refine ⟨isT_len h6, ?_, by rw [← hoff]; exact h4 hz⟩
      have : ts = [] := List.length_eq_zero_iff.1 (by rw [isT_len h6]; omega)
      rw [this]; simp only [RdEl]
   obtain ⟨es, h1, h2, h3, h4⟩ := htrees len 0 (by omega)
   refine ⟨⟨[.sl (szT e) es], ⟨es, rfl, h2⟩, ?_⟩, ?_⟩
   ·simp only [RdL, and_true]
    unfold Rd
    refine ⟨some a, cap, by rw [h1], by rw [h1]; exact ⟨hlc, hlb⟩, ?_⟩
    by_cases h0 : es = []
    ·exact .inl h0
    ·right
     have hl0 : 0 < len := by rw [← h1]; exact List.length_pos_iff.2 h0
     have hpos : 0 < P.cellsOf e' := by
      rw [← hsz]
      exact hpz
     obtain ⟨hs0, hb0⟩ := hcell 0 (by omega) hpos
     obtain ⟨ab, ao, asp⟩ := a
     simp only at hs0
     subst hs0
     exact ⟨ab, ao, rfl, trivial, hb0, by simpa using h3 hl0 hpos⟩
   ·-- read anew
    have hnew : ∀ i, i < cap → (w'.cells? 0 (a.add (i * P.cellsOf e')) (P.cellsOf e')).bind (DataW.trod enc P w' 0 (fun b => decide (b < w.heap.size)) true n e') = (w.cells? 0 (a.add (i * P.cellsOf e')) (P.cellsOf e')).bind (DataW.trod enc P w 0 (fun _ => true) true n e') := by
     intro i hi
     obtain ⟨cs', y, h5, h6, _, h7⟩ := hgot i hi
     have hc : w'.cells? 0 (a.add (i * P.cellsOf e')) (P.cellsOf e') = w.cells? 0 (a.add (i * P.cellsOf e')) (P.cellsOf e') := by
      unfold World.cells?
      have e0 : (0 : Nat) ≤ (a.add (i * P.cellsOf e')).block := Nat.zero_le _
      rw [if_pos e0, if_pos e0]
      refine mapM_same fun j hj => ?_
      have hj' : 0 < P.cellsOf e' := by have := List.mem_range.1 hj; omega
      have hb := (hcell i hi hj').2
      unfold World.cell?
      rw [hadd _ (by omega) hj', add_plain]
      simp only
      rw [hw a.block hb]
     rw [hc, h5, Option.bind_some, Option.bind_some, h6, h7]
    have hsp' : rest ≠ [] → decide (a.block < w.heap.size) = true := by
     intro hne
     obtain ⟨hr1, _⟩ := hsp rfl
     have : 0 < rest.length := List.length_pos_iff.2 hne
     have hpos : 0 < P.cellsOf e' := by rw [← hsz]; exact hpz
     exact decide_eq_true (hcell 0 (by omega) hpos).2
    unfold DataW.trod at h ⊢
    simp only [hu] at h ⊢
    split at h
    rotate_left
    ·simp at h
    rename_i hcond
    rw [if_pos hcond]
    rw [← h]
    have e1 : (List.range len).mapM (fun i => (w'.cells? 0 (a.add (i * P.cellsOf e')) (P.cellsOf e')).bind (DataW.trod enc P w' 0 (fun b => decide (b < w.heap.size)) true n e')) = (List.range len).mapM (fun i => (w.cells? 0 (a.add (i * P.cellsOf e')) (P.cellsOf e')).bind (DataW.trod enc P w 0 (fun _ => true) true n e')) :=
     mapM_same fun i hi => hnew i (by have := List.mem_range.1 hi; omega)
    have e2 : (List.range (cap - len)).mapM (fun j => (w'.cells? 0 (a.add ((len + j) * P.cellsOf e')) (P.cellsOf e')).bind (DataW.trod enc P w' 0 (fun b => decide (b < w.heap.size)) true n e')) = (List.range (cap - len)).mapM (fun j => (w.cells? 0 (a.add ((len + j) * P.cellsOf e')) (P.cellsOf e')).bind (DataW.trod enc P w 0 (fun _ => true) true n e')) :=
     mapM_same fun i hi => hnew (len + i) (by have := List.mem_range.1 hi; omega)
    rw [e1, e2]
    congr 1
    funext es'
    congr 1
    by_cases hcl : cap = len
    ·subst hcl
     simp
    ·have hne : rest ≠ [] := by
      obtain ⟨hr1, _⟩ := hsp rfl
      intro h0
      rw [h0] at hr1
      simp at hr1
      omega
     rw [if_pos (hsp' hne)]
     simp
 | .st f, t, fuel, cs, x, ht, h, hwt => by
  obtain ⟨fs, hu, ht⟩ : ∃ fs, P.underlying t = some (.struct fs) ∧ (tyOkF P f fs.toList 0 && szT f == P.cellsOf t) = true := by
   unfold tyOk at ht
   split at ht
   ·rename_i fs hu; exact ⟨fs, hu, ht⟩
   ·simp at ht
  simp only [Bool.and_eq_true, beq_iff_eq] at ht
  obtain ⟨hf, hsz⟩ := ht
  cases fuel with
  | zero => simp [DataW.trod] at h
  | succ n =>
  unfold DataW.trod at h
  simp only [hu] at h
  obtain ⟨hlen, h⟩ := Option.ite_none_right_eq_some.1 h
  obtain ⟨xs, hxs, rfl⟩ := Option.map_eq_some_iff.1 h
  simp only [DataW.weights, hu] at hwt
  obtain ⟨⟨ts, h1, h2⟩, h3⟩ := entryF hw f fs.toList 0 n cs xs hf hxs hwt
  refine ⟨⟨ts, h1, ?_⟩, ?_⟩
  ·rw [List.drop_zero, hsz, ← hlen, List.take_length] at h2
   exact h2
  ·unfold DataW.trod
   simp only [hu]
   rw [if_pos hlen, h3]
   rfl
 | .fn, _, _, _, _, ht, _, _ => by simp [tyOk] at ht
 | .fc _ _, _, _, _, _, ht, _, _ => by simp [tyOk] at ht
theorem entryF (hw : ∀ b, b < w.heap.size → w'.heap[b]? = w.heap[b]?) : ∀ (f : DT) (fs : List Field) (off n : Nat) (cs : List Value) (xs : List (DataW H × List MemPlace)), tyOkF P f fs off = true →
  fs.mapM (fun fd => DataW.trod enc P w 0 (fun _ => true) true n fd.type ((cs.drop fd.offset).take (P.cellsOf fd.type))) = some xs → (∀ k ∈ DataW.weightsEach P (fs.map (·.type)) (xs.map (·.1)), k ≤ reachBytes) →
  (∃ ts, IsT f ts ∧ RdL w (fun _ => True) ts ((cs.drop off).take (szT f))) ∧ fs.mapM (fun fd => DataW.trod enc P w' 0 (fun b => decide (b < w.heap.size)) true n fd.type ((cs.drop fd.offset).take (P.cellsOf fd.type))) = some xs
 | .fn, [], off, n, cs, xs, _, h, _ => by
  simp at h
  subst h
  refine ⟨⟨[], rfl, ?_⟩, by simp⟩
  simp [szT, RdL]
 | .fc a f, fd :: fs, off, n, cs, xs, ht, h, hwt => by
  simp only [tyOkF, Bool.and_eq_true, beq_iff_eq] at ht
  obtain ⟨⟨⟨ho, ha⟩, hsz⟩, hf⟩ := ht
  rw [List.mapM_cons] at h
  simp only [Option.bind_eq_bind, Option.bind_eq_some_iff, Option.pure_def, Option.some.injEq] at h
  obtain ⟨y, h1, ys, h2, rfl⟩ := h
  simp only [List.map_cons, DataW.weightsEach, List.mem_append] at hwt
  obtain ⟨⟨t1, i1, r1⟩, g1⟩ := entry hw a fd.type n _ y ha h1 fun k hk => hwt k (.inl hk)
  obtain ⟨⟨t2, i2, r2⟩, g2⟩ := entryF hw f fs (off + szT a) n cs ys hf h2 fun k hk => hwt k (.inr hk)
  refine ⟨⟨t1 ++ t2, ⟨t1, t2, rfl, i1, i2⟩, ?_⟩, ?_⟩
  ·rw [ho, ← hsz] at r1
   have hl := rdL_len r1
   rw [isT_len i1] at hl
   have e : (cs.drop off).take (szT a + szT f) = (cs.drop off).take (szT a) ++ (cs.drop (off + szT a)).take (szT f) := by
    rw [List.take_add, List.drop_drop]
   rw [szT, e]
   exact rdL_app r1 r2
  ·rw [List.mapM_cons, g1, g2]
   rfl
 | .fn, _ :: _, _, _, _, _, ht, _, _ => by simp [tyOkF] at ht
 | .fc _ _, [], _, _, _, _, ht, _, _ => by simp [tyOkF] at ht
 | .int, _, _, _, _, _, ht, _, _ => by simp [tyOkF] at ht
 | .bool, _, _, _, _, _, ht, _, _ => by simp [tyOkF] at ht
 | .str, _, _, _, _, _, ht, _, _ => by simp [tyOkF] at ht
 | .sl _, _, _, _, _, _, ht, _, _ => by simp [tyOkF] at ht
 | .st _, _, _, _, _, _, ht, _, _ => by simp [tyOkF] at ht
end
def isSt : DT → Bool
 | .st _ => true
 | _ => false
def IsA : List DT → List (Bool × List T) → Prop
 | [], [] => True
 | ty :: tys, x :: xs => x.1 = isSt ty ∧ IsT ty x.2 ∧ IsA tys xs
 | _, _ => False
def tysOk (P : Program) : List DT → List TypeId → Bool
 | [], [] => true
 | ty :: tys, t :: ts => tyOk P ty t && tysOk P tys ts
 | _, _ => false
theorem ok_cells {ty : DT} {t : TypeId} {r : Reach} {base : Nat} {v : Value} (h : tyOk P ty t = true) (hv : Value.okWide P w r base t v) : if isSt ty then ∃ cs : List Value, v = .agg cs.toArray ∧ v.cells.toList = cs else v.cells.toList = [v] := by
 have one : ∀ k, P.underlying t = some k → (match k with | .struct _ | .array .. | .interface _ | .map .. | .func .. | .chan .. | .unsafePointer => False | _ => True) → v.cells.toList = [v] := by
  intro k hk hn
  unfold Value.okWide at hv
  rw [hk] at hv
  cases v <;> try rfl
  exfalso
  cases k <;> simp only at hn <;> simp [Cell.okWide, Cell.ok, hk] at hv
 cases ty <;> simp only [isSt, if_true, Bool.false_eq_true, if_false]
 case st f =>
  unfold tyOk at h
  split at h
  ·rename_i fs hu
   unfold Value.okWide at hv
   rw [hu] at hv
   obtain ⟨cs, rfl, _⟩ := hv
   exact ⟨cs.toList, by simp, by simp [Value.cells]⟩
  ·simp at h
 case int =>
  unfold tyOk at h
  split at h
  ·rename_i hu; exact one _ hu trivial
  ·simp at h
 case bool =>
  unfold tyOk at h
  split at h
  ·rename_i hu; exact one _ hu trivial
  ·simp at h
 case str =>
  unfold tyOk at h
  split at h
  ·rename_i hu; exact one _ hu trivial
  ·simp at h
 case sl e =>
  unfold tyOk at h
  split at h
  ·rename_i hu; exact one _ hu trivial
  ·simp at h
 all_goals simp [tyOk] at h
theorem entryA (hw : ∀ b, b < w.heap.size → w'.heap[b]? = w.heap[b]?) {r : Reach} {base : Nat} : ∀ (tys : List DT) (ts : List TypeId) (vs : List Value) (ds : List (DataW H)) (p : List MemPlace), tysOk P tys ts = true →
  (∀ (j : Nat) t v, ts[j]? = some t → vs[j]? = some v → Value.okWide P w r base t v) → DataW.TrodAll enc P w 0 (fun _ => true) true ts vs ds p → (∀ n ∈ DataW.weightsEach P ts ds, n ≤ reachBytes) →
  ∃ as_, IsA tys as_ ∧ ArgsR w (fun _ => True) as_ vs ∧ DataW.TrodAll enc P w' 0 (fun b => decide (b < w.heap.size)) true ts vs ds p ∧ ds.length = tys.length
 | [], [], vs, ds, p, _, _, hA, _ => by
  obtain ⟨rfl, rfl, rfl⟩ := trodAll_nil hA
  exact ⟨[], trivial, trivial, rfl, rfl⟩
 | ty :: tys, t :: ts, vs, ds, p, ht, hok, hA, hwt => by
  simp only [tysOk, Bool.and_eq_true] at ht
  obtain ⟨v, vs', d, ds', p0, q0, rfl, rfl, rfl, ⟨fuel, h0⟩, h1⟩ := trodAll_cons hA
  simp only [DataW.weightsEach, List.mem_append] at hwt
  obtain ⟨⟨ts0, i0, r0⟩, g0⟩ := entry hw ty t fuel _ _ ht.1 h0 fun n hn => hwt n (.inl hn)
  obtain ⟨as_, i1, r1, g1, hl⟩ := entryA hw tys ts vs' ds' q0 ht.2 (fun j t v h2 h3 => hok (j + 1) t v (by simpa using h2) (by simpa using h3)) h1 fun n hn => hwt n (.inr hn)
  have hc := ok_cells ht.1 (hok 0 t v rfl rfl)
  refine ⟨(isSt ty, ts0) :: as_, ⟨rfl, i0, i1⟩, ⟨?_, r1⟩, ⟨p0, q0, ⟨fuel, g0⟩, g1, rfl⟩, by simp [hl]⟩
  unfold ArgR
  simp only
  split at hc
  ·rename_i hs
   rw [if_pos hs]
   obtain ⟨cs, rfl, hcs⟩ := hc
   rw [hcs] at r0
   exact ⟨cs, rfl, r0⟩
  ·rename_i hs
   rw [if_neg hs]
   rw [hc] at r0
   cases ts0 with
   | nil => simp only [RdL] at r0
   | cons t0 l =>
    cases l with
    | nil => simp only [RdL, and_true] at r0; exact ⟨t0, rfl, r0⟩
    | cons _ _ => simp only [RdL] at r0; exact r0.2.elim
 | [], _ :: _, _, _, _, ht, _, _, _ => by simp [tysOk] at ht
 | _ :: _, [], _, _, _, ht, _, _, _ => by simp [tysOk] at ht
theorem law_contract_x {X : World → Prop} (hT : ∀ W, X W → ∀ w, Below W.heap.size W w → TabW w) {f : FuncId} {fn : Func} {s : ChangeSpec} {conds : List PathCond} {a : Assume} {tys : List DT} {tb : TypeId} (hty : tysOk P tys fn.params.toList = true) (hvars : s.vars = []) (hres : fn.resultTypes = #[tb]) (hb : P.underlying tb = some .bool)
  (hspec : ∀ ds : List (DataW H), ds.length = tys.length → s.fn H ds = { results := [.lit (.bool true)], args := ds }) (main : ∀ as_, IsA tys as_ → Ctr P f as_ [rB true]) :
  ∀ (W : World) (base : Nat) (args : Array Value) (ds gs : List (DataW H)) (before : List MemPlace),
   (∀ (j : Nat) t v, fn.params[j]? = some t → args[j]? = some v → Value.okWide P W .any base t v) →
   DataW.Whole enc P fn.params.toList s.vars false W args.toList ds gs before →
   conds.all (PathCond.test P ⟨fn.params.toList, ds, s.plain.varTypes P, gs⟩) = true →
   (DataW.weightsEach P (fn.params.toList ++ s.plain.varTypes P) (ds ++ gs)).all (· ≤ reachBytes) = true → X W →
   a.holds P (lone (Frame.enter P f args .normal) [] W) →
   Calls P f args W fun e W' => ∃ v, e = .returned v ∧ s.post enc P fn false true false false W args v W' := by
 intro W base args ds gs before hval hW _ hsz hX _
 have hW' := hW
 obtain ⟨p, q, hA, hV, rfl, hfz, hnd⟩ := hW
 have hgs : gs = [] := by
  rw [hvars] at hV
  obtain ⟨rfl, _⟩ := trodVars_none hV
  rfl
 subst hgs
 have hvt : s.plain.varTypes P = [] := by simp [ChangeSpec.plain, DataSpec.varTypes, hvars]
 rw [hvt, List.append_nil, List.append_nil] at hsz
 have hsz' : ∀ n ∈ DataW.weightsEach P fn.params.toList ds, n ≤ reachBytes := by
  intro n hn
  simpa using List.all_eq_true.1 hsz n hn
 have key := fun (W' : World) (hw : ∀ b, b < W.heap.size → W'.heap[b]? = W.heap[b]?) => entryA hw tys fn.params.toList args.toList ds p hty (fun j t v h1 h2 => hval j t v (by simpa using h1) (by simpa using h2)) hA hsz'
 obtain ⟨as_, i, r, _, _⟩ := key W fun _ _ => rfl
 have hc := (main as_ i).2 W (fun _ => True) args.toList (hT W hX) r
 rw [show args.toList.toArray = args by simp] at hc
 refine Calls.mono hc fun e W' he => ?_
 cases e with
 | outgrown => exact he.elim
 | panicked c => exact he.elim
 | returned v =>
  obtain ⟨hbel, us, G, rfl, hG, hGw, hrs⟩ := he
  obtain ⟨_, _, _, hA', hlen⟩ := key W' fun b hb => hbel.block b hb
  refine ⟨_, rfl, ?_⟩
  have hu : us = [.bool true] := by
   cases us with
   | nil => exact hrs.elim
   | cons u us =>
    obtain ⟨G1, G2, h1, h2, _⟩ := hrs
    cases us with
    | cons _ _ => exact h2.elim
    | nil =>
     unfold ResV at h1
     simp only [Bool.false_eq_true, if_false, ResC, Rd] at h1
     rw [h1.2.1.1]
  subst hu
  have hsp := hspec ds hlen
  refine ⟨ds, [], p ++ q, [], p, [], hW', ?_, ?_, ?_, hbel.frame _, fun h => by cases h⟩
  ·rw [List.append_nil, hsp, hres]
   exact trodAll_mk1 (shut_bool hb _)
  ·rw [List.append_nil, hsp]
   exact hA'
  ·rw [List.append_nil, hsp, hvars]
   rfl
theorem law_contract (hT : ∀ w, TabW w) {f : FuncId} {fn : Func} {s : ChangeSpec} {conds : List PathCond} {a : Assume} {tys : List DT} {tb : TypeId} (hty : tysOk P tys fn.params.toList = true) (hvars : s.vars = []) (hres : fn.resultTypes = #[tb]) (hb : P.underlying tb = some .bool)
  (hspec : ∀ ds : List (DataW H), ds.length = tys.length → s.fn H ds = { results := [.lit (.bool true)], args := ds }) (main : ∀ as_, IsA tys as_ → Ctr P f as_ [rB true]) :
  ∀ (W : World) (base : Nat) (args : Array Value) (ds gs : List (DataW H)) (before : List MemPlace),
   (∀ (j : Nat) t v, fn.params[j]? = some t → args[j]? = some v → Value.okWide P W .any base t v) →
   DataW.Whole enc P fn.params.toList s.vars false W args.toList ds gs before →
   conds.all (PathCond.test P ⟨fn.params.toList, ds, s.plain.varTypes P, gs⟩) = true →
   (DataW.weightsEach P (fn.params.toList ++ s.plain.varTypes P) (ds ++ gs)).all (· ≤ reachBytes) = true →
   a.holds P (lone (Frame.enter P f args .normal) [] W) →
   Calls P f args W fun e W' => ∃ v, e = .returned v ∧ s.post enc P fn false true false false W args v W' := by
 exact fun W base args ds gs before hval hW hc hsz ha => law_contract_x (X := fun _ => True) (fun _ _ w _ => hT w) hty hvars hres hb hspec main W base args ds gs before hval hW hc hsz trivial ha
end
end Go.Proofs.YtpclnmleldeleaaGreatR
namespace Go.Proofs.YtpclnmleldeleaaGreatR
open Go Go.RowKit Go.Proofs
theorem tlw_finals : "finals".toList = ['f', 'i', 'n', 'a', 'l', 's'] := String.toList_ofList
theorem tlw_reflectrows : "reflectrows".toList = ['r', 'e', 'f', 'l', 'e', 'c', 't', 'r', 'o', 'w', 's'] := String.toList_ofList
theorem tlw_leanrows : "leanrows".toList = ['l', 'e', 'a', 'n', 'r', 'o', 'w', 's'] := String.toList_ofList
theorem tlw_onebuild : "onebuild".toList = ['o', 'n', 'e', 'b', 'u', 'i', 'l', 'd'] := String.toList_ofList
theorem tlw_publicsums : "publicsums".toList = ['p', 'u', 'b', 'l', 'i', 'c', 's', 'u', 'm', 's'] := String.toList_ofList
theorem tlw_eqguard : "eqguard".toList = ['e', 'q', 'g', 'u', 'a', 'r', 'd'] := String.toList_ofList
theorem tlw_ownunsafe : "ownunsafe".toList = ['o', 'w', 'n', 'u', 'n', 's', 'a', 'f', 'e'] := String.toList_ofList
theorem tlw_libbeside : "libbeside".toList = ['l', 'i', 'b', 'b', 'e', 's', 'i', 'd', 'e'] := String.toList_ofList
theorem tlw_ownbeside : "ownbeside".toList = ['o', 'w', 'n', 'b', 'e', 's', 'i', 'd', 'e'] := String.toList_ofList
theorem tlw_reflbeside : "reflbeside".toList = ['r', 'e', 'f', 'l', 'b', 'e', 's', 'i', 'd', 'e'] := String.toList_ofList
theorem tlw_aliases : "aliases".toList = ['a', 'l', 'i', 'a', 's', 'e', 's'] := String.toList_ofList
theorem tlw_afterinit : "afterinit".toList = ['a', 'f', 't', 'e', 'r', 'i', 'n', 'i', 't'] := String.toList_ofList
theorem tlw_crcplain : "crcplain".toList = ['c', 'r', 'c', 'p', 'l', 'a', 'i', 'n'] := String.toList_ofList
theorem tlw_roadunsafe : "roadunsafe".toList = ['r', 'o', 'a', 'd', 'u', 'n', 's', 'a', 'f', 'e'] := String.toList_ofList
theorem tlw_fmthandon : "fmthandon".toList = ['f', 'm', 't', 'h', 'a', 'n', 'd', 'o', 'n'] := String.toList_ofList
theorem tlw_gc : "gc".toList = ['g', 'c'] := String.toList_ofList
theorem tlw_spec : "spec".toList = ['s', 'p', 'e', 'c'] := String.toList_ofList
theorem tlw_carried : "carried".toList = ['c', 'a', 'r', 'r', 'i', 'e', 'd'] := String.toList_ofList
theorem tlw_cut : "cut".toList = ['c', 'u', 't'] := String.toList_ofList
theorem tlw_stop : "stop".toList = ['s', 't', 'o', 'p'] := String.toList_ofList
theorem tlw_harness : "harness".toList = ['h', 'a', 'r', 'n', 'e', 's', 's'] := String.toList_ofList
theorem tlw_ownmain : "ownmain".toList = ['o', 'w', 'n', 'm', 'a', 'i', 'n'] := String.toList_ofList
def Cut (P : Program) : Prop := ∃ r, behindMainWord (wordsSigns P.initOrder.toList) = ['c', 'u', 't'] :: r
theorem strip_cut (r : List (List Char)) : stripLifts liftWords (['c', 'u', 't'] :: r) = ([], ['c', 'u', 't'] :: r) := by
 simp only [liftWords, stripLifts, tlw_finals, tlw_reflectrows, tlw_leanrows, tlw_onebuild, tlw_publicsums, tlw_eqguard, tlw_ownunsafe, tlw_libbeside, tlw_ownbeside, tlw_reflbeside, tlw_aliases, tlw_afterinit, tlw_crcplain, tlw_roadunsafe, tlw_fmthandon]
 rfl
theorem behind_of (s : List Char) (hs : isSumSigns s = true) (r : List (List Char)) : behindMainWord (['h', 'a', 'r', 'n', 'e', 's', 's'] :: s :: r) = r := by
 unfold behindMainWord
 simp [hs, tlw_harness]
theorem may_of {P : Program} (h : Cut P) (h1 : P.laysLater = false) (h2 : P.bearsReflect = false) (h3 : P.doorRows = []) : P.mayEnter = true := by
 obtain ⟨r, h⟩ := h
 have h4 : P.doorFits [] = true := by
  unfold Program.doorFits
  rw [h3]
  rfl
 unfold Program.mayEnter
 rw [h]
 simp only [strip_cut, tlw_gc, tlw_spec, tlw_carried, tlw_cut, tlw_stop, h1, h2, h4]
 rfl
theorem hea_of {P : Program} (h : Cut P) : P.headLifts = [] := by
 obtain ⟨r, h⟩ := h
 unfold Program.headLifts
 rw [h]
 simp only [strip_cut, tlw_cut]
 rfl
theorem lif_of {P : Program} (h : Cut P) : P.liftsFinal = false := by
 have hh := hea_of h
 obtain ⟨r, h⟩ := h
 unfold Program.liftsFinal
 rw [h, hh]
 simp only [tlw_carried, tlw_gc, tlw_cut]
 rfl
theorem mak_of {P : Program} (h : Cut P) : P.make = some .cut := by
 obtain ⟨r, h⟩ := h
 unfold Program.make
 rw [h]
 simp only [tlw_gc, tlw_spec, tlw_cut]
 rfl
theorem rec_of {P : Program} {f g h : FuncId} (h1 : (P.closure f).contains g = true) (h2 : ((P.funcs[g]?).elim [] P.leadsTo).contains h = true) (h3 : (P.closure h).contains g = true) : P.recurses f = true := by
 unfold Program.recurses
 rw [Bool.or_eq_true]
 right
 exact List.any_eq_true.2 ⟨g, List.contains_iff_mem.1 h1, List.any_eq_true.2 ⟨h, List.contains_iff_mem.1 h2, h3⟩⟩
theorem cut_of {P : Program} (s a b : List Char) (h : P.initOrder = String.ofList (a ++ b)) (h2 : ∀ r, wordsSigns (a ++ r) = ['h', 'a', 'r', 'n', 'e', 's', 's'] :: s :: ['c', 'u', 't'] :: wordsSigns r) (hs : isSumSigns s = true) : Cut P :=
 ⟨wordsSigns b, by rw [h, String.toList_ofList, h2, behind_of s hs]⟩
end Go.Proofs.YtpclnmleldeleaaGreatR
