import PyProof.Rows.All
import Wide.All
import OpenK.AllK
import Wide.FinOn
import Lean
import PySem.Challenge.RW_og0233_01
open PySem PySem.W PyProof.Rows PySem.Calls PySem.Spec
set_option Elab.async false
set_option compiler.extract_closed false
set_option maxRecDepth 100000
set_option maxHeartbeats 4000000
namespace Mine
noncomputable def keepB (l : List Stmt) : List Stmt := (l.take 2).drop 1 ++ ((l.drop 3).take 18 ++ l.drop 22)
noncomputable def vw : Program := { PySem.Challenge.rw_og0233_01.row.toRowW.1 with main := { PySem.Challenge.rw_og0233_01.row.toRowW.1.main with body := keepB PySem.Challenge.rw_og0233_01.row.toRowW.1.main.body } }
noncomputable def runG (ok : Thread → Bool) (stp : SharedT → Thread → Option (SharedT × Thread)) : Nat → SharedT → Thread → Option SharedT
  | 0, _, _ => none
  | n + 1, s, t => match through t with
    | true => some s
    | false => match ok t with
      | false => none
      | true => match stp s t with
        | some (s', t') => runG ok stp n s' t'
        | none => none
theorem runG_of {tb : String → Option Builtin} {p : Program} {w : World} {n₀ : Nat} {ann : Option Value} : ∀ {n : Nat} {s s' : SharedT} {t : Thread}, runG (stepOk n₀ ann) (stepT (denote tb) p w) n s t = some s' → topRun tb p w n₀ ann n s.abs t = some s'.abs
  | 0, _, _, _, h => by cases h
  | n + 1, s, s', t, h => by
    unfold runG at h
    unfold topRun
    cases ht : through t with
    | true => rw [ht] at h; cases h; rfl
    | false =>
      rw [ht] at h
      cases hk : stepOk n₀ ann t with
      | false => rw [hk] at h; cases h
      | true =>
        rw [hk] at h
        cases hs : stepT (denote tb) p w s t with
        | none => rw [hs] at h; cases h
        | some r => obtain ⟨s₂, t₂⟩ := r; rw [hs] at h; rw [stepT_spec hs]; exact runG_of h
noncomputable def treeOf : List Obj → Nat → BT → BT
  | [], _, t => t
  | o :: l, i, t => treeOf l (i + 1) (t.ins i o)
noncomputable def bootT (P : Params) : BT := treeOf (boot_heap P).objs.toList 0 .nil
abbrev prg : Program := PySem.Challenge.rw_og0233_01.row.toRowW.1
theorem leftG {p q : Program} {loose : List Str} {Xt : Shared → Bool} {α : Type} {Yf : Shared → α} {Ya : World → α} {N : Nat} {g0 : Bool} {H₀ : Params → Heap} {gs₀ : Array GenState} {d₀ : Drawn} {k₀ : Nat} {m₀ : Nat} {ann : Option Value} (M : Nat) {T₀ : Params → BT} {n : Nat} {lf : Params → Life}
    {ok : Nat → Option Value → Thread → Bool} {stp : (Code → Sem Fin) → Program → World → SharedT → Thread → Option (SharedT × Thread)} {dn : (String → Option Builtin) → Code → Sem Fin} {tb : String → Option Builtin} {sn : _}
    (open_ : ∀ w : World, (fencedOpening treeTable p w N).map (fun s => (s.heap, s.gens, s.drawn, s.toks)) = some (H₀ w.params, gs₀, d₀, k₀))
    (size : ∀ w : World, ((H₀ w.params).isNs mainGlobals && gs₀.size == 0, (H₀ w.params).objs.size, (H₀ w.params).nsMap mainGlobals "__annotations__") = (true, m₀, ann))
    (habs : ∀ w : World, absHeap (T₀ w.params) n (lf w.params) = H₀ w.params)
    (e1 : @stepOk = ok) (e2 : @stepT = stp) (e3 : @denote = dn) (e4 : treeTable = tb) (e5 : @openSeen = sn) (le : Nat.ble M N = true)
    (run : ∀ (w : World) (os : OsState), (runG (ok m₀ ann) (stp (dn tb) p w) M ⟨T₀ w.params, n, lf w.params, gs₀, d₀, k₀, os⟩ (topStub p)).map (fun s => ((staticsOk (importedModules p.main.body) (H₀ w.params) s.abs.heap && namesBound p s.abs.heap && gensDone s.abs && laidKept (H₀ w.params) s.abs.heap),
        sn q loose (importedModules p.main.body) Xt g0 s.abs, Yf s.abs)) = some (true, openGood q loose, Ya w)) : LeftO p q loose Xt Yf Ya N g0 := fun w => by
  subst e1 e2 e3 e5
  obtain ⟨⟨h, gs, d, k, os⟩, e, e'⟩ := Option.map_eq_some_iff.mp (open_ w)
  obtain ⟨rfl, rfl, rfl, rfl⟩ : h = H₀ w.params ∧ gs = gs₀ ∧ d = d₀ ∧ k = k₀ := by simpa using e'
  obtain ⟨z1, z2, z3⟩ : _ ∧ _ ∧ _ := by simpa only [Prod.mk.injEq] using size w
  obtain ⟨s, r, l⟩ := Option.map_eq_some_iff.mp (run w os)
  rw [← e4] at r
  obtain ⟨l1, l2, l3⟩ : _ ∧ _ ∧ _ := by simpa only [Prod.mk.injEq] using l
  have r := runG_of r
  unfold SharedT.abs at r
  dsimp only at r
  rw [habs w] at r
  have r := topRun_mono (N - M) _ _ _ _ r
  rw [show M + (N - M) = N by have := Nat.le_of_ble_eq_true le; omega] at r
  have t : topFrom treeTable p w N ⟨H₀ w.params, gs, d, k, os⟩ = some s.abs := by
    unfold topFrom
    dsimp only
    rw [z1, z2, z3, r]
    show (match staticsOk (importedModules p.main.body) (H₀ w.params) s.abs.heap && namesBound p s.abs.heap && gensDone s.abs && laidKept (H₀ w.params) s.abs.heap with | true => _ | false => _) = _
    rw [l1]
    rfl
  unfold openEnds
  rw [e]
  show (topFrom treeTable p w N ⟨H₀ w.params, gs, d, k, os⟩).map _ = _
  rw [t]
  exact congrArg some (congr (congrArg Prod.mk l2) l3)
theorem boot0 : ∀ w : World, ((boot_heap w.params).isNs mainGlobals && (#[] : Array GenState).size == 0, (boot_heap w.params).objs.size, (boot_heap w.params).nsMap mainGlobals "__annotations__") = (true, 11, some (Value.ref 6)) := by
  intro w; kernel_rfl
theorem boot1 : ∀ w : World, absHeap (bootT w.params) 11 (boot_heap w.params).life = boot_heap w.params := by
  intro w; kernel_rfl
theorem boot2 : ∀ w : World, (fencedOpening treeTable prg w 2874).map (fun s => (s.heap, s.gens, s.drawn, s.toks)) = some (boot_heap w.params, Array.mk [], boot_drawn, boot_toks) :=
  boot_open (by rfl) (by decide) (fun _ => by rfl)
theorem said : PySem.Challenge.rw_og0233_01.wellSaid = true := by
  rw [PySem.W.Fast.te9446332074065402090]
  decide +kernel
section
local macro_rules | `(tactic| o_law) => `(tactic| refine holds_law said fun _ => ?_)
local macro_rules | `(tactic| o_head $H) => `(tactic| (refine holds_open (q := vw) (loose := [PySem.Str.ofString "KeyLevels"]) (Xt := fun s => xlAt vw [] s && recOk (RowW.records (OpenRow.toRowW PySem.Challenge.rw_og0233_01.row)) s) (XP := XL vw []) (Yf := Hook.obs $H) (Ya := Hook.val $H) (YP := Hook.says $H) (N := 2874) ?hl (Hook.of $H) (Hook.keeps $H) (fun s e => xl_of s (Bool.and_eq_true_iff.mp e).1) XL.keeps (by rfl) (by rfl) (by rfl) (fun s e => recFacts_of (Bool.and_eq_true_iff.mp e).2) (by rfl) (by first | assumption | decide +kernel) (by decide +kernel) ⟨rfl, rfl, rfl, rfl, rfl, by decide +kernel⟩ ?hw ?hc; (case hl => refine leftG (T₀ := bootT) (n := 11) (lf := fun P => (boot_heap P).life) 1394 boot2 boot0 boot1 PySem.W.Fast.te6613529449190102663 PySem.W.Fast.te10156331382660048174 PySem.W.Fast.te11892475500146522536 PySem.W.Fast.te14364793385576792824 PySem.W.Fast.te4187177175401517315 (by decide) ?_; intro w os; kernel_rfl)))
open_top hd for PySem.Challenge.rw_og0233_01
end
theorem quiet : True := by
  w_top off
  trivial
section
def Apart (A B : List (Addr × Obj)) : Prop := ∀ p ∈ A, ∀ q ∈ B, p.1 ≠ q.1
theorem Apart.symm {A B : List (Addr × Obj)} (h : Apart A B) : Apart B A := fun p hp q hq e => h q hq p hp e.symm
theorem Apart.keys {A A' B : List (Addr × Obj)} (h : Apart A B) (e : A'.map (·.1) = A.map (·.1)) : Apart A' B := fun p hp q hq => by
  have h1 : p.1 ∈ A.map (·.1) := by rw [← e]; exact List.mem_map.mpr ⟨p, hp, rfl⟩
  obtain ⟨p', hp', e'⟩ := List.mem_map.mp h1
  rw [← e']; exact h p' hp' q hq
theorem Apart.off {A B : List (Addr × Obj)} {adr : List Addr} (h : Apart A B) (hs : ∀ b ∈ adr, b ∈ A.map (·.1)) : OwnOff B adr := fun p hp b hb e => by
  obtain ⟨q, hq, rfl⟩ := List.mem_map.mp (hs b hb)
  exact h q hq p hp e.symm
theorem News.less {h₀ h : Heap} {L : Addr} {l l' : List (Addr × Obj)} (N : News h₀ L h l) (hs : ∀ p ∈ l', p ∈ l) : News h₀ L h l' := fun p hp => N p (hs p hp)
section
variable {prog : Program} {w : World} {A : Around} {E : Value → Shared → Prop} {s : Shared} {h₀ h : Heap} {L D : Addr} {m : Str → Option Value} {news news' : List (Addr × Obj)} {n : Nat}
theorem pop0 {v : Value} {r : List Value} {u : Tok} {Q : Value → Shared → Prop} (F : Fr h₀ L s.heap m) (N : News h₀ L s.heap news) (U : Upd D (listOf (v :: r).toArray n) (listOf r.toArray (n + 1)) news news') (hz : r.length ≤ 1000)
    (h : ∀ h', Fr h₀ L h' m → News h₀ L h' news' → Q v { s with heap := h' }) : wpAny (model prog w) A (call (.builtin "list.pop") [.ref D, .int 0 u]) Q E s :=
  kl_popAt (k := 0) (p := []) (q := r) (y := v) F N rfl (by simp [seqIndex?]) rfl U (by rw [sizeLine_eq]; simp; omega) h
end
theorem fm0 (a : Int) {n : Int} (h : 0 < n) : 0 ≤ a.fmod n := by rw [Int.fmod_eq_emod_of_nonneg _ (by omega)]; exact Int.emod_nonneg _ (by omega)
theorem fm1 (a : Int) {n : Int} (h : 0 < n) : a.fmod n < n := by rw [Int.fmod_eq_emod_of_nonneg _ (by omega)]; exact Int.emod_lt_of_pos _ h
theorem off1 {D : Addr} : ∀ {l : List (Addr × Obj)}, LCg.Off1 D l → ∀ p ∈ l, p.1 ≠ D
  | [], _, _, h => nomatch h
  | _ :: _, x, p, h => by
    rcases List.mem_cons.mp h with rfl | h
    · exact x.1
    · exact off1 x.2 p h
theorem News.skip1 {h₀ h : Heap} {L : Addr} {l : List (Addr × Obj)} {x y : Addr × Obj} (N : News h₀ L h (x :: y :: l)) : News h₀ L h (x :: l) := fun p hp => by
  rcases List.mem_cons.mp hp with rfl | hp
  · exact N _ List.mem_cons_self
  · exact N _ (List.mem_cons_of_mem _ (List.mem_cons_of_mem _ hp))
theorem News.tl {h₀ h : Heap} {L : Addr} {l : List (Addr × Obj)} {x : Addr × Obj} (N : News h₀ L h (x :: l)) : News h₀ L h l := fun p hp => N p (List.mem_cons_of_mem _ hp)
def NeAll (a : Nat) : List Nat → Prop
  | [] => True
  | b :: l => (@Ne Nat a b) ∧ NeAll a l
def Dis : List Nat → Prop
  | [] => True
  | a :: l => NeAll a l ∧ Dis l
inductive Sub2 (a b : Nat) : List Nat → Prop
  | ab {l : List Nat} : b ∈ l → Sub2 a b (a :: l)
  | ba {l : List Nat} : a ∈ l → Sub2 a b (b :: l)
  | tl {c : Nat} {l : List Nat} : Sub2 a b l → Sub2 a b (c :: l)
theorem NeAll.get {a b : Nat} : ∀ {l : List Nat}, NeAll a l → b ∈ l → a ≠ b
  | [], _, h => nomatch h
  | _ :: _, x, h => by
    rcases List.mem_cons.mp h with rfl | h
    · exact x.1
    · exact NeAll.get x.2 h
theorem Dis.ne {a b : Nat} : ∀ {l : List Nat}, Dis l → Sub2 a b l → a ≠ b
  | [], _, h => nomatch h
  | _ :: _, x, .ab h => NeAll.get x.1 h
  | _ :: _, x, .ba h => Ne.symm (NeAll.get x.1 h)
  | _ :: _, x, .tl h => Dis.ne x.2 h
section
variable {prog : Program} {w : World} {A : Around} {E : Value → Shared → Prop} {s : Shared} {h₀ h : Heap} {L D : Addr} {m : Str → Option Value} {news news' : List (Addr × Obj)} {n : Nat}
theorem item_led {value slice : PySem.Expr} {a : Addr} {its : Array Value} {k : Int} {u : Tok} {v : Value} {Q : Value → Shared → Prop} (N : News h₀ L s.heap news) (hm : (a, listOf its n) ∈ news)
    (h0 : 0 ≤ k) (hhi : k < 2 ^ 63) (hx : its[k.toNat]? = some v) (h : Q v s)
    (hs : subscripted slice false (.ref a) (.int k u) = operate [.ref a, .int k u] (getItem (.ref a) (.int k u))) :
    wpAny (model prog w) A (subscriptTail value slice (.ref a) (.int k u)) Q E s :=
  have hl : s.heap.IsList a its := ⟨_, (N _ hm).1, rfl, n, rfl⟩
  tail_any hl.typeIs slot_list_getitem.lookup (wpAny_getItem_list hl h0 hhi hx h) hs
end
section
variable {prog : Program} {w : World} {A : Around} {E : Value → Shared → Prop} {s : Shared} {h₀ h : Heap} {L D : Addr} {m : Str → Option Value} {news news' : List (Addr × Obj)} {n : Nat}
theorem pop1 {v₀ v : Value} {r : List Value} {u : Tok} {Q : Value → Shared → Prop} (F : Fr h₀ L s.heap m) (N : News h₀ L s.heap news) (U : Upd D (listOf (v₀ :: v :: r).toArray n) (listOf (v₀ :: r).toArray (n + 1)) news news') (hz : r.length ≤ 1000)
    (h : ∀ h', Fr h₀ L h' m → News h₀ L h' news' → Q v { s with heap := h' }) : wpAny (model prog w) A (call (.builtin "list.pop") [.ref D, .int 1 u]) Q E s :=
  kl_popAt (k := 1) (p := [v₀]) (q := r) (y := v) F N rfl (by simp [seqIndex?]; omega) rfl U (by rw [sizeLine_eq]; simp; omega) h
end
theorem ints_snoc : ∀ {P : List Int} {f : Int} {vc : List Value}, IntsAre vc (P ++ [f]) → ∃ vp tf, vc = vp ++ [Value.int f tf] ∧ IntsAre vp P
  | [], f, vc, h => by
    cases h with
    | cons _ t r => cases r; exact ⟨[], t, rfl, .nil⟩
  | p :: P, f, vc, h => by
    cases h with
    | cons _ t r => obtain ⟨vp, tf, rfl, h'⟩ := ints_snoc r; exact ⟨.int p t :: vp, tf, rfl, .cons _ _ h'⟩
theorem setL_last (y v : Value) : ∀ p : List Value, ki_setL (p ++ [y]) p.length v = some (p ++ [v])
  | [] => rfl
  | x :: p => by
    show (match ki_setL (p ++ [y]) p.length v with | some q => some (x :: q) | none => none) = some (x :: (p ++ [v]))
    rw [setL_last y v p]
theorem sidx_last (n : Nat) : seqIndex? (-1) (n + 1) = some n := by
  unfold seqIndex?
  simp
  omega
section
variable {prog : Program} {w : World} {A : Around} {E : Value → Shared → Prop} {s : Shared} {h₀ h : Heap} {L D : Addr} {m : Str → Option Value} {news news' : List (Addr × Obj)} {n : Nat}
theorem set_last {p : List Value} {y v : Value} {t : Tok} {Q : Unit → Shared → Prop} (F : Fr h₀ L s.heap m) (N : News h₀ L s.heap news) (U : Upd D (listOf (p ++ [y]).toArray n) (listOf (p ++ [v]).toArray n) news news')
    (h : ∀ h', Fr h₀ L h' m → News h₀ L h' news' → Q () { s with heap := h' }) : wpAny (model prog w) A (setItem (.ref D) (.int (-1) t) v) Q E s :=
  ki_setNeg (j := p.length) F N (by decide) (by decide) (by rw [List.size_toArray, List.length_append]; exact sidx_last _) (by simpa using setL_last y v p) U h
theorem set_first {r : List Value} {y v : Value} {t : Tok} {Q : Unit → Shared → Prop} (F : Fr h₀ L s.heap m) (N : News h₀ L s.heap news) (U : Upd D (listOf (y :: r).toArray n) (listOf (v :: r).toArray n) news news')
    (h : ∀ h', Fr h₀ L h' m → News h₀ L h' news' → Q () { s with heap := h' }) : wpAny (model prog w) A (setItem (.ref D) (.int 0 t) v) Q E s :=
  ki_set F N (by decide) (by decide) (by rfl) U h
theorem pop_last {p : List Value} {y : Value} {Q : Value → Shared → Prop} (F : Fr h₀ L s.heap m) (N : News h₀ L s.heap news) (U : Upd D (listOf (p ++ [y]).toArray n) (listOf p.toArray (n + 1)) news news') (hz : p.length ≤ 1000)
    (h : ∀ h', Fr h₀ L h' m → News h₀ L h' news' → Q y { s with heap := h' }) : wpAny (model prog w) A (call (.builtin "list.pop") [.ref D]) Q E s :=
  kl_pop F N (p := p) (y := y) (by simpa using kpa_last y p) U (by rw [sizeLine_eq]; simp; omega) h
theorem get_last {value slice : PySem.Expr} {p : List Value} {y : Value} {u : Tok} {Q : Value → Shared → Prop} (N : News h₀ L s.heap news) (hm : (D, listOf (p ++ [y]).toArray n) ∈ news) (h : Q y s)
    (hs : subscripted slice false (.ref D) (.int (-1) u) = operate [.ref D, .int (-1) u] (getItem (.ref D) (.int (-1) u))) :
    wpAny (model prog w) A (subscriptTail value slice (.ref D) (.int (-1) u)) Q E s := by
  have hl : s.heap.IsList D (p ++ [y]).toArray := ⟨_, (N _ hm).1, rfl, n, rfl⟩
  exact tail_any hl.typeIs slot_list_getitem.lookup (wpAny_getItem_list_neg hl (by decide) (by simp; omega) (by decide) (by simp; rw [show (-1 + ((p.length : Int) + 1)).toNat = p.length by omega]; simp) h) hs
end
theorem ints_snoc' {vp : List Value} {P : List Int} {a b : Int} {t : Tok} (h : IntsAre vp P) (e : a = b) : IntsAre (vp ++ [Value.int a t]) (P ++ [b]) := e ▸ IntsAre.append h (.cons _ _ .nil)
def Hold (P : Prop) : Prop := P
theorem Hold.mk {P : Prop} (h : P) : Hold P := h
theorem Hold.out {P : Prop} (h : Hold P) : P := h
theorem ne_keys {l l' : List (Addr × Obj)} {I : Addr} (h : ∀ p ∈ l, p.1 ≠ I) (e : l'.map (·.1) = l.map (·.1)) : ∀ p ∈ l', p.1 ≠ I := fun p hp => by
  have h1 : p.1 ∈ l.map (·.1) := by rw [← e]; exact List.mem_map.mpr ⟨p, hp, rfl⟩
  obtain ⟨q, hq, e'⟩ := List.mem_map.mp h1
  rw [← e']; exact h q hq
theorem AllLt.mem {d : Nat} : ∀ {l : List (Addr × Obj)}, AllLt d l → ∀ p ∈ l, p.1 < d
  | [], _, _, hp => nomatch hp
  | _ :: _, h, p, hp => by
    rcases List.mem_cons.mp hp with rfl | hp
    · exact h.1
    · exact AllLt.mem h.2 p hp
theorem AllLt.ne {d : Nat} {l : List (Addr × Obj)} (h : AllLt d l) : ∀ p ∈ l, p.1 ≠ d := fun p hp => Nat.ne_of_lt (AllLt.mem h p hp)
theorem Apart.app {A B C : List (Addr × Obj)} (h : Apart A B) (k : Apart A C) : Apart A (B ++ C) := fun p hp q hq => (List.mem_append.mp hq).elim (fun x => h p hp q x) (fun x => k p hp q x)
theorem OwnOff.app {B C : List (Addr × Obj)} {adr : List Addr} (h : OwnOff B adr) (k : OwnOff C adr) : OwnOff (B ++ C) adr := fun p hp b hb => (List.mem_append.mp hp).elim (fun x => h p x b hb) (fun x => k p x b hb)
theorem OwnOff.keys {A A' : List (Addr × Obj)} {adr : List Addr} (h : OwnOff A adr) (e : A'.map (·.1) = A.map (·.1)) : OwnOff A' adr := fun p hp b hb => by
  have h1 : p.1 ∈ A.map (·.1) := by rw [← e]; exact List.mem_map.mpr ⟨p, hp, rfl⟩
  obtain ⟨p', hp', e'⟩ := List.mem_map.mp h1
  rw [← e']; exact h p' hp' b hb
theorem Apart.less {A A' B B' : List (Addr × Obj)} (h : Apart A B) (s : ∀ p ∈ A', p ∈ A) (t : ∀ p ∈ B', p ∈ B) : Apart A' B' := fun p hp q hq => h p (s p hp) q (t q hq)
theorem Apart.keysR {A B B' : List (Addr × Obj)} (h : Apart A B) (e : B'.map (·.1) = B.map (·.1)) : Apart A B' := (Apart.keys h.symm e).symm
theorem Apart.one {A : List (Addr × Obj)} {a : Addr} {o : Obj} (h : ∀ p ∈ A, p.1 ≠ a) : Apart A [(a, o)] := fun p hp q hq => by rw [List.mem_singleton.mp hq]; exact h p hp
theorem OwnOff.cons {a : Addr} {o : Obj} {l : List (Addr × Obj)} {adr : List Addr} (h : ∀ b ∈ adr, a ≠ b) (k : OwnOff l adr) : OwnOff ((a, o) :: l) adr := fun p hp b hb => by
  rcases List.mem_cons.mp hp with rfl | hp
  · exact h b hb
  · exact k p hp b hb
theorem ne_adr {news : List (Addr × Obj)} {b : Addr} {adr : List Addr} (h : ∀ p ∈ news, p.1 ≠ b) (hs : ∀ c ∈ adr, c ∈ news.map (·.1)) : ∀ c ∈ adr, b ≠ c := fun c hc e => by
  obtain ⟨p, hp, rfl⟩ := List.mem_map.mp (hs c hc)
  exact h p hp e.symm
section
variable {prog : Program} {w : World} {A : Around} {E : Value → Shared → Prop} {s : Shared} {h₀ h : Heap} {L D : Addr} {m : Str → Option Value} {news news' : List (Addr × Obj)} {n : Nat}
theorem len_led {a : Addr} {its : Array Value} {c : Nat} {Q : Value → Shared → Prop} (N : News h₀ L s.heap news) (hm : (a, listOf its n) ∈ news) (hc : its.size = c) (hb : c ≤ 1000)
    (h : Q (.int c (s.toks + 1)) { s with toks := s.toks + 1 + 1 }) : wpAny (model prog w) A (call (.builtin "len") [.ref a]) Q E s := by
  have hl : s.heap.IsList a its := ⟨_, (N _ hm).1, rfl, n, rfl⟩
  subst hc
  exact PyProof.Rows.len_list hl (by omega) h
theorem append_led {vs : List Value} {v : Value} {Q : Value → Shared → Prop} (F : Fr h₀ L s.heap m) (N : News h₀ L s.heap news) (U : Upd D (listOf vs.toArray n) (listOf (vs ++ [v]).toArray (n + 1)) news news') (hz : vs.length ≤ 1000)
    (h : ∀ h', Fr h₀ L h' m → News h₀ L h' news' → Q .none { s with heap := h' }) : wpAny (model prog w) A (call (.builtin "list.append") [.ref D, v]) Q E s :=
  append_K F N (its := vs.toArray) (by rw [List.push_toArray]; exact U) h (by rw [sizeLine_eq]; simp; omega)
end
theorem nx_off {nx news : List (Addr × Obj)} {adr : List Addr} (h : ∀ p ∈ nx, ∀ q ∈ news, q.1 ≠ p.1) (hs : ∀ c ∈ adr, c ∈ news.map (·.1)) : OwnOff nx adr := fun p hp c hc e => by
  obtain ⟨q, hq, rfl⟩ := List.mem_map.mp (hs c hc)
  exact h p hp q hq e.symm
end
section
section
variable {prog : Program} {w : World} {A : Around} {E : Value → Shared → Prop} {s : Shared} {env : Env} {h₀ : Heap} {x : Str} {body : List Stmt} {Q : Flow → Shared → Prop}
def REnd {σ : Type} (h₀ : Heap) (L : Addr) (stored : List Str) (x : Str) (m₀ : Str → Option Value) (Jn : σ → Prop) (Led : σ → List (Addr × Obj)) (I : Addr) (oI : Obj) (s₁ s₂ : Shared) : Prop :=
  ∃ h' tk m' c, s₂ = { s₁ with heap := h', toks := tk } ∧ Fr h₀ L h' m' ∧ News h₀ L h' ((I, oI) :: Led c) ∧ (∀ p ∈ Led c, p.1 ≠ I) ∧ (∀ z, z ≠ x → stored.contains z = false → m' z = m₀ z) ∧ Jn c
def RPost {σ : Type} (h₀ : Heap) (L : Addr) (stored : List Str) (x : Str) (m₀ : Str → Option Value) (Jn : σ → Prop) (Led : σ → List (Addr × Obj)) (I : Addr) (oI : Obj) (s₁ : Shared) (Q : Flow → Shared → Prop) (f : Flow) (s₂ : Shared) : Prop :=
  match f with
  | .ret v => Q (.ret v) s₂
  | .brk => Q .next s₂
  | .next => REnd h₀ L stored x m₀ Jn Led I oI s₁ s₂
  | .cont => REnd h₀ L stored x m₀ Jn Led I oI s₁ s₂
theorem REnd.intro {σ : Type} {L : Addr} {stored : List Str} {m₀ m' : Str → Option Value} {Jn : σ → Prop} {Led : σ → List (Addr × Obj)} {I : Addr} {oI : Obj} {s₁ : Shared} {h' : Heap} {tk : Nat} (c : σ)
   (F : Fr h₀ L h' m') (N : News h₀ L h' ((I, oI) :: Led c)) (hI : ∀ p ∈ Led c, p.1 ≠ I) (hm : ∀ z, z ≠ x → stored.contains z = false → m' z = m₀ z) (hJ : Jn c) :
   REnd h₀ L stored x m₀ Jn Led I oI s₁ { s₁ with heap := h', toks := tk } := ⟨h', tk, m', c, rfl, F, N, hI, hm, hJ⟩
theorem rfr {L : Addr} {h : Heap} {stored : List Str} {m₀ m₁ : Str → Option Value} {v : Option Value} (h2 : ∀ z, z ≠ x → stored.contains z = false → m₁ z = m₀ z)
    (F : Fr h₀ L h (fun y => if y = x then v else m₁ y)) : Fr h₀ L h (fun y => if y = x then v else if stored.contains y then m₁ y else m₀ y) := by
  have em : (fun y => if y = x then v else if stored.contains y then m₁ y else m₀ y) = fun y => if y = x then v else m₁ y := by
    funext y
    by_cases hy : y = x
    · rw [if_pos hy, if_pos hy]
    · rw [if_neg hy, if_neg hy]
      cases h3 : stored.contains y with
      | true => simp
      | false => simp only [Bool.false_eq_true, if_false]; exact (h2 y hy h3).symm
  rw [em]; exact F
theorem range_any {σ : Type} {r : Addr} {a₀ b₀ : Int} {t₀ u₀ v₀ : Tok} {n : Nat} {m₀ : Str → Option Value} (stored : List Str) (J : Nat → σ → Prop) (Led : σ → List (Addr × Obj)) (c₀ : σ)
    (hh : A.handled = none) (hr : IsRange s.heap r a₀ b₀ 1 t₀ u₀ v₀) (hsmall : Builtin.Range.small a₀ b₀ 1 = true) (hn : Builtin.Range.rangeSize a₀ b₀ 1 = (n : Int)) (F : Fr h₀ env.locals s.heap m₀) (N : News h₀ env.locals s.heap (Led c₀)) (hJ : J 0 c₀)
    (turn : ∀ i c t (u : Str → Option Value) h tk I oI, i < n → J i c → (∀ p ∈ Led c, p.1 ≠ I) →
      Fr h₀ env.locals h (fun y => if y = x then some (.int (a₀ + (i : Int)) t) else if stored.contains y then u y else m₀ y) → News h₀ env.locals h ((I, oI) :: Led c) →
      wpAny (model prog w) A (execs body env) (RPost h₀ env.locals stored x m₀ (J (i + 1)) Led I oI { s with heap := h, toks := tk } Q) E { s with heap := h, toks := tk })
    (done : ∀ c (u : Str → Option Value) h tk, J n c → Fr h₀ env.locals h (fun y => if y = x then u y else if stored.contains y then u y else m₀ y) → News h₀ env.locals h (Led c) → Q .next { s with heap := h, toks := tk }) :
    wpAny (model prog w) A (pyIter (.ref r)) (fun it s₂ => LoopAtV prog w A h₀ env x body Q E it s₂) E s := by
  refine wpAny_pyIter_range hr hsmall ?_
  have W : Walks prog w A s.heap.objs.size [s.heap.objs.size] [s.heap.objs.size] n (fun i v => i < n ∧ ∃ t, v = .int (a₀ + i * 1) t)
      (fun i h => IsRangeIter h s.heap.objs.size (a₀ + (i : Nat) * 1) ((n : Int) - (i : Nat)) 1) := (Walks.range hh _ a₀ 1 n).bound
  refine ⟨s.heap.objs.size, _, _, n, _, _, m₀, Led c₀, fun i m nx => ∃ c, nx = Led c ∧ J i c ∧ ∀ z, z ≠ x → stored.contains z = false → m z = m₀ z, rfl, W, ?_, ?_, ?_, (by show IsRangeIter _ _ _ _ _; rw [hn]; simpa using Heap.get?_push_size _ rfl), F.push _, (fun p hp => ⟨Heap.get?_push_of_some _ (N p hp).1, (N p hp).2⟩), ⟨c₀, rfl, hJ, fun _ _ _ => rfl⟩, ?_, ?_⟩
  · intro hm
    exact absurd F.ns.lt ((List.mem_singleton.mp hm) ▸ Nat.lt_irrefl _)
  · intro b hb
    rw [List.mem_singleton.mp hb]
    exact next_is_new F
  · intro p hp hI
    exact absurd (Heap.lt_size (N p hp).1) ((List.mem_singleton.mp hI) ▸ Nat.lt_irrefl _)
  · rintro i v m₁ nx s₁ own ⟨h, tk, rfl⟩ hi ⟨_, t, rfl⟩ ⟨c, rfl, hJ', hm⟩ hoff hown hat hall hst F₁ N₁
    have e1 : a₀ + (i : Int) * 1 = a₀ + (i : Int) := by omega
    rw [e1] at F₁
    obtain ⟨oI, hst'⟩ : ∃ oI, h.get? s.heap.objs.size = some oI := ⟨_, hst⟩
    have hmem := hall s.heap.objs.size List.mem_cons_self (next_is_new F) oI hst'
    have hoI : ∀ p ∈ Led c, p.1 ≠ s.heap.objs.size := fun p hp e => hoff p hp (by rw [e]; exact List.mem_cons_self)
    refine wpAny_mono (turn i c t m₁ h tk s.heap.objs.size oI hi hJ' hoI (rfr hm F₁) (fun p hp => N₁ p ?_)) (fun f s₂ q => ?_) fun _ _ e => e
    · rcases List.mem_cons.mp hp with rfl | hp
      · exact List.mem_append_left _ hmem
      · exact List.mem_append_right _ hp
    · have fin : REnd h₀ env.locals stored x m₀ (J (i + 1)) Led s.heap.objs.size oI { s with heap := h, toks := tk } s₂ → LoopStepU h₀ env.locals [s.heap.objs.size] own (fun m nx => ∃ c, nx = Led c ∧ J (i + 1) c ∧ ∀ z, z ≠ x → stored.contains z = false → m z = m₀ z) { s with heap := h, toks := tk } .next s₂ := by
        rintro ⟨h', tk', m', c', e, F', N', hI', hm', hJ''⟩
        refine ⟨rfl, h', tk', m', Led c', e, F', fun p hp => ?_, fun p hp hq => hI' p hp (List.mem_singleton.mp hq), c', rfl, hJ'', hm'⟩
        rcases List.mem_append.mp hp with hp | hp
        · have h1 := List.mem_singleton.mp (hown p hp)
          have h2 := hat p hp
          rw [h1] at h2
          have h3 : p.2 = oI := Option.some.inj (h2.symm.trans hst')
          have h4 : p = (s.heap.objs.size, oI) := Prod.ext h1 h3
          rw [h4]
          exact N' _ List.mem_cons_self
        · exact N' p (List.mem_cons_of_mem _ hp)
      cases f with
      | ret v => exact .ret q
      | brk => exact .brk q
      | next => exact .next (fin q)
      | cont => exact .cont (fin q)
  · rintro h' tk m' nx F' N' _ ⟨c, rfl, hJ', hm⟩
    refine done c m' h' tk hJ' ?_ N'
    have e : (fun y => if y = x then m' y else if stored.contains y then m' y else m₀ y) = m' := by
      funext y
      by_cases hy : y = x
      · rw [if_pos hy]
      · rw [if_neg hy]
        cases h3 : stored.contains y with
        | true => simp
        | false => simp only [Bool.false_eq_true, if_false]; exact (hm y hy h3).symm
    rw [e]; exact F'
end
end
section
section
variable {prog : Program} {w : World} {A : Around} {h₀ : Heap} {L : Addr} {m : Str → Option Value} {env : Env} {ct elt : PySem.Expr} {x : Str} {scope : Scope} {cl : List (Str × Addr)} {s : Shared} {S : List (Addr × Obj) → Prop} {P : Nat → Value → Prop} {Fin : List Value → List (Addr × Obj) → Prop} {news : List (Addr × Obj)}
theorem compT_acc {n : Nat} (Acc : Nat → List Value → Prop) (h0 : Acc 0 [])
    (turn : ∀ i ys v I oI C oC D m₂ h tk (E' : Value → Shared → Prop), i < n → Acc i ys → P i v → LCg.NsObj oC m₂ → m₂ x = some v → Fr h₀ L h m → News h₀ L h ((I, oI) :: (C, oC) :: (D, LCg.lst ys) :: news) → LCg.Off3 I C D news → ((@Ne Nat I C) ∧ (@Ne Nat I D) ∧ (@Ne Nat C D)) →
      wpAny (model prog w) A (isTrue ct (compEnvC scope cl C env) (eval ct (compEnvC scope cl C env))) (fun ok s' => if ok = true then
        wpAny (model prog w) A (eval elt (compEnvC scope cl C env)) (LCg.CompEnd h₀ L m { s with heap := h, toks := tk } I oI C oC D (LCg.lst ys) S (fun y news' => Hold (news' = news ∧ Acc (i + 1) (ys ++ [y])))) E' s'
        else LCg.CompEnd h₀ L m { s with heap := h, toks := tk } I oI C oC D (LCg.lst ys) S (fun _ news' => Hold (news' = news ∧ Acc (i + 1) ys)) Value.none s') E' { s with heap := h, toks := tk })
    (fin : ∀ ys, Acc n ys → Fin ys news) : LCt.CompRestT prog w A h₀ L m env ct elt x scope cl s S P Fin n 0 [] news := by
  have key : ∀ (j i : Nat) (ys : List Value), i + j = n → Acc i ys → LCt.CompRestT prog w A h₀ L m env ct elt x scope cl s S P Fin j i ys news := by
    intro j
    induction j with
    | zero => intro i ys hi hy; obtain rfl : i = n := by omega
              exact LCt.CompRestT.zero (fin ys hy)
    | succ j ih =>
      intro i ys hi hy
      refine LCt.CompRestT.succ ?_
      intro v I oI C oC D m₂ h tk E' hv hC hx F N off ne
      have up : ∀ {ys' : List Value} {y : Value} {s' : Shared}, LCg.CompEnd h₀ L m { s with heap := h, toks := tk } I oI C oC D (LCg.lst ys) S (fun _ news' => Hold (news' = news ∧ Acc (i + 1) ys')) y s' →
          LCg.CompEnd h₀ L m { s with heap := h, toks := tk } I oI C oC D (LCg.lst ys) S (fun _ news' => LCt.CompRestT prog w A h₀ L m env ct elt x scope cl s S P Fin j (i + 1) ys' news') y s' := by
        rintro ys' y s' ⟨h', tk', nw, e, F', N', off', hS, rfl, hA⟩
        exact ⟨h', tk', _, e, F', N', off', hS, ih (i + 1) _ (by omega) hA⟩
      refine wpAny_mono (turn i ys v I oI C oC D m₂ h tk E' (by omega) hy hv hC hx F N off ne) (fun ok s' hq => ?_) fun _ _ e => e
      cases ok with
      | false => simp only [Bool.false_eq_true, if_false] at hq ⊢; exact up hq
      | true =>
        simp only [if_true] at hq ⊢
        refine wpAny_mono hq (fun y s₂ hq => ?_) fun _ _ e => e
        obtain ⟨h', tk', nw, e, F', N', off', hS, rfl, hA⟩ := hq
        exact ⟨h', tk', _, e, F', N', off', hS, ih (i + 1) _ (by omega) hA⟩
  exact key n 0 [] (by omega) h0
theorem comp_acc {n : Nat} (Acc : Nat → List Value → Prop) (h0 : Acc 0 [])
    (turn : ∀ i ys v I oI C oC D m₂ h tk (E' : Value → Shared → Prop), i < n → Acc i ys → P i v → LCg.NsObj oC m₂ → m₂ x = some v → Fr h₀ L h m → News h₀ L h ((I, oI) :: (C, oC) :: (D, LCg.lst ys) :: news) → LCg.Off3 I C D news → ((@Ne Nat I C) ∧ (@Ne Nat I D) ∧ (@Ne Nat C D)) →
      wpAny (model prog w) A (eval elt (compEnvC scope cl C env)) (LCg.CompEnd h₀ L m { s with heap := h, toks := tk } I oI C oC D (LCg.lst ys) S (fun y news' => Hold (news' = news ∧ Acc (i + 1) (ys ++ [y])))) E' { s with heap := h, toks := tk })
    (fin : ∀ ys, Acc n ys → Fin ys news) : LCg.CompRest prog w A h₀ L m env elt x scope cl s S P Fin n 0 [] news := by
  have key : ∀ (j i : Nat) (ys : List Value), i + j = n → Acc i ys → LCg.CompRest prog w A h₀ L m env elt x scope cl s S P Fin j i ys news := by
    intro j
    induction j with
    | zero => intro i ys hi hy; obtain rfl : i = n := by omega
              exact LCg.CompRest.zero (fin ys hy)
    | succ j ih =>
      intro i ys hi hy
      refine LCg.CompRest.succ ?_
      intro v I oI C oC D m₂ h tk E' hv hC hx F N off ne
      refine wpAny_mono (turn i ys v I oI C oC D m₂ h tk E' (by omega) hy hv hC hx F N off ne) (fun y s₂ hq => ?_) fun _ _ e => e
      obtain ⟨h', tk', nw, e, F', N', off', hS, rfl, hA⟩ := hq
      exact ⟨h', tk', _, e, F', N', off', hS, ih (i + 1) _ (by omega) hA⟩
  exact key n 0 [] (by omega) h0
end
end
section
local macro_rules | `(tactic| ktr_room) => `(tactic| ((try simp only [depth_under_make, depth_under_kw, depth_in1, depth_deeper, depth_caller]); (try dsimp only [ktrTop]); (try simp only [recursionLimit]); omega))
local macro_rules | `(tactic| k_room) => `(tactic| ktr_room)
local macro_rules | `(tactic| ktr_units) => `(tactic| ((try simp only [units_in1, units_deeper, Around.mark_units, units_caller]); (try dsimp only [ktrTop]); (try simp only [cLine_is]); omega))
local macro_rules | `(tactic| units_room) => `(tactic| ktr_units)
local macro_rules | `(tactic| k_units) => `(tactic| ktr_units)
local macro_rules | `(tactic| k_enter) => `(tactic| first | (refine' code_def ?k1 ?k2 ?k3 ?k4 ?k5 ?kA ?kF ?kK ?k6 ?k7 ?k8 ?k9 ?kB ?_ ?c2 ?c3 ?c4 ?c5; (case kA => exact rfl); (case kF => exact rfl); (case kK => first | exact rfl | with_reducible assumption); (case k1 => k_asm); (case k2 => k_asm); (case k3 => k_asm); (case k4 => k_asm); (case k5 => k_asm); (case k6 => k_is); (case k7 => k_is); (case k8 => ktr_room); (case k9 => first | exact BindsTo.of_eq rfl | exact binds_K (by k_in) rfl (by k_is) rfl rfl rfl | fail "k_enter: no rule for these arguments"); (case c5 => decide); (case kB => exact locs rfl); (case c2 => exact rfl); (case c3 => exact rfl); (case c4 => exact rfl); k_whole; intro g' L' h' FG' F' N' B' X' T'; (try dsimp only); (try k_lift B'); (try k_fold)) | (refine' code_defC ?k1 ?k2 ?k3 ?k4 ?k5 ?kA ?kF ?kK ?k6 ?k7 ?k8 ?k9 ?kB ?kD ?_ ?c2 ?c3 ?c4; (case kA => exact rfl); (case kF => exact rfl); (case kK => first | exact rfl | with_reducible assumption); (case k1 => k_asm); (case k2 => k_asm); (case k3 => k_asm); (case k4 => k_asm); (case k5 => k_asm); (case k6 => k_is); (case k7 => k_is); (case k8 => ktr_room); (case k9 => first | exact BindsTo.of_eq rfl | exact binds_K (by k_in) rfl (by k_is) rfl rfl rfl | fail "k_enter: no rule for these arguments"); (case kB => exact rfl); (case kD => decide +kernel); (case c2 => exact rfl); (case c3 => exact rfl); (case c4 => exact rfl); k_whole; intro g' L' h' tk' cells' FG' F' N' Y' B' X' T' l1; (try k_lt l1); k_cells Y'; (try simp only [List.cons_append, List.nil_append] at N'); (try dsimp only); (try k_lift B'); (try k_fold)))
local macro_rules | `(tactic| ktr_enter) => `(tactic| k_enter)
local macro_rules | `(tactic| walk_at "CompSrc") => `(tactic| (k_here; k_dflt (refine LCg.CompSrc.range (by rfl) (by k_asm) (by k_asm) (by assumption) (by first | decide | rfl) (by first | rfl | decide) (by first | size_fits | exact Nat.le_of_ble_eq_true rfl) ?_; intro g'; (try dsimp only); lcg_lit)))
local macro_rules | `(tactic| walk_at "CompEnd") => `(tactic| (refine LCg.CompEnd.intro (by assumption) (by assumption) _ (fun _ hp => hp) (by first | assumption | (simp only [LCg.Off3, and_true]; assumption)) (by first | lcg_src | assumption) ?_))
local macro_rules | `(tactic| walk_at "setItem ref str") => `(tactic| (k_here; k_dflt (refine' kda_set (knd := PySem.strKind _ _) ?F ?N ?U ?d (strKind_is _ _ _ _) ?z ?_; (case F => k_asm); (case N => k_asm); (case U => k_updF); (case d => k_asm); (case z => kob_size)); intro h' o' F' N' hd'; (try kob_lit); (try dsimp only at N')))
local macro_rules | `(tactic| walk_at "call builtin:list.pop") => `(tactic| (k_here; (with_reducible show wpAny _ _ (call (Value.builtin _) [Value.ref _, Value.int 0 _]) _ _ _); k_dflt (refine' pop0 ?F ?N ?U ?z ?_; (case F => k_asm); (case N => k_asm); (case U => k_upd); (case z => omega)); (intro h' F' N'; (try dsimp only [List.nil_append, List.cons_append] at N'))))
local macro_rules | `(tactic| units_room) => `(tactic| ktr_units)
local macro_rules | `(tactic| walk_at "call builtin:list.pop") => `(tactic| (k_here; (with_reducible show wpAny _ _ (call (Value.builtin _) [Value.ref _, Value.int 1 _]) _ _ _); k_dflt (refine' pop1 ?F ?N ?U ?z ?_; (case F => k_asm); (case N => k_asm); (case U => k_upd); (case z => ((try simp only [List.length_append, List.length_cons, List.length_nil]); omega))); (intro h' F' N'; (try dsimp only [List.nil_append, List.cons_append] at N'))))
local macro_rules | `(tactic| walk_at "setItem ref int") => `(tactic| (k_here; (with_reducible show wpAny _ _ (setItem (Value.ref _) (Value.int (-1) _) _) _ _ _); k_dflt (refine' set_last ?F ?N ?U ?_; (case F => k_asm); (case N => k_asm); (case U => k_upd)); (intro h' F' N'; (try dsimp only [List.nil_append, List.cons_append] at N'); (try k_sweep))))
local macro_rules | `(tactic| walk_at "setItem ref int") => `(tactic| (k_here; (with_reducible show wpAny _ _ (setItem (Value.ref _) (Value.int 0 _) _) _ _ _); k_dflt (refine' set_first ?F ?N ?U ?_; (case F => k_asm); (case N => k_asm); (case U => k_upd)); (intro h' F' N'; (try dsimp only [List.nil_append, List.cons_append] at N'); (try k_sweep))))
local macro_rules | `(tactic| walk_at "call builtin:list.pop") => `(tactic| (k_here; (with_reducible show wpAny _ _ (call (Value.builtin _) [Value.ref _]) _ _ _); k_dflt (refine' pop_last ?F ?N ?U ?z ?_; (case F => k_asm); (case N => k_asm); (case U => k_upd); (case z => ((try simp only [List.length_append, List.length_cons, List.length_nil]); omega))); (intro h' F' N'; (try dsimp only [List.nil_append, List.cons_append] at N'))))
local macro_rules | `(tactic| walk_at "subscriptTail") => `(tactic| (k_here; (with_reducible show wpAny _ _ (subscriptTail _ _ (Value.ref _) (Value.int (-1) _)) _ _ _); k_dflt (refine' get_last ?N ?m ?_ ?hs; (case N => k_asm); (case m => k_mem); (case hs => with_unfolding_all rfl))))
local macro_rules | `(tactic| k_ne) => `(tactic| (refine neN ?_; (try dsimp only); first | with_reducible assumption | exact Ne.symm (by with_reducible assumption) | exact Nat.ne_of_lt (by with_reducible assumption) | exact Nat.ne_of_gt (by with_reducible assumption) | (refine Dis.ne (by with_reducible assumption) ?_; (repeat (first | (refine Sub2.ab ?_; (repeat (first | exact List.mem_cons_self | refine List.mem_cons_of_mem _ ?_)); done) | (refine Sub2.ba ?_; (repeat (first | exact List.mem_cons_self | refine List.mem_cons_of_mem _ ?_)); done) | refine Sub2.tl ?_)); done) | omega))
section
local macro_rules | `(tactic| walk_at "subscriptTail") => `(tactic| (k_here; (with_reducible show wpAny _ _ (subscriptTail _ _ (Value.ref _) (Value.int _ _)) _ _ _); k_dflt (refine' item_led ?N ?m ?h0 ?hhi ?hx ?_ ?hs; (case N => k_asm); (case m => k_mem); (case h0 => first | decide | omega); (case hhi => first | decide | omega); (case hx => first | assumption | rfl); (case hs => with_unfolding_all rfl))))
local macro_rules | `(tactic| k_mem) => `(tactic| assumption)
section
abbrev keysDict (w : World) (t1 t2 t3 t4 : Tok) (most : Int) (tm : Tok) (KL : Addr) (alt : Bool) (St : Addr) : List DictEntry :=
  [⟨PyData.keyHash w.params (Str.ofString "most"), .str (Str.ofString "most") t1, .int most tm⟩, ⟨PyData.keyHash w.params (Str.ofString "levels"), .str (Str.ofString "levels") t2, .ref KL⟩,
   ⟨PyData.keyHash w.params (Str.ofString "is_alternate"), .str (Str.ofString "is_alternate") t3, .bool alt⟩, ⟨PyData.keyHash w.params (Str.ofString "stacks"), .str (Str.ofString "stacks") t4, .ref St⟩]
def two (alt : Bool) (c o : Addr) : Array Value := if alt then #[.ref o, .ref c] else #[.ref c, .ref o]
structure KeysAt (w : World) (led : List (Addr × Obj)) (x : Addr) (most : Int) (alt : Bool) (C O LV : List Int) (dx KL St c o : Addr) (t1 t2 t3 t4 tm : Tok) (lv vc vo : List Value) (k1 k2 k3 k4 : Nat) : Prop where
  led_eq : led = [(x, instObj 121 dx), (dx, dictOf (keysDict w t1 t2 t3 t4 most tm KL alt St) 4), (KL, W.listOf lv.toArray k1), (St, W.listOf (two alt c o) k2), (c, W.listOf vc.toArray k3), (o, W.listOf vo.toArray k4)]
  dis : Dis [x, dx, KL, St, c, o]
  lv : IntsAre lv LV
  vc : IntsAre vc C
  vo : IntsAre vo O
def KeysRep (w : World) (led : List (Addr × Obj)) (x : Addr) (most : Int) (alt : Bool) (C O LV : List Int) : Prop :=
  ∃ dx KL St c o t1 t2 t3 t4 tm lv vc vo k1 k2 k3 k4, KeysAt w led x most alt C O LV dx KL St c o t1 t2 t3 t4 tm lv vc vo k1 k2 k3 k4
theorem KeysRep.mk {w : World} {led : List (Addr × Obj)} {x : Addr} {most : Int} {alt : Bool} {C O LV : List Int} (dx KL St c o : Addr) (t1 t2 t3 t4 tm : Tok) (lv vc vo : List Value) (k1 k2 k3 k4 : Nat)
   (h : KeysAt w led x most alt C O LV dx KL St c o t1 t2 t3 t4 tm lv vc vo k1 k2 k3 k4) : KeysRep w led x most alt C O LV := ⟨dx, KL, St, c, o, t1, t2, t3, t4, tm, lv, vc, vo, k1, k2, k3, k4, h⟩
theorem stack_spec {w : World} {mean : ExcName → Option Value} {mg mb : Str → Option Value} {dp un : Nat} {gd : Option (List Code)} {cn : Str} {cs : Scope} {a : Addr} {ccd : Value} {cl : List (Str × Addr)} {outer : List Env} {A₀ : Around} {base h₀ : Heap} {L : Addr} {m : Str → Option Value} {s : Shared} {Q E : Value → Shared → Prop}
   {news : List (Addr × Obj)} {x dx St c o : Addr} {alt : Bool} {most : Int} {t1 t2 t3 t4 tm : Tok} {KL : Addr} {k2 : Nat}
   (B : Below A₀ base outer h₀) (F : Fr h₀ L s.heap m) (X : (hd.heap_1 w.params).In h₀) (N : News h₀ L s.heap (news)) (T : Top vw (looseW vw [Str.ofString "KeyLevels"]) mean mg mb h₀) (hk : cs.kind = .function) (hdp : dp ≤ 340) (hun : un ≤ 2000) (h1 : (x, instObj 121 dx) ∈ news) (h2 : (dx, dictOf (keysDict w t1 t2 t3 t4 most tm KL alt St) 4) ∈ news) (h3 : (St, W.listOf (two alt c o) k2) ∈ news)
   (hret : ∀ h' tk', Fr h₀ L h' m → News h₀ L h' news → Q (.ref c) { s with heap := h', toks := tk' }) :
   wpAny (model PySem.Challenge.rw_og0233_01.row.prog w) (ktrTop dp un gd cn cs L a ccd cl outer) (call (.ref 102) [.ref x]) Q E s := by
  cases alt
  all_goals (
    simp only [two, Bool.false_eq_true, if_false, if_true] at h3
    (revert X; k_fill; intro X; refine wpAny_call ?_; k_dflt ktr_enter)
    k_steps
    exact hret _ _ (by assumption) (by assumption))
end
section
def bit (n : Int) (i : Nat) : Bool := (n.fdiv (2 ^ i)).fmod 2 == 1
abbrev bitVs (n : Int) : List Value := [.bool (bit n 0), .bool (bit n 1), .bool (bit n 2), .bool (bit n 3), .bool (bit n 4)]
theorem bits_spec {w : World} {mean : ExcName → Option Value} {mg mb : Str → Option Value} {dp un : Nat} {gd : Option (List Code)} {cn : Str} {cs : Scope} {a : Addr} {ccd : Value} {cl : List (Str × Addr)} {outer : List Env} {A₀ : Around} {base h₀ : Heap} {L : Addr} {m : Str → Option Value} {s : Shared} {Q E : Value → Shared → Prop}
   {news : List (Addr × Obj)} {n : Int} {tk : Tok}
   (B : Below A₀ base outer h₀) (F : Fr h₀ L s.heap m) (X : (hd.heap_1 w.params).In h₀) (N : News h₀ L s.heap (news)) (T : Top vw (looseW vw [Str.ofString "KeyLevels"]) mean mg mb h₀) (hk : cs.kind = .function) (hdp : dp ≤ 340) (hun : un ≤ 2000) (h0 : 0 ≤ n) (h40 : n < 40) 
   (hret : ∀ b h' tk', Fr h₀ L h' m → News h₀ L h' ((b, LCg.lst (bitVs n)) :: news) → (∀ p ∈ news, p.1 ≠ b) → Q (.ref b) { s with heap := h', toks := tk' }) :
   wpAny (model PySem.Challenge.rw_og0233_01.row.prog w) (ktrTop dp un gd cn cs L a ccd cl outer) (call (.ref 178) [.int n tk]) Q E s := by
  (revert X; k_fill; intro X; refine wpAny_call ?_; k_dflt ktr_enter)
  k_steps
  exact hret _ _ _ (by assumption) (News.skip1 (by assumption)) (by rename (_ ∧ LCg.Off1 _ _) => ho; exact off1 ho.2)
end
section
def DeckRep (w : World) (dk : List (Addr × Obj)) (D : Addr) : Prop :=
  ∃ (Lf : Addr) (o : Obj) (ys : List Value) (ks : List Int) (k : Nat) (x : Int) (tx : Tok), dk = [(D, o), (Lf, W.listOf ys.toArray k)] ∧ (@Ne Nat D Lf) ∧
    Obj.IsDictOf (PySem.strKind PySem.Challenge.rw_og0233_01.row.prog w) o [(Str.ofString "left", .ref Lf), (Str.ofString "mixed", .int x tx)] ∧ IntsAre ys ks ∧ ks.length ≤ 48 ∧ (∀ q ∈ ks, 0 ≤ q ∧ q < 1000003) ∧ 0 ≤ x ∧ x < 1000003
theorem draw_spec {w : World} {mean : ExcName → Option Value} {mg mb : Str → Option Value} {dp un : Nat} {gd : Option (List Code)} {cn : Str} {cs : Scope} {a : Addr} {ccd : Value} {cl : List (Str × Addr)} {outer : List Env} {A₀ : Around} {base h₀ : Heap} {L : Addr} {m : Str → Option Value} {s : Shared} {Q E : Value → Shared → Prop}
   {D : Addr} {dk rest : List (Addr × Obj)} {many : Int} {tm : Tok}
   (B : Below A₀ base outer h₀) (F : Fr h₀ L s.heap m) (X : (hd.heap_1 w.params).In h₀) (N : News h₀ L s.heap (dk ++ rest)) (T : Top vw (looseW vw [Str.ofString "KeyLevels"]) mean mg mb h₀) (hk : cs.kind = .function)
   (hdp : dp ≤ 340) (hun : un ≤ 2000)
   (hR : DeckRep w dk D) (hap : Apart dk rest) (hm0 : 0 < many) (hm1 : many ≤ 40)
   (hret : ∀ r t h' tk' dk', Fr h₀ L h' m → News h₀ L h' (dk' ++ rest) → DeckRep w dk' D → dk'.map (·.1) = dk.map (·.1) → 0 ≤ r → r < many → Q (.int r t) { s with heap := h', toks := tk' }) :
   wpAny (model PySem.Challenge.rw_og0233_01.row.prog w) (ktrTop dp un gd cn cs L a ccd cl outer) (call (.ref 173) [.ref D, .int many tm]) Q E s := by
  (revert X; k_fill; intro X)
  obtain ⟨Lf, o, ys, ks, k, x, tx, rfl, hne, hd, hi, hlen, hks, hx0, hx1⟩ := hR
  have hoff : OwnOff rest [D, Lf] := hap.off (by simp)
  clear hap
  simp only [List.cons_append, List.nil_append] at N
  cases hi with
  | nil =>
    refine wpAny_call ?_
    k_dflt ktr_enter
    k_steps
    exact hret _ _ _ _ [(D, _), (Lf, _)] (by assumption) (News.less (by assumption) (fun _ hp => List.mem_cons_of_mem _ hp)) ⟨Lf, _, _, _, _, _, _, by rfl, hne, by assumption, .nil, by simp, by simp, fm0 _ (by decide), fm1 _ (by decide)⟩ (by rfl) (fm0 _ hm0) (fm1 _ hm0)
  | cons q t hi =>
    have hl := hi.length
    simp only [List.length_cons] at hlen
    refine wpAny_call ?_
    k_dflt ktr_enter
    k_steps
    · rename decide _ = true => hx; exact absurd (of_decide_eq_true hx) (by simp)
    · exact hret _ _ _ _ [(D, _), (Lf, _)] (by assumption) (News.less (by assumption) (fun _ hp => List.mem_cons_of_mem _ hp)) ⟨Lf, _, _, _, _, _, _, by rfl, hne, by assumption, by assumption, by omega, fun q hq => hks q (List.mem_cons_of_mem _ hq), hx0, hx1⟩ (by rfl) (fm0 _ hm0) (fm1 _ hm0)
end
section
def psum (f : Int) : Nat → Int
  | 0 => 0
  | i + 1 => psum f i + if bit f i then 2 ^ i else 0
theorem psum_all {f : Int} (h0 : 0 ≤ f) (h1 : f < 32) : psum f 5 = f := by
  obtain ⟨n, rfl⟩ : ∃ n : Nat, f = n := ⟨f.toNat, by omega⟩
  have : ∀ n : Nat, n < 32 → psum n 5 = n := by decide
  exact this n (by omega)
local macro_rules | `(tactic| walk_at "CompSrcT") => `(tactic| (k_here; k_dflt (refine LCt.CompSrcT.range (by rfl) (by k_asm) (by k_asm) (by assumption) (by first | decide | rfl) (by first | rfl | decide) (by first | size_fits | exact Nat.le_of_ble_eq_true rfl) ?_; intro g'; refine Hold.out ?_)))
theorem flags_spec {w : World} {mean : ExcName → Option Value} {mg mb : Str → Option Value} {dp un : Nat} {gd : Option (List Code)} {cn : Str} {cs : Scope} {a : Addr} {ccd : Value} {cl : List (Str × Addr)} {outer : List Env} {A₀ : Around} {base h₀ : Heap} {L : Addr} {m : Str → Option Value} {s : Shared} {Q E : Value → Shared → Prop}
   {news : List (Addr × Obj)} {b : Addr} {f : Int} {kb : Nat}
   (B : Below A₀ base outer h₀) (F : Fr h₀ L s.heap m) (X : (hd.heap_1 w.params).In h₀) (N : News h₀ L s.heap (news)) (T : Top vw (looseW vw [Str.ofString "KeyLevels"]) mean mg mb h₀) (hk : cs.kind = .function) (hdp : dp ≤ 340) (hun : un ≤ 2000) (hb : (b, W.listOf (bitVs f).toArray kb) ∈ news) (h0 : 0 ≤ f) (h1 : f < 32)
   (hret : ∀ t h' tk', Fr h₀ L h' m → News h₀ L h' news → Q (.int f t) { s with heap := h', toks := tk' }) :
   wpAny (model PySem.Challenge.rw_og0233_01.row.prog w) (ktrTop dp un gd cn cs L a ccd cl outer) (call (.ref 183) [.ref b]) Q E s := by
  (revert X; k_fill; intro X; refine wpAny_call ?_; k_dflt ktr_enter)
  k_steps
  refine Hold.mk ?_
  refine compT_acc (n := 5) (fun i ys => ∃ ks, IntsAre ys ks ∧ ks.sum = psum f i) ⟨[], .nil, rfl⟩ ?_ ?_
  · intro i ys v I oI C oC D m₂ h tk E' hi hA hv hC hx F' N' off ne
    obtain ⟨t9, rfl⟩ := hv
    obtain ⟨ks, hy, hs⟩ := hA
    (try simp only [LCg.Off3, and_true] at off)
    obtain rfl | rfl | rfl | rfl | rfl : i = 0 ∨ i = 1 ∨ i = 2 ∨ i = 3 ∨ i = 4 := by omega
    · have hx0 : (bitVs f).toArray[((0 : Int) + ((0 : Nat) : Int)).toNat]? = some (Value.bool (bit f 0)) := rfl
      k_steps
      · exact Hold.mk ⟨rfl, _, IntsAre.append hy (.cons _ _ .nil), by rename bit f 0 = true => hb1; simp only [psum] at hs ⊢; simp only [List.sum_append, List.sum_cons, List.sum_nil, hs, hb1, if_true]; rfl⟩
      · exact Hold.mk ⟨rfl, _, hy, by rename bit f 0 = false => hb1; simp only [psum] at hs ⊢; simp [hs, hb1]⟩
    · have hx0 : (bitVs f).toArray[((0 : Int) + ((1 : Nat) : Int)).toNat]? = some (Value.bool (bit f 1)) := rfl
      k_steps
      · exact Hold.mk ⟨rfl, _, IntsAre.append hy (.cons _ _ .nil), by rename bit f 1 = true => hb1; simp only [psum] at hs ⊢; simp only [List.sum_append, List.sum_cons, List.sum_nil, hs, hb1, if_true]; rfl⟩
      · exact Hold.mk ⟨rfl, _, hy, by rename bit f 1 = false => hb1; simp only [psum] at hs ⊢; simp [hs, hb1]⟩
    · have hx0 : (bitVs f).toArray[((0 : Int) + ((2 : Nat) : Int)).toNat]? = some (Value.bool (bit f 2)) := rfl
      k_steps
      · exact Hold.mk ⟨rfl, _, IntsAre.append hy (.cons _ _ .nil), by rename bit f 2 = true => hb1; simp only [psum] at hs ⊢; simp only [List.sum_append, List.sum_cons, List.sum_nil, hs, hb1, if_true]; rfl⟩
      · exact Hold.mk ⟨rfl, _, hy, by rename bit f 2 = false => hb1; simp only [psum] at hs ⊢; simp [hs, hb1]⟩
    · have hx0 : (bitVs f).toArray[((0 : Int) + ((3 : Nat) : Int)).toNat]? = some (Value.bool (bit f 3)) := rfl
      k_steps
      · exact Hold.mk ⟨rfl, _, IntsAre.append hy (.cons _ _ .nil), by rename bit f 3 = true => hb1; simp only [psum] at hs ⊢; simp only [List.sum_append, List.sum_cons, List.sum_nil, hs, hb1, if_true]; rfl⟩
      · exact Hold.mk ⟨rfl, _, hy, by rename bit f 3 = false => hb1; simp only [psum] at hs ⊢; simp [hs, hb1]⟩
    · have hx0 : (bitVs f).toArray[((0 : Int) + ((4 : Nat) : Int)).toNat]? = some (Value.bool (bit f 4)) := rfl
      k_steps
      · exact Hold.mk ⟨rfl, _, IntsAre.append hy (.cons _ _ .nil), by rename bit f 4 = true => hb1; simp only [psum] at hs ⊢; simp only [List.sum_append, List.sum_cons, List.sum_nil, hs, hb1, if_true]; rfl⟩
      · exact Hold.mk ⟨rfl, _, hy, by rename bit f 4 = false => hb1; simp only [psum] at hs ⊢; simp [hs, hb1]⟩
  · intro ys hA
    obtain ⟨ks, hy, hs⟩ := hA
    rw [psum_all h0 h1] at hs
    k_steps
    rw [hs]
    exact hret _ _ _ (by assumption) (News.tl (News.tl (by assumption)))
end
section
theorem fold_range (l : List Int) : ∀ a : Int, 0 ≤ a → a < 1000003 → 0 ≤ l.foldl (fun a' n' => (a' * 31 + n' + 17).fmod 1000003) a ∧ l.foldl (fun a' n' => (a' * 31 + n' + 17).fmod 1000003) a < 1000003 := by
  induction l with
  | nil => exact fun a h0 h1 => ⟨h0, h1⟩
  | cons n r ih => exact fun a _ _ => ih _ (fm0 _ (by decide)) (fm1 _ (by decide))
theorem deck_end {w : World} {h₀ h' : Heap} {L D Lf tup tmp : Addr} {o ot otmp : Obj} {ys : List Value} {ns : List Int} {k : Nat} {tx : Tok} {news : List (Addr × Obj)}
   (N : News h₀ L h' ((D, o) :: (tup, ot) :: (Lf, W.listOf ys.toArray k) :: (tmp, otmp) :: news))
   (hd : Obj.IsDictOf (PySem.strKind PySem.Challenge.rw_og0233_01.row.prog w) o [(Str.ofString "left", .ref Lf), (Str.ofString "mixed", .int ((List.map (fun k' => k'.fmod 1000003) (List.take 48 ns)).foldl (fun a' n' => (a' * 31 + n' + 17).fmod 1000003) 9007) tx)])
   (hi : IntsAre ys (List.map (fun k' => k'.fmod 1000003) (List.take 48 ns))) (hne : @Ne Nat D Lf) : ∃ dk', News h₀ L h' dk' ∧ DeckRep w dk' D := by
  have hx := fold_range (List.map (fun k' => k'.fmod 1000003) (List.take 48 ns)) 9007 (by decide) (by decide)
  refine ⟨[(D, o), (Lf, W.listOf ys.toArray k)], News.less N (by kcf_all), Lf, o, ys, _, k, _, tx, rfl, hne, hd, hi, ?_, ?_, hx.1, hx.2⟩
  · simp; omega
  · intro q hq
    obtain ⟨z, _, rfl⟩ := List.mem_map.mp hq
    exact ⟨fm0 _ (by decide), fm1 _ (by decide)⟩
theorem deck_spec {w : World} {mean : ExcName → Option Value} {mg mb : Str → Option Value} {dp un : Nat} {gd : Option (List Code)} {cn : Str} {cs : Scope} {a : Addr} {ccd : Value} {cl : List (Str × Addr)} {outer : List Env} {A₀ : Around} {base h₀ : Heap} {L : Addr} {m : Str → Option Value} {s : Shared} {Q E : Value → Shared → Prop}
   {l : Addr} {vs : List Value} {ns : List Int}
   (B : Below A₀ base outer h₀) (F : Fr h₀ L s.heap m) (X : (hd.heap_1 w.params).In h₀) (N : News h₀ L s.heap ([])) (T : Top vw (looseW vw [Str.ofString "KeyLevels"]) mean mg mb h₀) (hk : cs.kind = .function) (hdp : dp ≤ 340) (hun : un ≤ 2000) (hl : base.IsList l vs.toArray) (hi : IntsAre vs ns) (hlen : ns.length ≤ 63)
   (hret : ∀ D h' tk' dk', Fr h₀ L h' m → News h₀ L h' dk' → DeckRep w dk' D → Q (.ref D) { s with heap := h', toks := tk' }) :
   wpAny (model PySem.Challenge.rw_og0233_01.row.prog w) (ktrTop dp un gd cn cs L a ccd cl outer) (call (.ref 166) [.ref l]) Q E s := by
  (revert X; k_fill; intro X)
  refine wpAny_call ?_
  k_dflt ktr_enter
  k_steps
  obtain ⟨dk', hN', hD'⟩ := deck_end (ns := ns) (by assumption) (by assumption) (by assumption) (by omega)
  exact hret _ _ _ dk' (by assumption) hN' hD'
end
section
local macro_rules | `(tactic| walk_at "call ref") => `(tactic| (k_here; (with_reducible show wpAny _ _ (call (Value.ref 102) _) _ _ _); k_dflt (refine' stack_spec ?B ?F ?X ?N ?T ?hk ?hdp ?hun ?h1 ?h2 ?h3 ?_; (case B => k_asm); (case F => k_asm); (case X => k_asm); (case N => k_asm); (case T => k_asm); (case hk => first | exact rfl | assumption); (case hdp => ktr_room); (case hun => ktr_units); (case h1 => k_mem); (case h2 => k_mem); (case h3 => k_mem); intro h' tk' F' N'; (try dsimp only); (try k_sweep))))
local macro_rules | `(tactic| walk_at "exec While") => `(tactic| (k_here; k_dflt (refine whl_start 100 ?_)))
local macro_rules | `(tactic| walk_at "exec While Compare") => `(tactic| (k_here; k_dflt (refine whl_start 100 ?_)))
local macro_rules | `(tactic| walk_at "WhlIf") => `(tactic| (first | (refine WhlIf.yes (decide_eq_true (by omega)) ?_) | (refine WhlIf.no (decide_eq_false (by omega)) ?_)))
local macro_rules | `(tactic| walk_at "RPost") => `(tactic| dsimp only [RPost])
local macro_rules | `(tactic| walk_at "Hold") => `(tactic| fail "held")
section
local macro_rules | `(tactic| walk_at "pyIter ref") => `(tactic| (k_here; refine Hold.out ?_))
section
def pushF (most : Int) (C : List Int) (f : Int) : List Int := if (C.length : Int) < most + 1 then C ++ [f] else match C with
  | a :: _ :: r => a :: (r ++ [f])
  | _ => C
theorem pushF_pos {most f : Int} {C : List Int} (h : (C.length : Int) < most + 1) : pushF most C f = C ++ [f] := by unfold pushF; exact if_pos h
theorem pushF_neg {most f a b : Int} {r : List Int} (h : ¬ ((a :: b :: r).length : Int) < most + 1) : pushF most (a :: b :: r) f = a :: (r ++ [f]) := by unfold pushF; exact if_neg h
theorem push_spec {w : World} {mean : ExcName → Option Value} {mg mb : Str → Option Value} {dp un : Nat} {gd : Option (List Code)} {cn : Str} {cs : Scope} {a : Addr} {ccd : Value} {cl : List (Str × Addr)} {outer : List Env} {A₀ : Around} {base h₀ : Heap} {L : Addr} {m : Str → Option Value} {s : Shared} {Q E : Value → Shared → Prop}
   {kl rest : List (Addr × Obj)} {x : Addr} {most n : Int} {alt : Bool} {C O LV : List Int} {tn : Tok}
   (B : Below A₀ base outer h₀) (F : Fr h₀ L s.heap m) (X : (hd.heap_1 w.params).In h₀) (N : News h₀ L s.heap (kl ++ rest)) (T : Top vw (looseW vw [Str.ofString "KeyLevels"]) mean mg mb h₀) (hk : cs.kind = .function) (hdp : dp ≤ 330) (hun : un ≤ 1000) (hK : KeysRep w kl x most alt C O LV) (hap : Apart kl rest) (hm0 : 1 ≤ most) (hm1 : most ≤ 3) (hc0 : 1 ≤ C.length) (hc1 : (C.length : Int) ≤ most + 1) (hn0 : 0 ≤ n) (hn1 : n < 40)
   (hret : ∀ h' tk' kl', Fr h₀ L h' m → News h₀ L h' (kl' ++ rest) → KeysRep w kl' x most alt (pushF most C (Builtin.bitAnd n 31)) O LV → kl'.map (·.1) = kl.map (·.1) → Q .none { s with heap := h', toks := tk' }) :
   wpAny (model PySem.Challenge.rw_og0233_01.row.prog w) (ktrTop dp un gd cn cs L a ccd cl outer) (call (.ref 139) [.ref x, .int n tn]) Q E s := by
  (revert X; k_fill; intro X)
  obtain ⟨dx, KL, St, c, o, t1, t2, t3, t4, tm, lv, vc, vo, k1, k2, k3, k4, K⟩ := hK
  obtain ⟨rfl, dis, hlv, hvc, hvo⟩ := K
  have hoff : OwnOff rest [x, dx, KL, St, c, o] := hap.off (by simp)
  clear hap
  simp only [List.cons_append, List.nil_append] at N
  have hlc := hvc.length
  by_cases hf : (C.length : Int) < most + 1
  · refine wpAny_call ?_
    k_dflt ktr_enter
    k_steps
    exact hret _ _ [(x, _), (dx, _), (KL, _), (St, _), (c, _), (o, _)] (by assumption) (by assumption) (KeysRep.mk dx KL St c o t1 t2 t3 t4 tm lv _ vo k1 k2 _ k4 ⟨by rfl, dis, hlv, by rw [pushF_pos hf]; exact IntsAre.append hvc (.cons _ _ .nil), hvo⟩) (by rfl)
  · cases hvc with
    | nil => simp at hc0
    | cons f0 u0 hv1 => cases hv1 with
      | nil => simp at hf; omega
      | cons f1 u1 hv2 =>
        have hl2 := hv2.length
        simp only [List.length_cons] at hlc hc1 hf
        refine wpAny_call ?_
        k_dflt ktr_enter
        k_steps
        exact hret _ _ [(x, _), (dx, _), (KL, _), (St, _), (c, _), (o, _)] (by assumption) (by assumption) (KeysRep.mk dx KL St c o t1 t2 t3 t4 tm lv _ vo k1 k2 _ k4 ⟨by rfl, dis, hlv, by rw [pushF_neg (by simp only [List.length_cons]; omega)]; exact .cons _ _ (IntsAre.append hv2 (.cons _ _ .nil)), hvo⟩) (by rfl)
end
section
def setF (how f n : Int) : Int := if how = 1 then Builtin.bitAnd n 31 else if how = 2 then Builtin.bitOr f (Builtin.bitAnd n 31) else if how = 3 then Builtin.bitAnd f (31 - Builtin.bitAnd n 31) else f
theorem setf_spec {w : World} {mean : ExcName → Option Value} {mg mb : Str → Option Value} {dp un : Nat} {gd : Option (List Code)} {cn : Str} {cs : Scope} {a : Addr} {ccd : Value} {cl : List (Str × Addr)} {outer : List Env} {A₀ : Around} {base h₀ : Heap} {L : Addr} {m : Str → Option Value} {s : Shared} {Q E : Value → Shared → Prop}
   {kl rest : List (Addr × Obj)} {x : Addr} {most n how f : Int} {alt : Bool} {P O LV : List Int} {tn th : Tok}
   (B : Below A₀ base outer h₀) (F : Fr h₀ L s.heap m) (X : (hd.heap_1 w.params).In h₀) (N : News h₀ L s.heap (kl ++ rest)) (T : Top vw (looseW vw [Str.ofString "KeyLevels"]) mean mg mb h₀) (hk : cs.kind = .function) (hdp : dp ≤ 330) (hun : un ≤ 1000) (hK : KeysRep w kl x most alt (P ++ [f]) O LV) (hap : Apart kl rest) (hP : P.length ≤ 10) (hf0 : 0 ≤ f) (hf1 : f < 32) (hn0 : 0 ≤ n) (hn1 : n < 40) (hh0 : 0 ≤ how) (hh1 : how < 6)
   (hret : ∀ h' tk' kl', Fr h₀ L h' m → News h₀ L h' (kl' ++ rest) → KeysRep w kl' x most alt (P ++ [setF how f n]) O LV → kl'.map (·.1) = kl.map (·.1) → Q .none { s with heap := h', toks := tk' }) :
   wpAny (model PySem.Challenge.rw_og0233_01.row.prog w) (ktrTop dp un gd cn cs L a ccd cl outer) (call (.ref 153) [.ref x, .int n tn, .int how th]) Q E s := by
  (revert X; k_fill; intro X)
  obtain ⟨dx, KL, St, c, o, t1, t2, t3, t4, tm, lv, vc, vo, k1, k2, k3, k4, K⟩ := hK
  obtain ⟨rfl, dis, hlv, hvc, hvo⟩ := K
  have hoff : OwnOff rest [x, dx, KL, St, c, o] := hap.off (by simp)
  clear hap
  simp only [List.cons_append, List.nil_append] at N
  obtain ⟨vp, tf, rfl, hvp⟩ := ints_snoc hvc
  have hlc := hvp.length
  refine wpAny_call ?_
  k_dflt ktr_enter
  k_steps
  all_goals exact hret _ _ [(x, _), (dx, _), (KL, _), (St, _), (c, _), (o, _)] (by assumption) (News.tl (by assumption)) (KeysRep.mk dx KL St c o t1 t2 t3 t4 tm lv _ vo k1 k2 _ k4 ⟨by rfl, dis, hlv, ints_snoc' hvp (by unfold setF; simp_all), hvo⟩) (by rfl)
end
section
theorem bit_orF : ∀ f : Fin 32, ∀ n : Fin 40, ∀ i : Fin 5, bit (Builtin.bitOr (f.1 : Int) (Builtin.bitAnd (n.1 : Int) 31)) i.1 = (bit f.1 i.1 || bit n.1 i.1) := by decide +kernel
theorem bit_andF : ∀ n : Fin 40, ∀ i : Fin 5, bit (Builtin.bitAnd (n.1 : Int) 31) i.1 = bit n.1 i.1 := by decide +kernel
theorem bit_andnF : ∀ f : Fin 32, ∀ n : Fin 40, ∀ i : Fin 5, bit (Builtin.bitAnd (f.1 : Int) (31 - Builtin.bitAnd (n.1 : Int) 31)) i.1 = (bit f.1 i.1 && !bit n.1 i.1) := by decide +kernel
theorem bit_or {f n : Int} (h0 : 0 ≤ f) (h1 : f < 32) (h2 : 0 ≤ n) (h3 : n < 40) {i : Nat} (hi : i < 5) : bit (Builtin.bitOr f (Builtin.bitAnd n 31)) i = (bit f i || bit n i) := by
  have := bit_orF ⟨f.toNat, by omega⟩ ⟨n.toNat, by omega⟩ ⟨i, hi⟩
  simpa only [Int.toNat_of_nonneg h0, Int.toNat_of_nonneg h2] using this
theorem bit_and {n : Int} (h2 : 0 ≤ n) (h3 : n < 40) {i : Nat} (hi : i < 5) : bit (Builtin.bitAnd n 31) i = bit n i := by
  have := bit_andF ⟨n.toNat, by omega⟩ ⟨i, hi⟩
  simpa only [Int.toNat_of_nonneg h2] using this
theorem bit_andn {f n : Int} (h0 : 0 ≤ f) (h1 : f < 32) (h2 : 0 ≤ n) (h3 : n < 40) {i : Nat} (hi : i < 5) : bit (Builtin.bitAnd f (31 - Builtin.bitAnd n 31)) i = (bit f i && !bit n i) := by
  have := bit_andnF ⟨f.toNat, by omega⟩ ⟨n.toNat, by omega⟩ ⟨i, hi⟩
  simpa only [Int.toNat_of_nonneg h0, Int.toNat_of_nonneg h2] using this
local macro_rules | `(tactic| walk_at "CompSrc") => `(tactic| (k_here; k_dflt (refine LCg.CompSrc.range (by rfl) (by k_asm) (by k_asm) (by assumption) (by first | decide | rfl) (by first | rfl | decide) (by first | size_fits | exact Nat.le_of_ble_eq_true rfl) ?_; intro g'; (try dsimp only); refine Hold.out ?_)))
theorem bitVs_and {n : Int} (h2 : 0 ≤ n) (h3 : n < 40) : bitVs (Builtin.bitAnd n 31) = bitVs n := by
  simp only [bitVs, bit_and h2 h3 (show 0 < 5 by decide), bit_and h2 h3 (show 1 < 5 by decide), bit_and h2 h3 (show 2 < 5 by decide), bit_and h2 h3 (show 3 < 5 by decide), bit_and h2 h3 (show 4 < 5 by decide)]
theorem bitVs_or {f n : Int} (h0 : 0 ≤ f) (h1 : f < 32) (h2 : 0 ≤ n) (h3 : n < 40) : (List.range 5).map (fun j => Value.bool (bit f j || bit n j)) = bitVs (Builtin.bitOr f (Builtin.bitAnd n 31)) := by
  simp only [bitVs, bit_or h0 h1 h2 h3 (show 0 < 5 by decide), bit_or h0 h1 h2 h3 (show 1 < 5 by decide), bit_or h0 h1 h2 h3 (show 2 < 5 by decide), bit_or h0 h1 h2 h3 (show 3 < 5 by decide), bit_or h0 h1 h2 h3 (show 4 < 5 by decide)]
  rfl
theorem bitVs_andn {f n : Int} (h0 : 0 ≤ f) (h1 : f < 32) (h2 : 0 ≤ n) (h3 : n < 40) : (List.range 5).map (fun j => Value.bool (bit f j && !bit n j)) = bitVs (Builtin.bitAnd f (31 - Builtin.bitAnd n 31)) := by
  simp only [bitVs, bit_andn h0 h1 h2 h3 (show 0 < 5 by decide), bit_andn h0 h1 h2 h3 (show 1 < 5 by decide), bit_andn h0 h1 h2 h3 (show 2 < 5 by decide), bit_andn h0 h1 h2 h3 (show 3 < 5 by decide), bit_andn h0 h1 h2 h3 (show 4 < 5 by decide)]
  rfl
theorem setF1 {how f n : Int} (h : how = 1) : setF how f n = Builtin.bitAnd n 31 := by unfold setF; rw [if_pos h]
theorem setF2 {how f n : Int} (h : how = 2) : setF how f n = Builtin.bitOr f (Builtin.bitAnd n 31) := by unfold setF; rw [if_neg (by omega), if_pos h]
theorem setF3 {how f n : Int} (h : how = 3) : setF how f n = Builtin.bitAnd f (31 - Builtin.bitAnd n 31) := by unfold setF; rw [if_neg (by omega), if_neg (by omega), if_pos h]
theorem setF0 {how f n : Int} (h1 : how ≠ 1) (h2 : how ≠ 2) (h3 : how ≠ 3) : setF how f n = f := by unfold setF; rw [if_neg h1, if_neg h2, if_neg h3]
theorem one_apart {D : Addr} {o : Obj} {news : List (Addr × Obj)} (h : ∀ p ∈ news, p.1 ≠ D) : ∀ p ∈ [(D, o)], ∀ q ∈ news, q.1 ≠ p.1 := fun p hp q hq => by
  rw [List.mem_singleton.mp hp]; exact h q hq
theorem changed_spec {w : World} {mean : ExcName → Option Value} {mg mb : Str → Option Value} {dp un : Nat} {gd : Option (List Code)} {cn : Str} {cs : Scope} {a : Addr} {ccd : Value} {cl : List (Str × Addr)} {outer : List Env} {A₀ : Around} {base h₀ : Heap} {L : Addr} {m : Str → Option Value} {s : Shared} {Q E : Value → Shared → Prop}
   {news : List (Addr × Obj)} {b q : Addr} {f n how : Int} {kb kq : Nat} {th : Tok}
   (B : Below A₀ base outer h₀) (F : Fr h₀ L s.heap m) (X : (hd.heap_1 w.params).In h₀) (N : News h₀ L s.heap (news)) (T : Top vw (looseW vw [Str.ofString "KeyLevels"]) mean mg mb h₀) (hk : cs.kind = .function) (hdp : dp ≤ 340) (hun : un ≤ 2000) (hb : (b, W.listOf (bitVs f).toArray kb) ∈ news) (hq : (q, W.listOf (bitVs n).toArray kq) ∈ news) (h0 : 0 ≤ f) (h1 : f < 32) (h2 : 0 ≤ n) (h3 : n < 40) (h4 : 0 ≤ how) (h5 : how < 6)
   (hret : ∀ r kr h' tk' nx, Fr h₀ L h' m → News h₀ L h' (nx ++ news) → (∀ p ∈ nx, ∀ q ∈ news, q.1 ≠ p.1) → (r, W.listOf (bitVs (setF how f n)).toArray kr) ∈ nx ∨ (r, W.listOf (bitVs (setF how f n)).toArray kr) = (b, W.listOf (bitVs f).toArray kb) → Q (.ref r) { s with heap := h', toks := tk' }) :
   wpAny (model PySem.Challenge.rw_og0233_01.row.prog w) (ktrTop dp un gd cn cs L a ccd cl outer) (call (.ref 188) [.ref b, .ref q, .int how th]) Q E s := by
  (revert X; k_fill; intro X; refine wpAny_call ?_; k_dflt ktr_enter)
  k_steps
  · exact hret _ _ _ _ [(_, _)] (by assumption) (News.skip1 (News.skip1 (by assumption))) (one_apart (by rename (_ ∧ _ ∧ AllLt _ _) => ho; exact AllLt.ne ho.2.2)) (.inl (by rw [setF1 (by assumption), bitVs_and h2 h3]; exact List.mem_cons_self))
  · refine Hold.mk ?_
    refine comp_acc (n := 5) (fun i ys => ys = (List.range i).map (fun j => Value.bool (bit f j || bit n j))) rfl ?_ ?_
    · intro i ys v I oI C oC D m₂ h tk E' hi hA hv hC hx F' N' off ne
      obtain ⟨t9, rfl⟩ := hv
      (try simp only [LCg.Off3, and_true] at off)
      obtain rfl | rfl | rfl | rfl | rfl : i = 0 ∨ i = 1 ∨ i = 2 ∨ i = 3 ∨ i = 4 := by omega
      · have hx0 : (bitVs f).toArray[((0 : Int) + ((0 : Nat) : Int)).toNat]? = some (Value.bool (bit f 0)) := rfl
        have hx1 : (bitVs n).toArray[((0 : Int) + ((0 : Nat) : Int)).toNat]? = some (Value.bool (bit n 0)) := rfl
        k_steps
        all_goals exact Hold.mk ⟨rfl, by rw [hA]; simp_all [List.range_succ]⟩
      · have hx0 : (bitVs f).toArray[((0 : Int) + ((1 : Nat) : Int)).toNat]? = some (Value.bool (bit f 1)) := rfl
        have hx1 : (bitVs n).toArray[((0 : Int) + ((1 : Nat) : Int)).toNat]? = some (Value.bool (bit n 1)) := rfl
        k_steps
        all_goals exact Hold.mk ⟨rfl, by rw [hA]; simp_all [List.range_succ]⟩
      · have hx0 : (bitVs f).toArray[((0 : Int) + ((2 : Nat) : Int)).toNat]? = some (Value.bool (bit f 2)) := rfl
        have hx1 : (bitVs n).toArray[((0 : Int) + ((2 : Nat) : Int)).toNat]? = some (Value.bool (bit n 2)) := rfl
        k_steps
        all_goals exact Hold.mk ⟨rfl, by rw [hA]; simp_all [List.range_succ]⟩
      · have hx0 : (bitVs f).toArray[((0 : Int) + ((3 : Nat) : Int)).toNat]? = some (Value.bool (bit f 3)) := rfl
        have hx1 : (bitVs n).toArray[((0 : Int) + ((3 : Nat) : Int)).toNat]? = some (Value.bool (bit n 3)) := rfl
        k_steps
        all_goals exact Hold.mk ⟨rfl, by rw [hA]; simp_all [List.range_succ]⟩
      · have hx0 : (bitVs f).toArray[((0 : Int) + ((4 : Nat) : Int)).toNat]? = some (Value.bool (bit f 4)) := rfl
        have hx1 : (bitVs n).toArray[((0 : Int) + ((4 : Nat) : Int)).toNat]? = some (Value.bool (bit n 4)) := rfl
        k_steps
        all_goals exact Hold.mk ⟨rfl, by rw [hA]; simp_all [List.range_succ]⟩
    · intro ys hA
      rw [bitVs_or h0 h1 h2 h3] at hA
      subst hA
      k_steps
      exact hret _ _ _ _ [(_, _)] (by assumption) (News.skip1 (News.skip1 (by assumption))) (one_apart (by rename (_ ∧ _ ∧ LCg.Off1 _ _) => ho; exact off1 ho.2.2)) (.inl (by rw [setF2 (by assumption)]; exact List.mem_cons_self))
  · refine Hold.mk ?_
    refine comp_acc (n := 5) (fun i ys => ys = (List.range i).map (fun j => Value.bool (bit f j && !bit n j))) rfl ?_ ?_
    · intro i ys v I oI C oC D m₂ h tk E' hi hA hv hC hx F' N' off ne
      obtain ⟨t9, rfl⟩ := hv
      (try simp only [LCg.Off3, and_true] at off)
      obtain rfl | rfl | rfl | rfl | rfl : i = 0 ∨ i = 1 ∨ i = 2 ∨ i = 3 ∨ i = 4 := by omega
      · have hx0 : (bitVs f).toArray[((0 : Int) + ((0 : Nat) : Int)).toNat]? = some (Value.bool (bit f 0)) := rfl
        have hx1 : (bitVs n).toArray[((0 : Int) + ((0 : Nat) : Int)).toNat]? = some (Value.bool (bit n 0)) := rfl
        k_steps
        all_goals exact Hold.mk ⟨rfl, by rw [hA]; simp_all [List.range_succ]⟩
      · have hx0 : (bitVs f).toArray[((0 : Int) + ((1 : Nat) : Int)).toNat]? = some (Value.bool (bit f 1)) := rfl
        have hx1 : (bitVs n).toArray[((0 : Int) + ((1 : Nat) : Int)).toNat]? = some (Value.bool (bit n 1)) := rfl
        k_steps
        all_goals exact Hold.mk ⟨rfl, by rw [hA]; simp_all [List.range_succ]⟩
      · have hx0 : (bitVs f).toArray[((0 : Int) + ((2 : Nat) : Int)).toNat]? = some (Value.bool (bit f 2)) := rfl
        have hx1 : (bitVs n).toArray[((0 : Int) + ((2 : Nat) : Int)).toNat]? = some (Value.bool (bit n 2)) := rfl
        k_steps
        all_goals exact Hold.mk ⟨rfl, by rw [hA]; simp_all [List.range_succ]⟩
      · have hx0 : (bitVs f).toArray[((0 : Int) + ((3 : Nat) : Int)).toNat]? = some (Value.bool (bit f 3)) := rfl
        have hx1 : (bitVs n).toArray[((0 : Int) + ((3 : Nat) : Int)).toNat]? = some (Value.bool (bit n 3)) := rfl
        k_steps
        all_goals exact Hold.mk ⟨rfl, by rw [hA]; simp_all [List.range_succ]⟩
      · have hx0 : (bitVs f).toArray[((0 : Int) + ((4 : Nat) : Int)).toNat]? = some (Value.bool (bit f 4)) := rfl
        have hx1 : (bitVs n).toArray[((0 : Int) + ((4 : Nat) : Int)).toNat]? = some (Value.bool (bit n 4)) := rfl
        k_steps
        all_goals exact Hold.mk ⟨rfl, by rw [hA]; simp_all [List.range_succ]⟩
    · intro ys hA
      rw [bitVs_andn h0 h1 h2 h3] at hA
      subst hA
      k_steps
      exact hret _ _ _ _ [(_, _)] (by assumption) (News.skip1 (News.skip1 (by assumption))) (one_apart (by rename (_ ∧ _ ∧ LCg.Off1 _ _) => ho; exact off1 ho.2.2)) (.inl (by rw [setF3 (by assumption)]; exact List.mem_cons_self))
  · exact hret _ _ _ _ [] (by assumption) (News.tl (News.tl (by assumption))) (fun _ hp => nomatch hp) (.inr (by rw [setF0 (by assumption) (by assumption) (by assumption)]))
end
section
def clampI (l : Int) : Int := if l < 0 then 0 else if 3 < l then 3 else l
def setL (LV : List Int) (r l : Int) : List Int := if 0 ≤ r ∧ r < 8 then LV.set r.toNat (clampI l) else LV
theorem setL_ints {vs : List Value} {LV : List Int} {r l v : Int} (h : IntsAre vs (LV.set r.toNat v)) (h0 : 0 ≤ r) (h1 : r < 8) (hv : v = clampI l) : IntsAre vs (setL LV r l) := by
  unfold setL; rw [if_pos ⟨h0, h1⟩, ← hv]; exact h
theorem setL_out {LV : List Int} {r l : Int} (h : ¬ (0 ≤ r ∧ r < 8)) : setL LV r l = LV := if_neg h
theorem setl_spec {w : World} {mean : ExcName → Option Value} {mg mb : Str → Option Value} {dp un : Nat} {gd : Option (List Code)} {cn : Str} {cs : Scope} {a : Addr} {ccd : Value} {cl : List (Str × Addr)} {outer : List Env} {A₀ : Around} {base h₀ : Heap} {L : Addr} {m : Str → Option Value} {s : Shared} {Q E : Value → Shared → Prop}
   {kl rest : List (Addr × Obj)} {x : Addr} {most r l : Int} {alt : Bool} {C O LV : List Int} {tr tl : Tok}
   (B : Below A₀ base outer h₀) (F : Fr h₀ L s.heap m) (X : (hd.heap_1 w.params).In h₀) (N : News h₀ L s.heap (kl ++ rest)) (T : Top vw (looseW vw [Str.ofString "KeyLevels"]) mean mg mb h₀) (hk : cs.kind = .function) (hdp : dp ≤ 330) (hun : un ≤ 1000) (hK : KeysRep w kl x most alt C O LV) (hap : Apart kl rest) (hL : LV.length = 8) (hr0 : -2 ≤ r) (hr1 : r < 10) (hl0 : -2 ≤ l) (hl1 : l < 6)
   (hret : ∀ h' tk' kl', Fr h₀ L h' m → News h₀ L h' (kl' ++ rest) → KeysRep w kl' x most alt C O (setL LV r l) → kl'.map (·.1) = kl.map (·.1) → Q .none { s with heap := h', toks := tk' }) :
   wpAny (model PySem.Challenge.rw_og0233_01.row.prog w) (ktrTop dp un gd cn cs L a ccd cl outer) (call (.ref 132) [.ref x, .int r tr, .int l tl]) Q E s := by
  (revert X; k_fill; intro X)
  obtain ⟨dx, KL, St, c, o, t1, t2, t3, t4, tm, lv, vc, vo, k1, k2, k3, k4, K⟩ := hK
  obtain ⟨rfl, dis, hlv, hvc, hvo⟩ := K
  have hoff : OwnOff rest [x, dx, KL, St, c, o] := hap.off (by simp)
  clear hap
  simp only [List.cons_append, List.nil_append] at N
  refine wpAny_call ?_
  k_dflt ktr_enter
  k_steps
  · exact hret _ _ [(x, _), (dx, _), (KL, _), (St, _), (c, _), (o, _)] (by assumption) (by assumption) (KeysRep.mk dx KL St c o t1 t2 t3 t4 tm _ vc vo k1 k2 k3 k4 ⟨by rfl, dis, setL_ints (by assumption) (by assumption) (by assumption) (by unfold clampI; repeat' split <;> omega), hvc, hvo⟩) (by rfl)
  all_goals exact hret _ _ [(x, _), (dx, _), (KL, _), (St, _), (c, _), (o, _)] (by assumption) (by assumption) (KeysRep.mk dx KL St c o t1 t2 t3 t4 tm _ vc vo k1 k2 k3 k4 ⟨by rfl, dis, by rw [setL_out (by omega)]; exact hlv, hvc, hvo⟩) (by rfl)
end
section
theorem ap_cons {a : Addr} {o : Obj} {l rest : List (Addr × Obj)} (h : ∀ p ∈ rest, p.1 ≠ a) (k : Apart l rest) : Apart ((a, o) :: l) rest := fun p hp q hq => by
  rcases List.mem_cons.mp hp with rfl | hp
  · exact fun e => h q hq e.symm
  · exact k p hp q hq
theorem ap_nil {rest : List (Addr × Obj)} : Apart [] rest := fun _ hp => nomatch hp
theorem reset_end {w : World} {h₀ h' : Heap} {L x dx KL St c o tmp KL' s0 s1 St' : Addr} {most : Int} {alt : Bool} {t1 t2 t3 t4 tm u0 u1 : Tok} {lv' : List Value} {LV' : List Int} {oKL oSt oc oo ot : Obj} {rest : List (Addr × Obj)}
   (N : News h₀ L h' ((St', W.listOf #[.ref s0, .ref s1] 0) :: (s1, W.listOf #[.int 0 u1] 0) :: (s0, W.listOf #[.int 0 u0] 0) :: (KL', W.listOf lv'.toArray 0) :: (tmp, ot) :: (x, instObj 121 dx) :: (dx, dictOf (keysDict w t1 t2 t3 t4 most tm KL' alt St') 4) :: (KL, oKL) :: (St, oSt) :: (c, oc) :: (o, oo) :: rest))
   (i : IntsAre lv' LV')
   (d1 : x < tmp ∧ dx < tmp ∧ KL < tmp ∧ St < tmp ∧ c < tmp ∧ o < tmp ∧ AllLt tmp rest)
   (d2 : tmp < KL' ∧ x < KL' ∧ dx < KL' ∧ KL < KL' ∧ St < KL' ∧ c < KL' ∧ o < KL' ∧ AllLt KL' rest)
   (d3 : KL' < s0 ∧ tmp < s0 ∧ x < s0 ∧ dx < s0 ∧ KL < s0 ∧ St < s0 ∧ c < s0 ∧ o < s0 ∧ AllLt s0 rest)
   (d4 : s0 < s1 ∧ KL' < s1 ∧ tmp < s1 ∧ x < s1 ∧ dx < s1 ∧ KL < s1 ∧ St < s1 ∧ c < s1 ∧ o < s1 ∧ AllLt s1 rest)
   (d5 : s1 < St' ∧ s0 < St' ∧ KL' < St' ∧ tmp < St' ∧ x < St' ∧ dx < St' ∧ KL < St' ∧ St < St' ∧ c < St' ∧ o < St' ∧ AllLt St' rest)
   (hne : @Ne Nat x dx) (hoff : OwnOff rest [x, dx, KL, St, c, o]) :
   ∃ kl', News h₀ L h' (kl' ++ rest) ∧ KeysRep w kl' x most alt [0] [0] LV' ∧ Apart kl' rest := by
  have ax : ∀ p ∈ rest, p.1 ≠ x := OwnOff.ne hoff (by simp)
  have adx : ∀ p ∈ rest, p.1 ≠ dx := OwnOff.ne hoff (by simp)
  have aKL := AllLt.ne d2.2.2.2.2.2.2.2
  have as0 := AllLt.ne d3.2.2.2.2.2.2.2.2
  have as1 := AllLt.ne d4.2.2.2.2.2.2.2.2.2
  have aSt := AllLt.ne d5.2.2.2.2.2.2.2.2.2.2
  have e1 : @LT.lt Nat _ x KL' := d2.2.1
  have e2 : @LT.lt Nat _ dx KL' := d2.2.2.1
  have e3 : @LT.lt Nat _ KL' s0 := d3.1
  have e4 : @LT.lt Nat _ s0 s1 := d4.1
  have e5 : @LT.lt Nat _ s1 St' := d5.1
  obtain ⟨_, _, _, _, _, _, _, _⟩ := d2
  obtain ⟨_, _, _, _, _, _, _, _, _⟩ := d3
  obtain ⟨_, _, _, _, _, _, _, _, _, _⟩ := d4
  obtain ⟨_, _, _, _, _, _, _, _, _, _, _⟩ := d5
  clear d1
  cases alt with
  | false =>
    refine ⟨[(x, _), (dx, _), (KL', _), (St', _), (s0, _), (s1, _)], News.less N ?_, ⟨dx, KL', St', s0, s1, t1, t2, t3, t4, tm, lv', [.int 0 u0], [.int 0 u1], 0, 0, 0, 0, ⟨rfl, ?_, i, .cons _ _ .nil, .cons _ _ .nil⟩⟩, ap_cons ax (ap_cons adx (ap_cons aKL (ap_cons aSt (ap_cons as0 (ap_cons as1 ap_nil)))))⟩
    · simp only [two, if_false, Bool.false_eq_true, List.cons_append, List.nil_append]; kcf_all
    · repeat' (first | exact True.intro | refine And.intro ?_ ?_ | k_ne)
  | true =>
    refine ⟨[(x, _), (dx, _), (KL', _), (St', _), (s1, _), (s0, _)], News.less N ?_, ⟨dx, KL', St', s1, s0, t1, t2, t3, t4, tm, lv', [.int 0 u1], [.int 0 u0], 0, 0, 0, 0, ⟨rfl, ?_, i, .cons _ _ .nil, .cons _ _ .nil⟩⟩, ap_cons ax (ap_cons adx (ap_cons aKL (ap_cons aSt (ap_cons as1 (ap_cons as0 ap_nil)))))⟩
    · simp only [two, if_true, List.cons_append, List.nil_append]; kcf_all
    · repeat' (first | exact True.intro | refine And.intro ?_ ?_ | k_ne)
theorem reset_spec {w : World} {mean : ExcName → Option Value} {mg mb : Str → Option Value} {dp un : Nat} {gd : Option (List Code)} {cn : Str} {cs : Scope} {a : Addr} {ccd : Value} {cl : List (Str × Addr)} {outer : List Env} {A₀ : Around} {base h₀ : Heap} {L : Addr} {m : Str → Option Value} {s : Shared} {Q E : Value → Shared → Prop}
   {kl rest : List (Addr × Obj)} {x : Addr} {most : Int} {alt : Bool} {C O LV : List Int}
   (B : Below A₀ base outer h₀) (F : Fr h₀ L s.heap m) (X : (hd.heap_1 w.params).In h₀) (N : News h₀ L s.heap (kl ++ rest)) (T : Top vw (looseW vw [Str.ofString "KeyLevels"]) mean mg mb h₀) (hk : cs.kind = .function) (hdp : dp ≤ 330) (hun : un ≤ 1000) (hK : KeysRep w kl x most alt C O LV) (hap : Apart kl rest)
   (hret : ∀ h' tk' kl', Fr h₀ L h' m → News h₀ L h' (kl' ++ rest) → KeysRep w kl' x most alt [0] [0] [0, 0, 0, 0, 0, 0, 0, 0] → Apart kl' rest → Q .none { s with heap := h', toks := tk' }) :
   wpAny (model PySem.Challenge.rw_og0233_01.row.prog w) (ktrTop dp un gd cn cs L a ccd cl outer) (call (.ref 160) [.ref x]) Q E s := by
  (revert X; k_fill; intro X)
  obtain ⟨dx, KL, St, c, o, t1, t2, t3, t4, tm, lv, vc, vo, k1, k2, k3, k4, K⟩ := hK
  obtain ⟨rfl, dis, hlv, hvc, hvo⟩ := K
  have hoff : OwnOff rest [x, dx, KL, St, c, o] := hap.off (by simp)
  clear hap
  simp only [List.cons_append, List.nil_append] at N
  refine wpAny_call ?_
  k_dflt ktr_enter
  k_steps
  obtain ⟨kl', hN', hK', hA'⟩ := reset_end (by assumption) (by assumption) (by assumption) (by assumption) (by assumption) (by assumption) (by assumption) (by k_ne) hoff
  exact hret _ _ kl' (by assumption) hN' hK' hA'
end
section
def pop1F (S : List Int) : List Int := if 1 < S.length then S.dropLast else [0]
def popN : Nat → List Int → List Int
  | 0, S => S
  | n + 1, S => pop1F (popN n S)
theorem popN_len {C : List Int} (h0 : 1 ≤ C.length) (h1 : C.length ≤ 10) : ∀ i, 1 ≤ (popN i C).length ∧ (popN i C).length ≤ 10
  | 0 => ⟨h0, h1⟩
  | i + 1 => by
    have := popN_len h0 h1 i
    show 1 ≤ (pop1F (popN i C)).length ∧ (pop1F (popN i C)).length ≤ 10
    unfold pop1F
    split
    · rw [List.length_dropLast]; omega
    · simp
theorem snoc_of {S : List Int} (h : 1 ≤ S.length) : ∃ P f, S = P ++ [f] := by
  cases S with
  | nil => simp at h
  | cons a l => exact ⟨_, _, (List.dropLast_concat_getLast (by simp)).symm⟩
theorem popN_more {C P : List Int} {f : Int} {i : Nat} (e : popN i C = P ++ [f]) (h : 1 ≤ P.length) : popN (i + 1) C = P := by
  show pop1F (popN i C) = P
  rw [e]; unfold pop1F; rw [if_pos (by simp; omega)]; simp
theorem popN_one {C : List Int} {f : Int} {i : Nat} (e : popN i C = [f]) : popN (i + 1) C = [0] := by
  show pop1F (popN i C) = [0]
  rw [e]; unfold pop1F; rw [if_neg (by simp)]
theorem popN_zero {C : List Int} (h : popN i C = [0]) : ∀ j, popN (i + j) C = [0]
  | 0 => h
  | j + 1 => by
    show pop1F (popN (i + j) C) = [0]
    rw [popN_zero h j]; rfl
theorem popN_sub {C : List Int} : ∀ i, i < C.length → (popN i C).length = C.length - i
  | 0, _ => rfl
  | i + 1, h => by
    have := popN_sub (C := C) i (by omega)
    show (pop1F (popN i C)).length = _
    unfold pop1F
    rw [if_pos (by omega), List.length_dropLast]; omega
theorem popN_all {C : List Int} (h : 1 ≤ C.length) : popN C.length C = [0] := by
  obtain ⟨k, hk⟩ : ∃ k, C.length = k + 1 := ⟨C.length - 1, by omega⟩
  rw [hk]
  show pop1F (popN k C) = [0]
  have := popN_sub k (C := C) (by omega)
  unfold pop1F
  rw [if_neg (by omega)]
theorem popN_clamp {C : List Int} {n : Int} (h : 1 ≤ C.length) : popN ((if (if ↑C.length < n then ↑C.length else n) > 0 then if ↑C.length < n then ↑C.length else n else 0) - 0).toNat C = popN n.toNat C := by
  by_cases h1 : (C.length : Int) < n
  · obtain ⟨j, hj⟩ : ∃ j, n.toNat = C.length + j := ⟨n.toNat - C.length, by omega⟩
    rw [hj, popN_zero (popN_all h) j, ← popN_all h]
    congr 1
    simp only [h1, if_true]
    split <;> omega
  · congr 1
    simp only [h1, if_false]
    split <;> omega
theorem pop_spec {w : World} {mean : ExcName → Option Value} {mg mb : Str → Option Value} {dp un : Nat} {gd : Option (List Code)} {cn : Str} {cs : Scope} {a : Addr} {ccd : Value} {cl : List (Str × Addr)} {outer : List Env} {A₀ : Around} {base h₀ : Heap} {L : Addr} {m : Str → Option Value} {s : Shared} {Q E : Value → Shared → Prop}
   {kl rest : List (Addr × Obj)} {x : Addr} {most n : Int} {alt : Bool} {C O LV : List Int} {tn : Tok}
   (B : Below A₀ base outer h₀) (F : Fr h₀ L s.heap m) (X : (hd.heap_1 w.params).In h₀) (N : News h₀ L s.heap (kl ++ rest)) (T : Top vw (looseW vw [Str.ofString "KeyLevels"]) mean mg mb h₀) (hk : cs.kind = .function) (hdp : dp ≤ 330) (hun : un ≤ 1000) (hK : KeysRep w kl x most alt C O LV) (hap : Apart kl rest) (hc0 : 1 ≤ C.length) (hc1 : C.length ≤ 10) (hn0 : -2 ≤ n) (hn1 : n < 7)
   (hret : ∀ h' tk' kl', Fr h₀ L h' m → News h₀ L h' (kl' ++ rest) → KeysRep w kl' x most alt (popN n.toNat C) O LV → kl'.map (·.1) = kl.map (·.1) → Q .none { s with heap := h', toks := tk' }) :
   wpAny (model PySem.Challenge.rw_og0233_01.row.prog w) (ktrTop dp un gd cn cs L a ccd cl outer) (call (.ref 146) [.ref x, .int n tn]) Q E s := by
  (revert X; k_fill; intro X)
  obtain ⟨dx, KL, St, c, o, t1, t2, t3, t4, tm, lv, vc, vo, k1, k2, k3, k4, K⟩ := hK
  obtain ⟨rfl, dis, hlv, hvc, hvo⟩ := K
  have hoff : OwnOff rest [x, dx, KL, St, c, o] := hap.off (by simp)
  clear hap
  simp only [List.cons_append, List.nil_append] at N
  have hlc := hvc.length
  refine wpAny_call ?_
  k_dflt ktr_enter
  k_steps
  refine Hold.mk ?_
  (rename IsRange _ _ _ _ _ _ _ _ => hR)
  refine' range_any (σ := List Value × Nat) [] (fun i c' => IntsAre c'.1 (popN i C)) (fun c' => (x, instObj 121 dx) :: (dx, dictOf (keysDict w t1 t2 t3 t4 most tm KL alt St) 4) :: (KL, W.listOf lv.toArray k1) :: (St, W.listOf (two alt c o) k2) :: (c, W.listOf c'.1.toArray c'.2) :: (o, W.listOf vo.toArray k4) :: rest) (vc, k3) ?hh hR ?hs ?hn ?F ?N ?hJ ?turn ?done
  (case hh => rfl)
  (case hs => exact small_one (by omega) (by omega) (by omega) (by omega))
  (case hn => exact rangeSize_nat _ _)
  (case F => k_asm)
  (case N => k_asm)
  (case hJ => exact hvc)
  (case turn =>
    intro i c' t' u' h' tk' I oI hi hJ' hI F' N'; (try dsimp only); (try k_fold)
    obtain ⟨vs, k⟩ := c'
    have hI2 : @Ne Nat c I := hI (c, W.listOf vs.toArray k) (by simp)
    dsimp only at hJ' N'
    have hb := popN_len hc0 hc1 i
    obtain ⟨P, f, e⟩ := snoc_of hb.1
    rw [e] at hJ' hb
    obtain ⟨vp, tf, rfl, hvp⟩ := ints_snoc hJ'
    have hlp := hvp.length
    simp only [List.length_append, List.length_cons, List.length_nil] at hb
    by_cases h1 : 1 ≤ P.length
    · k_steps
      exact REnd.intro (vp, k + 1) (by assumption) (by assumption) (ne_keys hI (by rfl)) (fun _ _ _ => by simp_all) (by rw [popN_more e h1]; exact hvp)
    · have : P = [] := List.length_eq_zero_iff.mp (by omega)
      subst this
      cases hvp
      k_steps
      exact REnd.intro ([.int 0 _], k) (by assumption) (by assumption) (ne_keys hI (by rfl)) (fun _ _ _ => by simp_all) (by rw [popN_one e]; exact .cons _ _ .nil))
  (case done =>
    intro c' u' h' tk' hJ' F' N'; (try dsimp only); (try k_fold)
    obtain ⟨vs, k⟩ := c'
    dsimp only at hJ' N'
    k_steps
    exact hret _ _ [(x, _), (dx, _), (KL, _), (St, _), (c, _), (o, _)] (by assumption) (by assumption) (KeysRep.mk dx KL St c o t1 t2 t3 t4 tm lv _ vo k1 k2 _ k4 ⟨by rfl, dis, hlv, by rw [← popN_clamp hc0]; exact hJ', hvo⟩) (by rfl))
end
section
def shI (alt : Bool) : Int := if alt then 1 else 0
theorem shI_0 (alt : Bool) : 0 ≤ shI alt := by cases alt <;> decide
theorem shI_1 (alt : Bool) : shI alt ≤ 1 := by cases alt <;> decide
theorem shI_not (alt : Bool) : 1 - shI alt = shI (!alt) := by cases alt <;> decide
theorem two_cur (alt : Bool) (c o : Addr) : (two alt c o)[(shI alt).toNat]? = some (.ref c) := by cases alt <;> rfl
theorem two_not (alt : Bool) (c o : Addr) : two alt c o = two (!alt) o c := by cases alt <;> rfl
inductive RowsAre (bl : List (Addr × Obj)) : List Value → List Int → Prop
  | nil : RowsAre bl [] []
  | cons {b : Addr} {f : Int} {k : Nat} {vs : List Value} {fs : List Int} (h : (b, W.listOf (bitVs f).toArray k) ∈ bl) (r : RowsAre bl vs fs) : RowsAre bl (.ref b :: vs) (f :: fs)
theorem RowsAre.length {bl : List (Addr × Obj)} : ∀ {vs : List Value} {fs : List Int}, RowsAre bl vs fs → vs.length = fs.length
  | _, _, .nil => rfl
  | _, _, .cons _ r => congrArg (· + 1) r.length
theorem RowsAre.more {bl bl' : List (Addr × Obj)} (hs : ∀ p ∈ bl, p ∈ bl') : ∀ {vs : List Value} {fs : List Int}, RowsAre bl vs fs → RowsAre bl' vs fs
  | _, _, .nil => .nil
  | _, _, .cons h r => .cons (hs _ h) (r.more hs)
theorem RowsAre.append {bl : List (Addr × Obj)} {us : List Value} {gs : List Int} : ∀ {vs : List Value} {fs : List Int}, RowsAre bl vs fs → RowsAre bl us gs → RowsAre bl (vs ++ us) (fs ++ gs)
  | _, _, .nil, k => k
  | _, _, .cons h r, k => .cons h (RowsAre.append r k)
theorem rows_snoc {bl : List (Addr × Obj)} : ∀ {P : List Int} {f : Int} {vc : List Value}, RowsAre bl vc (P ++ [f]) → ∃ vp b k, vc = vp ++ [Value.ref b] ∧ RowsAre bl vp P ∧ (b, W.listOf (bitVs f).toArray k) ∈ bl
  | [], f, vc, h => by
    cases h with
    | cons h r => cases r; exact ⟨[], _, _, rfl, .nil, h⟩
  | p :: P, f, vc, h => by
    cases h with
    | cons h r => obtain ⟨vp, b, k, rfl, h', hb⟩ := rows_snoc r; exact ⟨_ :: vp, b, k, rfl, .cons h h', hb⟩
structure WorldAt (w : World) (led : List (Addr × Obj)) (Wd : Addr) (alt : Bool) (C O LV : List Int) (oW : Obj) (Sc Rc Ro WL : Addr) (tsh : Tok) (rc ro wl : List Value) (k1 k2 k3 k4 : Nat) (bl : List (Addr × Obj)) : Prop where
  led_eq : led = (Wd, oW) :: (Sc, W.listOf (two alt Rc Ro) k1) :: (Rc, W.listOf rc.toArray k2) :: (Ro, W.listOf ro.toArray k3) :: (WL, W.listOf wl.toArray k4) :: bl
  dis : Dis [Wd, Sc, Rc, Ro, WL]
  off : OwnOff bl [Wd, Sc, Rc, Ro, WL]
  dict : Obj.IsDictOf (PySem.strKind PySem.Challenge.rw_og0233_01.row.prog w) oW [(Str.ofString "screens", .ref Sc), (Str.ofString "levels", .ref WL), (Str.ofString "shown", .int (shI alt) tsh)]
  rc : RowsAre bl rc C
  ro : RowsAre bl ro O
  wl : IntsAre wl LV
def WorldRep (w : World) (led : List (Addr × Obj)) (Wd : Addr) (alt : Bool) (C O LV : List Int) : Prop :=
  ∃ oW Sc Rc Ro WL tsh rc ro wl k1 k2 k3 k4 bl, WorldAt w led Wd alt C O LV oW Sc Rc Ro WL tsh rc ro wl k1 k2 k3 k4 bl
theorem WorldRep.mk {w : World} {led : List (Addr × Obj)} {Wd : Addr} {alt : Bool} {C O LV : List Int} (oW : Obj) (Sc Rc Ro WL : Addr) (tsh : Tok) (rc ro wl : List Value) (k1 k2 k3 k4 : Nat) (bl : List (Addr × Obj))
   (h : WorldAt w led Wd alt C O LV oW Sc Rc Ro WL tsh rc ro wl k1 k2 k3 k4 bl) : WorldRep w led Wd alt C O LV := ⟨oW, Sc, Rc, Ro, WL, tsh, rc, ro, wl, k1, k2, k3, k4, bl, h⟩
structure Good (most : Int) (C O LV : List Int) : Prop where
  m0 : 1 ≤ most
  m1 : most ≤ 3
  c0 : 1 ≤ C.length
  c1 : (C.length : Int) ≤ most + 1
  cv : ∀ f ∈ C, 0 ≤ f ∧ f < 32
  o0 : 1 ≤ O.length
  o1 : (O.length : Int) ≤ most + 1
  ov : ∀ f ∈ O, 0 ≤ f ∧ f < 32
  l : LV.length = 8
theorem and31F : ∀ n : Fin 40, 0 ≤ Builtin.bitAnd (n.1 : Int) 31 ∧ Builtin.bitAnd (n.1 : Int) 31 < 32 := by decide +kernel
theorem and31 {n : Int} (h2 : 0 ≤ n) (h3 : n < 40) : 0 ≤ Builtin.bitAnd n 31 ∧ Builtin.bitAnd n 31 < 32 := by
  have := and31F ⟨n.toNat, by omega⟩
  simpa only [Int.toNat_of_nonneg h2] using this
theorem good_push {most n : Int} {C O LV : List Int} (G : Good most C O LV) (h2 : 0 ≤ n) (h3 : n < 40) : Good most (pushF most C (Builtin.bitAnd n 31)) O LV := by
  have hv := and31 h2 h3
  obtain ⟨m0, m1, c0, c1, cv, o0, o1, ov, l⟩ := G
  by_cases hf : (C.length : Int) < most + 1
  · rw [pushF_pos hf]
    refine ⟨m0, m1, by simp, by simp only [List.length_append, List.length_cons, List.length_nil]; omega, fun f hm => ?_, o0, o1, ov, l⟩
    rcases List.mem_append.mp hm with hm | hm
    · exact cv f hm
    · rw [List.mem_singleton.mp hm]; exact hv
  · match C, c0, c1, cv, hf with
    | [_], _, _, _, hf => simp at hf; omega
    | a :: b :: r, c0, c1, cv, hf =>
      rw [pushF_neg hf]
      simp only [List.length_cons] at c1 hf
      refine ⟨m0, m1, by simp, by simp only [List.length_cons, List.length_append, List.length_nil]; omega, fun f hm => ?_, o0, o1, ov, l⟩
      rcases List.mem_cons.mp hm with rfl | hm
      · exact cv _ List.mem_cons_self
      · rcases List.mem_append.mp hm with hm | hm
        · exact cv f (List.mem_cons_of_mem _ (List.mem_cons_of_mem _ hm))
        · rw [List.mem_singleton.mp hm]; exact hv
theorem sum_permI {l l' : List Int} (h : l.Perm l') : l.sum = l'.sum := by
  induction h with
  | nil => rfl
  | cons x _ ih => simp only [List.sum_cons, ih]
  | swap x y l => simp only [List.sum_cons]; omega
  | trans _ _ ih1 ih2 => exact ih1.trans ih2
theorem median {l : Int} {ns : List Int} (p : ns.Perm [0, l, 3]) (o : ns.Pairwise (fun x y => x ≤ y)) : ns.getD 1 0 = clampI l := by
  have hl := p.length_eq
  match ns, hl with
  | [a, b, c], _ =>
    have h0 : (0 : Int) ∈ [a, b, c] := p.mem_iff.mpr (by simp)
    have h1 : l ∈ [a, b, c] := p.mem_iff.mpr (by simp)
    have h2 : (3 : Int) ∈ [a, b, c] := p.mem_iff.mpr (by simp)
    have k0 : a ∈ [0, l, 3] := p.mem_iff.mp (by simp)
    have k1 : b ∈ [0, l, 3] := p.mem_iff.mp (by simp)
    have k2 : c ∈ [0, l, 3] := p.mem_iff.mp (by simp)
    have hs : [a, b, c].sum = [0, l, 3].sum := sum_permI p
    simp only [List.mem_cons, List.not_mem_nil, or_false, List.sum_cons, List.sum_nil] at h0 h1 h2 k0 k1 k2 hs
    simp only [List.pairwise_cons, List.mem_cons, List.not_mem_nil, or_false, forall_eq_or_imp, forall_eq] at o
    show b = clampI l
    unfold clampI
    repeat' split
    all_goals omega
theorem good_setL {most r l : Int} {C O LV : List Int} (G : Good most C O LV) : Good most C O (setL LV r l) := by
  obtain ⟨m0, m1, c0, c1, cv, o0, o1, ov, hl⟩ := G
  refine ⟨m0, m1, c0, c1, cv, o0, o1, ov, ?_⟩
  unfold setL
  split
  · rw [List.length_set]; exact hl
  · exact hl
theorem good_reset {most : Int} {C O LV : List Int} (G : Good most C O LV) : Good most [0] [0] [0, 0, 0, 0, 0, 0, 0, 0] :=
  ⟨G.m0, G.m1, by simp, by have := G.m0; simp; omega, by simp, by simp, by have := G.m0; simp; omega, by simp, by simp⟩
theorem setF_rangeF : ∀ f : Fin 32, ∀ n : Fin 40, ∀ h : Fin 6, 0 ≤ setF h.1 f.1 n.1 ∧ setF h.1 f.1 n.1 < 32 := by decide +kernel
theorem setF_range {how f n : Int} (h0 : 0 ≤ f) (h1 : f < 32) (h2 : 0 ≤ n) (h3 : n < 40) (h4 : 0 ≤ how) (h5 : how < 6) : 0 ≤ setF how f n ∧ setF how f n < 32 := by
  have := setF_rangeF ⟨f.toNat, by omega⟩ ⟨n.toNat, by omega⟩ ⟨how.toNat, by omega⟩
  simpa only [Int.toNat_of_nonneg h0, Int.toNat_of_nonneg h2, Int.toNat_of_nonneg h4] using this
theorem good_setF {most how f n : Int} {P O LV : List Int} (G : Good most (P ++ [f]) O LV) (h2 : 0 ≤ n) (h3 : n < 40) (h4 : 0 ≤ how) (h5 : how < 6) : Good most (P ++ [setF how f n]) O LV := by
  obtain ⟨m0, m1, c0, c1, cv, o0, o1, ov, hl⟩ := G
  have hf := cv f (by simp)
  refine ⟨m0, m1, by simp, by simpa using c1, fun g hm => ?_, o0, o1, ov, hl⟩
  rcases List.mem_append.mp hm with hm | hm
  · exact cv g (by simp [hm])
  · rw [List.mem_singleton.mp hm]; exact setF_range hf.1 hf.2 h2 h3 h4 h5
theorem popN_mem {C : List Int} {n : Nat} : ∀ g ∈ popN n C, g ∈ C ∨ g = 0 := by
  induction n with
  | zero => exact fun g h => .inl h
  | succ n ih =>
    intro g hg
    change g ∈ pop1F (popN n C) at hg
    unfold pop1F at hg
    split at hg
    · exact ih g (List.dropLast_subset _ hg)
    · exact .inr (List.mem_singleton.mp hg)
theorem popN_le {C : List Int} (h : 1 ≤ C.length) (n : Nat) : 1 ≤ (popN n C).length ∧ (popN n C).length ≤ C.length := by
  induction n with
  | zero => exact ⟨h, Nat.le_refl _⟩
  | succ n ih =>
    show 1 ≤ (pop1F (popN n C)).length ∧ (pop1F (popN n C)).length ≤ C.length
    unfold pop1F
    split
    · rw [List.length_dropLast]; omega
    · simp; omega
theorem good_popN {most : Int} {C O LV : List Int} (n : Nat) (G : Good most C O LV) : Good most (popN n C) O LV := by
  obtain ⟨m0, m1, c0, c1, cv, o0, o1, ov, hl⟩ := G
  have := popN_le c0 n
  refine ⟨m0, m1, this.1, by omega, fun g hm => ?_, o0, o1, ov, hl⟩
  rcases popN_mem g hm with h | h
  · exact cv g h
  · omega
end
section
theorem AllLt.less {d : Nat} {T X : List (Addr × Obj)} (h : AllLt d T) (s : ∀ p ∈ X, p ∈ T) : ∀ p ∈ X, p.1 ≠ d := fun p hp => Nat.ne_of_lt (AllLt.mem h p (s p hp))
theorem wreset_end {w : World} {h₀ h' : Heap} {L Wd Sc Rc Ro WL b b2 R0 R1 Sc' WL' tmp tup : Addr} {alt : Bool} {tsh : Tok} {oW ot otup oSc oRc oRo oWL : Obj} {lv' : List Value} {LV' : List Int} {kb kb2 : Nat} {T dk kl rest : List (Addr × Obj)}
   (N : News h₀ L h' ((tup, otup) :: (WL', W.listOf lv'.toArray 0) :: (tmp, ot) :: (Sc', W.listOf #[.ref R0, .ref R1] 0) :: (R1, W.listOf #[.ref b2] 0) :: (b2, W.listOf (bitVs 0).toArray kb2) :: (R0, W.listOf #[.ref b] 0) :: (b, W.listOf (bitVs 0).toArray kb) :: (Wd, oW) :: (Sc, oSc) :: (Rc, oRc) :: (Ro, oRo) :: (WL, oWL) :: T))
   (i : IntsAre lv' LV')
   (d1 : b < R0 ∧ Wd < R0 ∧ Sc < R0 ∧ Rc < R0 ∧ Ro < R0 ∧ WL < R0 ∧ AllLt R0 T)
   (d2 : b2 < R1 ∧ R0 < R1 ∧ b < R1 ∧ Wd < R1 ∧ Sc < R1 ∧ Rc < R1 ∧ Ro < R1 ∧ WL < R1 ∧ AllLt R1 T)
   (d3 : R1 < Sc' ∧ b2 < Sc' ∧ R0 < Sc' ∧ b < Sc' ∧ Wd < Sc' ∧ Sc < Sc' ∧ Rc < Sc' ∧ Ro < Sc' ∧ WL < Sc' ∧ AllLt Sc' T)
   (d4 : tmp < WL' ∧ Sc' < WL' ∧ R1 < WL' ∧ b2 < WL' ∧ R0 < WL' ∧ b < WL' ∧ Wd < WL' ∧ Sc < WL' ∧ Rc < WL' ∧ Ro < WL' ∧ WL < WL' ∧ AllLt WL' T)
   (hd : Obj.IsDictOf (PySem.strKind PySem.Challenge.rw_og0233_01.row.prog w) oW [(Str.ofString "screens", .ref Sc'), (Str.ofString "levels", .ref WL'), (Str.ofString "shown", .int (shI alt) tsh)])
   (hb : ∀ p ∈ T, p.1 ≠ b) (hb2 : ∀ p ∈ T, p.1 ≠ b2) (ew : @Ne Nat Wd b) (ew2 : @Ne Nat Wd b2) (e02 : @Ne Nat R0 b2)
   (oD : ∀ p ∈ dk, p.1 ≠ Wd) (oK : ∀ p ∈ kl, p.1 ≠ Wd) (oR : ∀ p ∈ rest, p.1 ≠ Wd)
   (sD : ∀ p ∈ dk, p ∈ T) (sK : ∀ p ∈ kl, p ∈ T) (sR : ∀ p ∈ rest, p ∈ T) :
   ∃ wl', WorldRep w wl' Wd alt [0] [0] LV' ∧ News h₀ L h' (dk ++ (kl ++ (wl' ++ rest))) ∧ Apart dk wl' ∧ Apart kl wl' ∧ Apart wl' rest := by
  have l0 := d1.2.2.2.2.2.2
  have l1 := d2.2.2.2.2.2.2.2.2
  have l2 := d3.2.2.2.2.2.2.2.2.2
  have l3 := d4.2.2.2.2.2.2.2.2.2.2.2
  have f1 : @LT.lt Nat _ b R0 := d1.1
  have f2 : @LT.lt Nat _ Wd R0 := d1.2.1
  have f3 : @LT.lt Nat _ b2 R1 := d2.1
  have f4 : @LT.lt Nat _ R0 R1 := d2.2.1
  have f5 : @LT.lt Nat _ R1 Sc' := d3.1
  have f6 : @LT.lt Nat _ Sc' WL' := d4.2.1
  have ap : ∀ {X : List (Addr × Obj)} (_ : ∀ p ∈ X, p.1 ≠ Wd) (_ : ∀ p ∈ X, p ∈ T) (c o : Addr) (_ : (c = R0 ∧ o = R1) ∨ (c = R1 ∧ o = R0)) (o1 o2 o3 o4 o5 o6 o7 : Obj), Apart X [(Wd, o1), (Sc', o2), (c, o3), (o, o4), (WL', o5), (b, o6), (b2, o7)] := by
    intro X hx hs c o hco o1 o2 o3 o4 o5 o6 o7 p hp q hq
    have g0 := AllLt.less l0 hs p hp
    have g1 := AllLt.less l1 hs p hp
    have g2 := AllLt.less l2 hs p hp
    have g3 := AllLt.less l3 hs p hp
    simp only [List.mem_cons, List.not_mem_nil, or_false] at hq
    rcases hco with ⟨rfl, rfl⟩ | ⟨rfl, rfl⟩ <;> rcases hq with rfl | rfl | rfl | rfl | rfl | rfl | rfl <;> first | exact hx p hp | exact g0 | exact g1 | exact g2 | exact g3 | exact hb p (hs p hp) | exact hb2 p (hs p hp)
  have sub : ∀ (c o : Addr) (oc oo : Obj), ((c = R0 ∧ o = R1 ∧ oc = W.listOf #[.ref b] 0 ∧ oo = W.listOf #[.ref b2] 0) ∨ (c = R1 ∧ o = R0 ∧ oc = W.listOf #[.ref b2] 0 ∧ oo = W.listOf #[.ref b] 0)) → News h₀ L h' (dk ++ (kl ++ ([(Wd, oW), (Sc', W.listOf #[.ref R0, .ref R1] 0), (c, oc), (o, oo), (WL', W.listOf lv'.toArray 0), (b, W.listOf (bitVs 0).toArray kb), (b2, W.listOf (bitVs 0).toArray kb2)] ++ rest))) := by
    intro c o oc oo hco
    rcases hco with ⟨rfl, rfl, rfl, rfl⟩ | ⟨rfl, rfl, rfl, rfl⟩ <;> exact News.less N (List.forall_mem_append.mpr ⟨fun p hp => List.mem_append_right [_, _, _, _, _, _, _, _, _, _, _, _, _] (sD p hp), List.forall_mem_append.mpr ⟨fun p hp => List.mem_append_right [_, _, _, _, _, _, _, _, _, _, _, _, _] (sK p hp), List.forall_mem_append.mpr ⟨by kcf_all, fun p hp => List.mem_append_right [_, _, _, _, _, _, _, _, _, _, _, _, _] (sR p hp)⟩⟩⟩)
  obtain ⟨_, _, _, _, _, _, _⟩ := d1
  obtain ⟨_, _, _, _, _, _, _, _, _⟩ := d2
  obtain ⟨_, _, _, _, _, _, _, _, _, _⟩ := d3
  obtain ⟨_, _, _, _, _, _, _, _, _, _, _, _⟩ := d4
  have off : ∀ c o : Addr, ((c = R0 ∧ o = R1) ∨ (c = R1 ∧ o = R0)) → OwnOff [(b, W.listOf (bitVs 0).toArray kb), (b2, W.listOf (bitVs 0).toArray kb2)] [Wd, Sc', c, o, WL'] := by
    intro c o hco p hp q hq
    simp only [List.mem_cons, List.not_mem_nil, or_false] at hp hq
    rcases hco with ⟨rfl, rfl⟩ | ⟨rfl, rfl⟩ <;> rcases hp with rfl | rfl <;> rcases hq with rfl | rfl | rfl | rfl | rfl <;> k_ne
  cases alt with
  | false => exact ⟨_, ⟨oW, Sc', R0, R1, WL', tsh, [.ref b], [.ref b2], lv', 0, 0, 0, 0, [(b, W.listOf (bitVs 0).toArray kb), (b2, W.listOf (bitVs 0).toArray kb2)], ⟨rfl, by repeat' (first | exact True.intro | refine And.intro ?_ ?_ | k_ne), off _ _ (.inl ⟨rfl, rfl⟩), hd, .cons (by simp; exact .inl rfl) .nil, .cons (by simp; exact .inr rfl) .nil, i⟩⟩, sub R0 R1 _ _ (.inl ⟨rfl, rfl, rfl, rfl⟩), ap oD sD _ _ (.inl ⟨rfl, rfl⟩) _ _ _ _ _ _ _, ap oK sK _ _ (.inl ⟨rfl, rfl⟩) _ _ _ _ _ _ _, (ap oR sR _ _ (.inl ⟨rfl, rfl⟩) _ _ _ _ _ _ _).symm⟩
  | true => exact ⟨_, ⟨oW, Sc', R1, R0, WL', tsh, [.ref b2], [.ref b], lv', 0, 0, 0, 0, [(b, W.listOf (bitVs 0).toArray kb), (b2, W.listOf (bitVs 0).toArray kb2)], ⟨rfl, by repeat' (first | exact True.intro | refine And.intro ?_ ?_ | k_ne), off _ _ (.inr ⟨rfl, rfl⟩), hd, .cons (by simp; exact .inr rfl) .nil, .cons (by simp; exact .inl rfl) .nil, i⟩⟩, sub R1 R0 _ _ (.inr ⟨rfl, rfl, rfl, rfl⟩), ap oD sD _ _ (.inr ⟨rfl, rfl⟩) _ _ _ _ _ _ _, ap oK sK _ _ (.inr ⟨rfl, rfl⟩) _ _ _ _ _ _ _, (ap oR sR _ _ (.inr ⟨rfl, rfl⟩) _ _ _ _ _ _ _).symm⟩
end
section
theorem stored2 {A B C : Str} {a : Option Value} {u m : Str → Option Value} : (fun y => if y = A then a else if [B, C].contains y = true then u y else m y) = fun y => if y = A then a else if y = B then u B else if y = C then u C else m y := by
  funext y
  by_cases h1 : y = A
  · rw [if_pos h1, if_pos h1]
  · rw [if_neg h1, if_neg h1]
    by_cases h2 : y = B
    · subst h2; simp
    · rw [if_neg h2]
      by_cases h3 : y = C
      · subst h3; simp
      · rw [if_neg h3, if_neg]; simp [h2, h3]
theorem OwnOff.lessL {A B : List (Addr × Obj)} {adr : List Addr} (h : OwnOff A adr) (s : ∀ p ∈ B, p ∈ A) : OwnOff B adr := fun p hp => h p (s p hp)
theorem unr_end {h₀ h' : Heap} {L : Addr} {its : List (Addr × Obj)} {rest : (Str → Option Value) → List (Addr × Obj) → Prop} {s₁ : Shared} {tk : Nat} {m' : Str → Option Value} (n' : List (Addr × Obj)) (F : Fr h₀ L h' m') (N : News h₀ L h' (its ++ n')) (off : ∀ p ∈ n', ∀ q ∈ its, p.1 ≠ q.1) (r : rest m' n') :
    UnrEndW h₀ L s₁ its rest { s₁ with heap := h', toks := tk } := ⟨h', tk, m', n', rfl, F, N, off, r⟩
theorem rows_get {bl : List (Addr × Obj)} : ∀ {vs : List Value} {fs : List Int}, RowsAre bl vs fs → ∀ {i : Nat}, i < fs.length → ∃ b f k, vs[i]? = some (.ref b) ∧ (b, W.listOf (bitVs f).toArray k) ∈ bl ∧ fs[i]? = some f
  | _, _, .nil, i, hi => absurd hi (Nat.not_lt_zero i)
  | _, _, .cons h r, 0, _ => ⟨_, _, _, rfl, h, rfl⟩
  | _, _, .cons _ r, i + 1, hi => rows_get r (i := i) (Nat.lt_of_succ_lt_succ hi)
theorem hold_range {prog : Program} {w : World} {A : Around} {r : Addr} {a b c : Int} {t u v : Tok} {Q : Value → Shared → Prop} {E : Value → Shared → Prop} {s : Shared} (_ : IsRange s.heap r a b c t u v) (h : Hold (wpAny (model prog w) A (pyIter (.ref r)) Q E s)) : wpAny (model prog w) A (pyIter (.ref r)) Q E s := h
structure KeysAx (w : World) (led : List (Addr × Obj)) (x : Addr) (most : Int) (a sh : Bool) (C O LV : List Int) (dx KL St c o : Addr) (t1 t2 t3 t4 tm : Tok) (lv vc vo : List Value) (k1 k2 k3 k4 : Nat) : Prop where
  led_eq : led = [(x, instObj 121 dx), (dx, dictOf (keysDict w t1 t2 t3 t4 most tm KL a St) 4), (KL, W.listOf lv.toArray k1), (St, W.listOf (two sh c o) k2), (c, W.listOf vc.toArray k3), (o, W.listOf vo.toArray k4)]
  dis : Dis [x, dx, KL, St, c, o]
  lv : IntsAre lv LV
  vc : IntsAre vc C
  vo : IntsAre vo O
theorem orient {w : World} {kl wl : List (Addr × Obj)} {x Wd : Addr} {most : Int} {alt : Bool} {C O LV : List Int} (hK : KeysRep w kl x most alt C O LV) (hW : WorldRep w wl Wd alt C O LV ∨ WorldRep w wl Wd (!alt) O C LV) (G : Good most C O LV) :
    ∃ sh C' O', (∃ kl', (∀ p ∈ kl', p ∈ kl) ∧ ∃ dx KL St c o t1 t2 t3 t4 tm lv vc vo k1 k2 k3 k4, KeysAx w kl' x most alt sh C' O' LV dx KL St c o t1 t2 t3 t4 tm lv vc vo k1 k2 k3 k4) ∧ WorldRep w wl Wd sh C' O' LV ∧ Good most C' O' LV := by
  obtain ⟨dx, KL, St, c, o, t1, t2, t3, t4, tm, lv, vc, vo, k1, k2, k3, k4, K⟩ := hK
  obtain ⟨rfl, dis, hlv, hvc, hvo⟩ := K
  rcases hW with hW | hW
  · exact ⟨alt, C, O, ⟨_, fun _ h => h, dx, KL, St, c, o, t1, t2, t3, t4, tm, lv, vc, vo, k1, k2, k3, k4, ⟨rfl, dis, hlv, hvc, hvo⟩⟩, hW, G⟩
  · obtain ⟨m0, m1, c0, c1, cv, o0, o1, ov, hl⟩ := G
    refine ⟨!alt, O, C, ⟨[(x, _), (dx, _), (KL, _), (St, _), (o, _), (c, _)], ?_, dx, KL, St, o, c, t1, t2, t3, t4, tm, lv, vo, vc, k1, k2, k4, k3, ⟨rfl, ?_, hlv, hvo, hvc⟩⟩, hW, ⟨m0, m1, o0, o1, ov, c0, c1, cv, hl⟩⟩
    · intro p hp
      rw [← two_not] at hp
      exact (show ∀ p ∈ [_, _, _, _, _, _], p ∈ _ by kcf_all) p hp
    · repeat' (first | exact True.intro | refine And.intro ?_ ?_ | k_ne)
theorem kinit_end {w : World} {h₀ h' : Heap} {L x dx tmp KL s0 s1 St : Addr} {most : Int} {t1 t2 t3 t4 tm u0 u1 : Tok} {lv : List Value} {LV : List Int} {ot : Obj} {rest : List (Addr × Obj)}
   (N : News h₀ L h' ((St, W.listOf #[.ref s0, .ref s1] 0) :: (s1, W.listOf #[.int 0 u1] 0) :: (s0, W.listOf #[.int 0 u0] 0) :: (KL, W.listOf lv.toArray 0) :: (tmp, ot) :: (x, instObj 121 dx) :: (dx, dictOf (keysDict w t1 t2 t3 t4 most tm KL false St) 4) :: rest))
   (i : IntsAre lv LV) (d0 : ∀ p ∈ rest, p.1 < dx) (d1 : @LT.lt Nat _ dx x)
   (d2 : tmp < KL ∧ x < KL ∧ dx < KL ∧ AllLt KL rest) (d3 : KL < s0 ∧ tmp < s0 ∧ x < s0 ∧ dx < s0 ∧ AllLt s0 rest) (d4 : s0 < s1 ∧ KL < s1 ∧ tmp < s1 ∧ x < s1 ∧ dx < s1 ∧ AllLt s1 rest) (d5 : s1 < St ∧ s0 < St ∧ KL < St ∧ tmp < St ∧ x < St ∧ dx < St ∧ AllLt St rest) :
   ∃ kl', News h₀ L h' (kl' ++ rest) ∧ KeysRep w kl' x most false [0] [0] LV ∧ Apart kl' rest := by
  have e1 : @LT.lt Nat _ x KL := d2.2.1
  have e2 : @LT.lt Nat _ dx KL := d2.2.2.1
  have e3 : @LT.lt Nat _ KL s0 := d3.1
  have e4 : @LT.lt Nat _ s0 s1 := d4.1
  have e5 : @LT.lt Nat _ s1 St := d5.1
  have adx : ∀ p ∈ rest, p.1 ≠ dx := fun p hp => Nat.ne_of_lt (d0 p hp)
  have ax : ∀ p ∈ rest, p.1 ≠ x := fun p hp => Nat.ne_of_lt (Nat.lt_trans (d0 p hp) d1)
  have aKL := AllLt.ne d2.2.2.2
  have aSt := AllLt.ne d5.2.2.2.2.2.2
  have as0 := AllLt.ne d3.2.2.2.2
  have as1 := AllLt.ne d4.2.2.2.2.2
  obtain ⟨_, _, _, _⟩ := d2
  obtain ⟨_, _, _, _, _⟩ := d3
  obtain ⟨_, _, _, _, _, _⟩ := d4
  obtain ⟨_, _, _, _, _, _, _⟩ := d5
  refine ⟨[(x, _), (dx, _), (KL, _), (St, _), (s0, _), (s1, _)], News.less N ?_, ⟨dx, KL, St, s0, s1, t1, t2, t3, t4, tm, lv, [.int 0 u0], [.int 0 u1], 0, 0, 0, 0, ⟨rfl, ?_, i, .cons _ _ .nil, .cons _ _ .nil⟩⟩, ap_cons ax (ap_cons adx (ap_cons aKL (ap_cons aSt (ap_cons as0 (ap_cons as1 ap_nil)))))⟩
  · simp only [two, if_false, Bool.false_eq_true, List.cons_append, List.nil_append]; kcf_all
  · repeat' (first | exact True.intro | refine And.intro ?_ ?_ | k_ne)
theorem kinit_spec {w : World} {mean : ExcName → Option Value} {mg mb : Str → Option Value} {dp un : Nat} {gd : Option (List Code)} {cn : Str} {cs : Scope} {a : Addr} {ccd : Value} {cl : List (Str × Addr)} {outer : List Env} {A₀ : Around} {base h₀ : Heap} {L : Addr} {m : Str → Option Value} {s : Shared} {Q E : Value → Shared → Prop}
   {rest : List (Addr × Obj)} {most : Int} {tm : Tok}
   (B : Below A₀ base outer h₀) (F : Fr h₀ L s.heap m) (X : (hd.heap_1 w.params).In h₀) (N : News h₀ L s.heap (rest)) (T : Top vw (looseW vw [Str.ofString "KeyLevels"]) mean mg mb h₀) (hk : cs.kind = .function) (hdp : dp ≤ 330) (hun : un ≤ 1000) (hm0 : 1 ≤ most) (hm1 : most ≤ 3)
   (hret : ∀ x h' tk' kl', Fr h₀ L h' m → News h₀ L h' (kl' ++ rest) → KeysRep w kl' x most false [0] [0] [0, 0, 0, 0, 0, 0, 0, 0] → Apart kl' rest → Q (.ref x) { s with heap := h', toks := tk' }) :
   wpAny (model PySem.Challenge.rw_og0233_01.row.prog w) (ktrTop dp un gd cn cs L a ccd cl outer) (call (.ref 121) [.int most tm]) Q E s := by
  (revert X; k_fill; intro X)
  k_steps
  obtain ⟨kl', hN', hK', hA'⟩ := kinit_end (rest := rest) (by assumption) (by assumption) (by assumption) (by assumption) (by assumption) (by assumption) (by assumption) (by assumption)
  exact hret _ _ _ kl' (by assumption) hN' hK' hA'
theorem winit_end {w : World} {h₀ h' : Heap} {L Wd b b2 R0 R1 Sc' WL' tmp : Addr} {tsh : Tok} {oW ot : Obj} {lv' : List Value} {LV' : List Int} {kb kb2 : Nat} {T : List (Addr × Obj)}
   (N : News h₀ L h' ((WL', W.listOf lv'.toArray 0) :: (tmp, ot) :: (Sc', W.listOf #[.ref R0, .ref R1] 0) :: (R1, W.listOf #[.ref b2] 0) :: (b2, W.listOf (bitVs 0).toArray kb2) :: (R0, W.listOf #[.ref b] 0) :: (b, W.listOf (bitVs 0).toArray kb) :: (Wd, oW) :: T))
   (i : IntsAre lv' LV')
   (d1 : b < R0 ∧ Wd < R0 ∧ AllLt R0 T)
   (d2 : b2 < R1 ∧ R0 < R1 ∧ b < R1 ∧ Wd < R1 ∧ AllLt R1 T)
   (d3 : R1 < Sc' ∧ b2 < Sc' ∧ R0 < Sc' ∧ b < Sc' ∧ Wd < Sc' ∧ AllLt Sc' T)
   (d4 : tmp < WL' ∧ Sc' < WL' ∧ R1 < WL' ∧ b2 < WL' ∧ R0 < WL' ∧ b < WL' ∧ Wd < WL' ∧ AllLt WL' T)
   (hd : Obj.IsDictOf (PySem.strKind PySem.Challenge.rw_og0233_01.row.prog w) oW [(Str.ofString "screens", .ref Sc'), (Str.ofString "levels", .ref WL'), (Str.ofString "shown", .int 0 tsh)])
   (hw : ∀ p ∈ T, p.1 < Wd) (hb : ∀ p ∈ T, p.1 ≠ b) (hb2 : ∀ p ∈ T, p.1 ≠ b2) (ew : @Ne Nat Wd b) (ew2 : @Ne Nat Wd b2) (e02 : @Ne Nat R0 b2) :
   ∃ wl', WorldRep w wl' Wd false [0] [0] LV' ∧ News h₀ L h' (wl' ++ T) ∧ Apart wl' T := by
  have f1 : @LT.lt Nat _ b R0 := d1.1
  have f2 : @LT.lt Nat _ Wd R0 := d1.2.1
  have f3 : @LT.lt Nat _ b2 R1 := d2.1
  have f4 : @LT.lt Nat _ R0 R1 := d2.2.1
  have f5 : @LT.lt Nat _ R1 Sc' := d3.1
  have f6 : @LT.lt Nat _ Sc' WL' := d4.2.1
  have aSc := AllLt.ne d3.2.2.2.2.2
  have aR0 := AllLt.ne d1.2.2
  have aR1 := AllLt.ne d2.2.2.2.2
  have aWL := AllLt.ne d4.2.2.2.2.2.2.2
  obtain ⟨_, _, _⟩ := d1
  obtain ⟨_, _, _, _, _⟩ := d2
  obtain ⟨_, _, _, _, _, _⟩ := d3
  obtain ⟨_, _, _, _, _, _, _, _⟩ := d4
  refine ⟨_, ⟨oW, Sc', R0, R1, WL', tsh, [.ref b], [.ref b2], lv', 0, 0, 0, 0, [(b, W.listOf (bitVs 0).toArray kb), (b2, W.listOf (bitVs 0).toArray kb2)], ⟨rfl, by repeat' (first | exact True.intro | refine And.intro ?_ ?_ | k_ne), ?_, hd, .cons (by simp; exact .inl rfl) .nil, .cons (by simp; exact .inr rfl) .nil, i⟩⟩, News.less N ?_, ap_cons (fun p hp => Nat.ne_of_lt (hw p hp)) (ap_cons aSc (ap_cons aR0 (ap_cons aR1 (ap_cons aWL (ap_cons hb (ap_cons hb2 ap_nil))))))⟩
  · intro p hp q hq
    simp only [List.mem_cons, List.not_mem_nil, or_false] at hp hq
    rcases hp with rfl | rfl <;> rcases hq with rfl | rfl | rfl | rfl | rfl <;> k_ne
  · simp only [two, if_false, Bool.false_eq_true, List.cons_append, List.nil_append]; kcf_all
end
section
theorem seta_spec {w : World} {A : Around} {h₀ : Heap} {L : Addr} {m : Str → Option Value} {s : Shared} {Q : Unit → Shared → Prop} {E : Value → Shared → Prop} {T : List (Addr × Obj)} {x dx KL St : Addr} {a v₀ : Bool} (v : Bool) {most : Int} {t1 t2 t3 t4 tm : Tok}
   (F : Fr h₀ L s.heap m) (X : (hd.heap_1 w.params).In h₀)
   (N : News h₀ L s.heap ((x, instObj 121 dx) :: (dx, dictOf (keysDict w t1 t2 t3 t4 most tm KL a St) 4) :: T)) (hne : @Ne Nat x dx) (hoff : OwnOff T [dx]) (hv : v₀ = v)
   (hret : ∀ h' tk', Fr h₀ L h' m → News h₀ L h' ((x, instObj 121 dx) :: (dx, dictOf (keysDict w t1 t2 t3 t4 most tm KL v St) 4) :: T) → Q () { s with heap := h', toks := tk' }) :
   wpAny (model PySem.Challenge.rw_og0233_01.row.prog w) A (setAttr (.ref x) (Str.ofString "is_alternate") (.bool v₀)) Q E s := by
  subst hv
  (revert X; k_fill; intro X)
  walk1
  exact hret _ _ (by assumption) (by assumption)
theorem News.rot {h₀ h : Heap} {L : Addr} {a b c d : Addr × Obj} {R : List (Addr × Obj)} (N : News h₀ L h (a :: b :: c :: d :: R)) : News h₀ L h (c :: d :: a :: b :: R) := News.less N (by kcf_all)
theorem off_one {a dx : Addr} {o : Obj} {l : List (Addr × Obj)} (h : @Ne Nat a dx) (k : OwnOff l [dx]) : OwnOff ((a, o) :: l) [dx] := OwnOff.cons (fun b hb => by rw [List.mem_singleton.mp hb]; exact h) k
theorem IntsAre.snoc {ys : List Value} {C : List Int} {i : Nat} {f : Int} {t : Tok} (h : IntsAre ys (C.take i)) (e : C[i]? = some f) : IntsAre (ys ++ [.int f t]) (C.take (i + 1)) := by
  rw [List.take_succ, e]; exact IntsAre.append h (.cons _ _ .nil)
structure NeH (a b : Nat) : Prop where
  h : @Ne Nat a b
theorem name_iter {M : Model} {A : Around} {Q E : Value → Shared → Prop} {s : Shared} {a : Addr} (h : ∀ b, b = a → wpAny M A (pyIter (.ref a)) Q E s) : wpAny M A (pyIter (.ref a)) Q E s := h a rfl
theorem lt_keys {A B : List (Addr × Obj)} {I : Addr} (h : ∀ p ∈ A, p.1 < I) (e : B.map (·.1) = A.map (·.1)) : ∀ p ∈ B, p.1 < I := fun p hp => by
  have h1 : p.1 ∈ A.map (·.1) := by rw [← e]; exact List.mem_map.mpr ⟨p, hp, rfl⟩
  obtain ⟨q, hq, e'⟩ := List.mem_map.mp h1
  rw [← e']; exact h q hq
theorem ints_at {vs : List Value} {ks : List Int} (h : IntsAre vs ks) {i : Nat} {k : Int} (e : ks[i]? = some k) : ∃ t, vs[i]? = some (.int k t) := by
  induction h generalizing i with
  | nil => simp at e
  | cons k' t r ih =>
    cases i with
    | zero => simp at e; exact ⟨t, by simp [e]⟩
    | succ i => simpa using ih (i := i) (by simpa using e)
theorem ne_three {A B C : List (Addr × Obj)} {I : Addr} {oI : Obj} (a : Apart A [(I, oI)]) (b : Apart B [(I, oI)]) (c : Apart C [(I, oI)]) : ∀ p ∈ A ++ (B ++ C), p.1 ≠ I := fun p hp => by
  rcases List.mem_append.mp hp with h | h
  · exact a p h _ List.mem_cons_self
  · rcases List.mem_append.mp h with h | h
    · exact b p h _ List.mem_cons_self
    · exact c p h _ List.mem_cons_self
theorem cont2 {a b z : Str} (h : [a, b].contains z = false) : z ≠ a ∧ z ≠ b := by
  simp only [List.contains_cons, Bool.or_eq_false_iff] at h
  exact ⟨fun e => by simp [e] at h, fun e => by simp [e] at h⟩
end
section
local macro_rules | `(tactic| walk_at "call ref") => `(tactic| (k_here; (first
  | (with_reducible show wpAny _ _ (call (Value.ref 173) _) _ _ _)
  | (with_reducible show wpAny _ _ (call (Value.ref 178) _) _ _ _)
  | (with_reducible show wpAny _ _ (call (Value.ref 183) _) _ _ _)
  | (with_reducible show wpAny _ _ (call (Value.ref 188) _) _ _ _)
  | (with_reducible show wpAny _ _ (call (Value.ref 139) _) _ _ _)
  | (with_reducible show wpAny _ _ (call (Value.ref 146) _) _ _ _)
  | (with_reducible show wpAny _ _ (call (Value.ref 153) _) _ _ _)
  | (with_reducible show wpAny _ _ (call (Value.ref 160) _) _ _ _)
  | (with_reducible show wpAny _ _ (call (Value.ref 132) _) _ _ _)
  | (with_reducible show wpAny _ _ (call (Value.ref 195) _) _ _ _)
  | (with_reducible show wpAny _ _ (call (Value.ref 200) _) _ _ _)); refine Hold.out ?_))
local macro_rules | `(tactic| walk_at "call builtin:len") => `(tactic| (k_here; (with_reducible show wpAny _ _ (call (Value.builtin "len") [Value.ref _]) _ _ _); k_dflt (refine' len_led ?N ?m ?c ?b ?_; (case N => k_asm); (case m => k_mem); (case c => (simp only [List.size_toArray, List.length_append, List.length_cons, List.length_nil]; rfl)); (case b => omega))))
local macro_rules | `(tactic| walk_at "call builtin:list.append") => `(tactic| (k_here; (with_reducible show wpAny _ _ (call (Value.builtin _) [Value.ref _, _]) _ _ _); k_dflt (refine' append_led ?F ?N ?U ?z ?_; (case F => k_asm); (case N => k_asm); (case U => k_upd); (case z => ((try simp only [List.length_append, List.length_cons, List.length_nil]); omega))); (intro h' F' N'; (try dsimp only [List.nil_append, List.cons_append] at N'); (try k_sweep))))
section
theorem deed_spec {w : World} {mean : ExcName → Option Value} {mg mb : Str → Option Value} {dp un : Nat} {gd : Option (List Code)} {cn : Str} {cs : Scope} {a : Addr} {ccd : Value} {cl : List (Str × Addr)} {outer : List Env} {A₀ : Around} {base h₀ : Heap} {L : Addr} {m : Str → Option Value} {s : Shared} {Q E : Value → Shared → Prop}
   {dk kl wl rest : List (Addr × Obj)} {D x Wd : Addr} {most : Int} {alt : Bool} {C O LV : List Int} {tm : Tok}
   (B : Below A₀ base outer h₀) (F : Fr h₀ L s.heap m) (X : (hd.heap_1 w.params).In h₀) (N : News h₀ L s.heap (dk ++ (kl ++ (wl ++ rest)))) (T : Top vw (looseW vw [Str.ofString "KeyLevels"]) mean mg mb h₀) (hk : cs.kind = .function) (hdp : dp ≤ 320) (hun : un ≤ 500) (hD : DeckRep w dk D) (hK : KeysRep w kl x most alt C O LV) (hW : WorldRep w wl Wd alt C O LV) (hG : Good most C O LV)
   (a1 : Apart dk kl) (a2 : Apart dk wl) (a3 : Apart dk rest) (a4 : Apart kl wl) (a5 : Apart kl rest) (a6 : Apart wl rest)
   (hret : ∀ h' tk' dk' kl' wl' C' O' LV', Fr h₀ L h' m → News h₀ L h' (dk' ++ (kl' ++ (wl' ++ rest))) → DeckRep w dk' D → KeysRep w kl' x most alt C' O' LV' → (WorldRep w wl' Wd alt C' O' LV' ∨ WorldRep w wl' Wd (!alt) O' C' LV') →
     Good most C' O' LV' → Apart dk' kl' → Apart dk' wl' → Apart dk' rest → Apart kl' wl' → Apart kl' rest → Apart wl' rest → Q .none { s with heap := h', toks := tk' }) :
   wpAny (model PySem.Challenge.rw_og0233_01.row.prog w) (ktrTop dp un gd cn cs L a ccd cl outer) (call (.ref 195) [.ref D, .ref x, .ref Wd, .int most tm]) Q E s := by
  (revert X; k_fill; intro X)
  obtain ⟨oW, Sc, Rc, Ro, WL, tsh, rc, ro, vl, k1, k2, k3, k4, bl, Wa⟩ := hW
  obtain ⟨rfl, dis, off, hdict, hrc, hro, hwl⟩ := Wa
  have s0 := shI_0 alt
  have s1 := shI_1 alt
  have s2 := two_cur alt Rc Ro
  have oD : OwnOff dk [Wd, Sc, Rc, Ro, WL] := a2.symm.off (by simp)
  have oK : OwnOff kl [Wd, Sc, Rc, Ro, WL] := a4.symm.off (by simp)
  have oR : OwnOff rest [Wd, Sc, Rc, Ro, WL] := a6.off (by simp)
  have hrl := hrc.length
  have g0 := hG.m0
  have g1 := hG.m1
  have g2 := hG.c0
  have g3 := hG.c1
  have g8 := hG.l
  refine wpAny_call ?_
  k_dflt ktr_enter
  k_steps
  refine Hold.mk ?_
  refine draw_spec (dk := dk) (rest := (Wd, oW) :: (Sc, W.listOf (two alt Rc Ro) k1) :: (Rc, W.listOf rc.toArray k2) :: (Ro, W.listOf ro.toArray k3) :: (WL, W.listOf vl.toArray k4) :: (bl ++ (kl ++ rest))) (by k_asm) (by k_asm) (by k_asm) (News.less (by assumption) (by kcf_all)) (by k_asm) rfl (by ktr_room) (by ktr_units) hD ((a2.app (a1.app a3)).less (fun _ h => h) (by kcf_all)) (by decide) (by decide) ?_
  intro way tway h1 tk1 dk1 F1 N1 hD1 ek1 hw0 hw1
  clear hD
  have hD := hD1
  clear hD1
  replace a1 := a1.keys ek1
  replace a2 := a2.keys ek1
  replace a3 := a3.keys ek1
  replace oD := OwnOff.keys oD ek1
  have hoff : OwnOff (bl ++ (dk1 ++ (kl ++ rest))) [Wd, Sc, Rc, Ro, WL] := OwnOff.app off (OwnOff.app oD (OwnOff.app oK oR))
  replace N1 : News _ _ _ ((Wd, oW) :: (Sc, W.listOf (two alt Rc Ro) k1) :: (Rc, W.listOf rc.toArray k2) :: (Ro, W.listOf ro.toArray k3) :: (WL, W.listOf vl.toArray k4) :: (bl ++ (dk1 ++ (kl ++ rest)))) := News.less N1 (by kcf_all)
  (try dsimp only)
  k_steps
  · clear hoff
    refine Hold.mk ?_
    refine draw_spec (dk := dk1) (rest := (Wd, oW) :: (Sc, W.listOf (two alt Rc Ro) k1) :: (Rc, W.listOf rc.toArray k2) :: (Ro, W.listOf ro.toArray k3) :: (WL, W.listOf vl.toArray k4) :: (bl ++ (kl ++ rest))) (by k_asm) (by k_asm) (by k_asm) (News.less (by assumption) (by kcf_all)) (by k_asm) rfl (by ktr_room) (by ktr_units) hD ((a2.app (a1.app a3)).less (fun _ h => h) (by kcf_all)) (by decide) (by decide) ?_
    intro n tn h2 tk2 dk2 F2 N2 hD2 ek2 hn0 hn1
    clear hD
    have hD := hD2
    clear hD2
    replace a1 := a1.keys ek2
    replace a2 := a2.keys ek2
    replace a3 := a3.keys ek2
    replace oD := OwnOff.keys oD ek2
    have hoff : OwnOff (bl ++ (dk2 ++ (kl ++ rest))) [Wd, Sc, Rc, Ro, WL] := OwnOff.app off (OwnOff.app oD (OwnOff.app oK oR))
    replace N2 : News _ _ _ ((Wd, oW) :: (Sc, W.listOf (two alt Rc Ro) k1) :: (Rc, W.listOf rc.toArray k2) :: (Ro, W.listOf ro.toArray k3) :: (WL, W.listOf vl.toArray k4) :: (bl ++ (dk2 ++ (kl ++ rest)))) := News.less N2 (by kcf_all)
    (try dsimp only)
    k_steps
    refine Hold.mk ?_
    refine push_spec (kl := kl) (rest := (Wd, oW) :: (Sc, W.listOf (two alt Rc Ro) k1) :: (Rc, W.listOf rc.toArray k2) :: (Ro, W.listOf ro.toArray k3) :: (WL, W.listOf vl.toArray k4) :: (bl ++ (dk2 ++ rest))) (by k_asm) (by k_asm) (by k_asm) (News.less (by assumption) (by kcf_all)) (by k_asm) rfl (by ktr_room) (by ktr_units) hK ((a4.app (a1.symm.app a5)).less (fun _ h => h) (by kcf_all)) hG.m0 hG.m1 hG.c0 hG.c1 hn0 hn1 ?_
    intro h3 tk3 kl3 F3 N3 hK3 ek3
    replace a1 := (Apart.keysR a1 ek3)
    replace a4 := (Apart.keys a4 ek3)
    replace a5 := (Apart.keys a5 ek3)
    replace oK := OwnOff.keys oK ek3
    have hoff3 : OwnOff (bl ++ (dk2 ++ (kl3 ++ rest))) [Wd, Sc, Rc, Ro, WL] := OwnOff.app off (OwnOff.app oD (OwnOff.app oK oR))
    replace N3 : News _ _ _ ((Wd, oW) :: (Sc, W.listOf (two alt Rc Ro) k1) :: (Rc, W.listOf rc.toArray k2) :: (Ro, W.listOf ro.toArray k3) :: (WL, W.listOf vl.toArray k4) :: (bl ++ (dk2 ++ (kl3 ++ rest)))) := News.less N3 (by kcf_all)
    (try dsimp only)
    k_steps
    refine Hold.mk ?_
    refine bits_spec (news := (Wd, oW) :: (Sc, W.listOf (two alt Rc Ro) k1) :: (Rc, W.listOf rc.toArray k2) :: (Ro, W.listOf ro.toArray k3) :: (WL, W.listOf vl.toArray k4) :: (bl ++ (dk2 ++ (kl3 ++ rest)))) (by k_asm) (by k_asm) (by k_asm) (News.less (by assumption) (by kcf_all)) (by k_asm) rfl (by ktr_room) (by ktr_units) hn0 hn1 ?_
    intro b h4 tk4 F4 N4 hb4
    have hoff4 : OwnOff ((b, LCg.lst (bitVs n)) :: (bl ++ (dk2 ++ (kl3 ++ rest)))) [Wd, Sc, Rc, Ro, WL] := OwnOff.cons (ne_adr hb4 (by simp)) hoff3
    replace N4 : News _ _ _ ((Wd, oW) :: (Sc, W.listOf (two alt Rc Ro) k1) :: (Rc, W.listOf rc.toArray k2) :: (Ro, W.listOf ro.toArray k3) :: (WL, W.listOf vl.toArray k4) :: ((b, LCg.lst (bitVs n)) :: (bl ++ (dk2 ++ (kl3 ++ rest))))) := News.less N4 (by kcf_all)
    (try dsimp only)
    have hb9 : RowsAre ((b, LCg.lst (bitVs n)) :: bl) [.ref b] [Builtin.bitAnd n 31] := .cons (by rw [bitVs_and hn0 hn1]; exact List.mem_cons_self) .nil
    have hrc' : RowsAre ((b, LCg.lst (bitVs n)) :: bl) rc C := hrc.more (fun _ h => List.mem_cons_of_mem _ h)
    have hro' : RowsAre ((b, LCg.lst (bitVs n)) :: bl) ro O := hro.more (fun _ h => List.mem_cons_of_mem _ h)
    have hG' := good_push hG hn0 hn1
    by_cases hf : (C.length : Int) < most + 1
    · k_steps
      have ab1 : Apart dk2 [(b, LCg.lst (bitVs n))] := Apart.one fun p hp => hb4 p ((show ∀ p ∈ dk2, p ∈ _ by kcf_all) p hp)
      have ab2 : Apart kl3 [(b, LCg.lst (bitVs n))] := Apart.one fun p hp => hb4 p ((show ∀ p ∈ kl3, p ∈ _ by kcf_all) p hp)
      have ab3 : Apart rest [(b, LCg.lst (bitVs n))] := Apart.one fun p hp => hb4 p ((show ∀ p ∈ rest, p ∈ _ by kcf_all) p hp)
      have a2' : Apart dk2 ((Wd, oW) :: (Sc, W.listOf (two alt Rc Ro) k1) :: (Rc, W.listOf rc.toArray k2) :: (Ro, W.listOf ro.toArray k3) :: (WL, W.listOf vl.toArray k4) :: (b, LCg.lst (bitVs n)) :: bl) := (a2.app ab1).less (fun _ h => h) (by kcf_all)
      have a4' : Apart kl3 ((Wd, oW) :: (Sc, W.listOf (two alt Rc Ro) k1) :: (Rc, W.listOf rc.toArray k2) :: (Ro, W.listOf ro.toArray k3) :: (WL, W.listOf vl.toArray k4) :: (b, LCg.lst (bitVs n)) :: bl) := (a4.app ab2).less (fun _ h => h) (by kcf_all)
      have a6' : Apart rest ((Wd, oW) :: (Sc, W.listOf (two alt Rc Ro) k1) :: (Rc, W.listOf rc.toArray k2) :: (Ro, W.listOf ro.toArray k3) :: (WL, W.listOf vl.toArray k4) :: (b, LCg.lst (bitVs n)) :: bl) := (a6.symm.app ab3).less (fun _ h => h) (by kcf_all)
      have off' : OwnOff ((b, LCg.lst (bitVs n)) :: bl) [Wd, Sc, Rc, Ro, WL] := OwnOff.cons (ne_adr hb4 (by simp)) off
      exact hret _ _ dk2 kl3 ((Wd, oW) :: (Sc, W.listOf (two alt Rc Ro) k1) :: (Rc, W.listOf (rc ++ [Value.ref b]).toArray (k2 + 1)) :: (Ro, W.listOf ro.toArray k3) :: (WL, W.listOf vl.toArray k4) :: ((b, LCg.lst (bitVs n)) :: bl)) (pushF most C (Builtin.bitAnd n 31)) O (LV) (by assumption) (News.less (by assumption) (by kcf_all)) hD hK3 (.inl (WorldRep.mk oW Sc Rc Ro WL tsh _ ro _ k1 _ k3 _ ((b, LCg.lst (bitVs n)) :: bl) ⟨by rfl, dis, off', hdict, by rw [pushF_pos hf]; exact RowsAre.append hrc' hb9, hro', hwl⟩)) (hG') a1 (Apart.keysR a2' (by rfl)) a3 (Apart.keysR a4' (by rfl)) a5 (Apart.keysR a6' (by rfl)).symm
    · cases hrc' with
      | nil => exact absurd hG.c0 (by simp)
      | @cons q0 f0 kk0 vs0 fs0 hb0 hr1 => cases hr1 with
        | nil => have := hG.m0; simp at hf; omega
        | @cons q1 f1 kk1 vs1 fs1 hb1 hr2 =>
          have hl2 := hr2.length
          simp only [List.length_cons] at hf hrl g2 g3
          k_steps
          have ab1 : Apart dk2 [(b, LCg.lst (bitVs n))] := Apart.one fun p hp => hb4 p ((show ∀ p ∈ dk2, p ∈ _ by kcf_all) p hp)
          have ab2 : Apart kl3 [(b, LCg.lst (bitVs n))] := Apart.one fun p hp => hb4 p ((show ∀ p ∈ kl3, p ∈ _ by kcf_all) p hp)
          have ab3 : Apart rest [(b, LCg.lst (bitVs n))] := Apart.one fun p hp => hb4 p ((show ∀ p ∈ rest, p ∈ _ by kcf_all) p hp)
          have a2' : Apart dk2 ((Wd, oW) :: (Sc, W.listOf (two alt Rc Ro) k1) :: (Rc, W.listOf (Value.ref q0 :: Value.ref q1 :: vs1).toArray k2) :: (Ro, W.listOf ro.toArray k3) :: (WL, W.listOf vl.toArray k4) :: (b, LCg.lst (bitVs n)) :: bl) := (a2.app ab1).less (fun _ h => h) (by kcf_all)
          have a4' : Apart kl3 ((Wd, oW) :: (Sc, W.listOf (two alt Rc Ro) k1) :: (Rc, W.listOf (Value.ref q0 :: Value.ref q1 :: vs1).toArray k2) :: (Ro, W.listOf ro.toArray k3) :: (WL, W.listOf vl.toArray k4) :: (b, LCg.lst (bitVs n)) :: bl) := (a4.app ab2).less (fun _ h => h) (by kcf_all)
          have a6' : Apart rest ((Wd, oW) :: (Sc, W.listOf (two alt Rc Ro) k1) :: (Rc, W.listOf (Value.ref q0 :: Value.ref q1 :: vs1).toArray k2) :: (Ro, W.listOf ro.toArray k3) :: (WL, W.listOf vl.toArray k4) :: (b, LCg.lst (bitVs n)) :: bl) := (a6.symm.app ab3).less (fun _ h => h) (by kcf_all)
          have off' : OwnOff ((b, LCg.lst (bitVs n)) :: bl) [Wd, Sc, Rc, Ro, WL] := OwnOff.cons (ne_adr hb4 (by simp)) off
          exact hret _ _ dk2 kl3 ((Wd, oW) :: (Sc, W.listOf (two alt Rc Ro) k1) :: (Rc, W.listOf (Value.ref q0 :: (vs1 ++ [Value.ref b])).toArray (k2 + 1 + 1)) :: (Ro, W.listOf ro.toArray k3) :: (WL, W.listOf vl.toArray k4) :: ((b, LCg.lst (bitVs n)) :: bl)) (pushF most (f0 :: f1 :: fs1) (Builtin.bitAnd n 31)) O (LV) (by assumption) (News.less (by assumption) (by kcf_all)) hD hK3 (.inl (WorldRep.mk oW Sc Rc Ro WL tsh _ ro _ k1 _ k3 _ ((b, LCg.lst (bitVs n)) :: bl) ⟨by rfl, dis, off', hdict, by rw [pushF_neg (by simp only [List.length_cons]; omega)]; exact .cons hb0 (RowsAre.append hr2 hb9), hro', hwl⟩)) (hG') a1 (Apart.keysR a2' (by rfl)) a3 (Apart.keysR a4' (by rfl)) a5 (Apart.keysR a6' (by rfl)).symm
  · clear hoff
    refine Hold.mk ?_
    refine draw_spec (dk := dk1) (rest := (Wd, oW) :: (Sc, W.listOf (two alt Rc Ro) k1) :: (Rc, W.listOf rc.toArray k2) :: (Ro, W.listOf ro.toArray k3) :: (WL, W.listOf vl.toArray k4) :: (bl ++ (kl ++ rest))) (by k_asm) (by k_asm) (by k_asm) (News.less (by assumption) (by kcf_all)) (by k_asm) rfl (by ktr_room) (by ktr_units) hD ((a2.app (a1.app a3)).less (fun _ h => h) (by kcf_all)) (by decide) (by decide) ?_
    intro n tn h2 tk2 dk2 F2 N2 hD2 ek2 hn0 hn1
    clear hD
    have hD := hD2
    clear hD2
    replace a1 := a1.keys ek2
    replace a2 := a2.keys ek2
    replace a3 := a3.keys ek2
    replace oD := OwnOff.keys oD ek2
    have hoff : OwnOff (bl ++ (dk2 ++ (kl ++ rest))) [Wd, Sc, Rc, Ro, WL] := OwnOff.app off (OwnOff.app oD (OwnOff.app oK oR))
    replace N2 : News _ _ _ ((Wd, oW) :: (Sc, W.listOf (two alt Rc Ro) k1) :: (Rc, W.listOf rc.toArray k2) :: (Ro, W.listOf ro.toArray k3) :: (WL, W.listOf vl.toArray k4) :: (bl ++ (dk2 ++ (kl ++ rest)))) := News.less N2 (by kcf_all)
    (try dsimp only)
    k_steps
    refine Hold.mk ?_
    refine pop_spec (kl := kl) (rest := (Wd, oW) :: (Sc, W.listOf (two alt Rc Ro) k1) :: (Rc, W.listOf rc.toArray k2) :: (Ro, W.listOf ro.toArray k3) :: (WL, W.listOf vl.toArray k4) :: (bl ++ (dk2 ++ rest))) (by k_asm) (by k_asm) (by k_asm) (News.less (by assumption) (by kcf_all)) (by k_asm) rfl (by ktr_room) (by ktr_units) hK ((a4.app (a1.symm.app a5)).less (fun _ h => h) (by kcf_all)) hG.c0 (by omega) (by omega) (by omega) ?_
    intro h3 tk3 kl3 F3 N3 hK3 ek3
    replace a1 := (Apart.keysR a1 ek3)
    replace a4 := (Apart.keys a4 ek3)
    replace a5 := (Apart.keys a5 ek3)
    replace oK := OwnOff.keys oK ek3
    have hoff3 : OwnOff (bl ++ (dk2 ++ (kl3 ++ rest))) [Wd, Sc, Rc, Ro, WL] := OwnOff.app off (OwnOff.app oD (OwnOff.app oK oR))
    replace N3 : News _ _ _ ((Wd, oW) :: (Sc, W.listOf (two alt Rc Ro) k1) :: (Rc, W.listOf rc.toArray k2) :: (Ro, W.listOf ro.toArray k3) :: (WL, W.listOf vl.toArray k4) :: (bl ++ (dk2 ++ (kl3 ++ rest)))) := News.less N3 (by kcf_all)
    (try dsimp only)
    k_steps
    refine Hold.mk ?_
    (rename IsRange _ _ _ _ _ _ _ _ => hR)
    refine' range_any (σ := List Value × Nat × List (Addr × Obj)) [] (fun i c' => RowsAre c'.2.2 c'.1 (popN i C) ∧ RowsAre c'.2.2 ro O ∧ OwnOff c'.2.2 [Wd, Sc, Rc, Ro, WL] ∧ Apart dk2 c'.2.2 ∧ Apart kl3 c'.2.2 ∧ Apart rest c'.2.2) (fun c' => (Wd, oW) :: (Sc, W.listOf (two alt Rc Ro) k1) :: (Rc, W.listOf c'.1.toArray c'.2.1) :: (Ro, W.listOf ro.toArray k3) :: (WL, W.listOf vl.toArray k4) :: (c'.2.2 ++ (dk2 ++ (kl3 ++ rest)))) (rc, k2, bl) ?hh hR ?hs ?hn ?F ?N ?hJ ?turn ?done
    (case hh => rfl)
    (case hs => exact small_one (by omega) (by omega) (by omega) (by omega))
    (case hn => exact rangeSize_nat _ _)
    (case F => k_asm)
    (case N => k_asm)
    (case hJ => exact ⟨hrc, hro, off, a2.less (fun _ h => h) (by kcf_all), a4.less (fun _ h => h) (by kcf_all), a6.symm.less (fun _ h => h) (by kcf_all)⟩)
    (case turn =>
      intro i c' t' u' h' tk' I oI hi hJ' hI F' N'; (try dsimp only); (try k_fold)
      obtain ⟨vs, k, bb⟩ := c'
      obtain ⟨j1, j2, j3, j4, j5, j6⟩ := hJ'
      dsimp only at j1 j2 j3 j4 j5 j6 N' hI
      have hI2 : @Ne Nat Rc I := hI (Rc, W.listOf vs.toArray k) (by simp)
      have hoff9 : OwnOff (bb ++ (dk2 ++ (kl3 ++ rest))) [Wd, Sc, Rc, Ro, WL] := OwnOff.app j3 (OwnOff.app oD (OwnOff.app oK oR))
      have hb := popN_len g2 (by omega) i
      obtain ⟨P, f, e⟩ := snoc_of hb.1
      rw [e] at j1 hb
      obtain ⟨vp, q, kq, rfl, hvp, hqb⟩ := rows_snoc j1
      have hlp := hvp.length
      simp only [List.length_append, List.length_cons, List.length_nil] at hb
      by_cases h1 : 1 ≤ P.length
      · k_steps
        exact REnd.intro (vp, k + 1, bb) (by assumption) (by assumption) (ne_keys hI (by rfl)) (fun _ h _ => by first | (simp [h]; done) | simp_all) ⟨by rw [popN_more e h1]; exact hvp, j2, j3, j4, j5, j6⟩
      · have : P = [] := List.length_eq_zero_iff.mp (by omega)
        subst this
        cases hvp
        k_steps
        refine Hold.mk ?_
        refine bits_spec (by k_asm) (by k_asm) (by k_asm) (by k_asm) (by k_asm) rfl (by ktr_room) (by ktr_units) (by decide) (by decide) ?_
        intro b h5 tk5 F5 N5 hb5
        have hb6 : @Ne Nat Rc b := hb5 (Rc, _) (List.mem_cons_of_mem _ (List.mem_cons_of_mem _ (List.mem_cons_of_mem _ List.mem_cons_self)))
        have hb7 : @Ne Nat b I := fun e => hb5 (I, oI) List.mem_cons_self e.symm
        (try dsimp only)
        k_steps
        exact REnd.intro ([.ref b], k, (b, LCg.lst (bitVs 0)) :: bb) (by assumption) (News.less (by assumption) (by kcf_all))
          (fun p hp => (show ∀ p ∈ (b, LCg.lst (bitVs 0)) :: (Wd, oW) :: (Sc, W.listOf (two alt Rc Ro) k1) :: (Rc, W.listOf [Value.ref b].toArray k) :: (Ro, W.listOf ro.toArray k3) :: (WL, W.listOf vl.toArray k4) :: (bb ++ (dk2 ++ (kl3 ++ rest))), p.1 ≠ I from List.forall_mem_cons.mpr ⟨hb7, ne_keys hI (by rfl)⟩) p ((by kcf_all : ∀ p ∈ (Wd, oW) :: (Sc, W.listOf (two alt Rc Ro) k1) :: (Rc, W.listOf [Value.ref b].toArray k) :: (Ro, W.listOf ro.toArray k3) :: (WL, W.listOf vl.toArray k4) :: ((b, LCg.lst (bitVs 0)) :: bb ++ (dk2 ++ (kl3 ++ rest))), p ∈ (b, LCg.lst (bitVs 0)) :: (Wd, oW) :: (Sc, W.listOf (two alt Rc Ro) k1) :: (Rc, W.listOf [Value.ref b].toArray k) :: (Ro, W.listOf ro.toArray k3) :: (WL, W.listOf vl.toArray k4) :: (bb ++ (dk2 ++ (kl3 ++ rest)))) p hp))
          (fun _ h _ => by first | (simp [h]; done) | simp_all)
          ⟨by rw [popN_one e]; exact .cons List.mem_cons_self .nil, j2.more (fun _ h => List.mem_cons_of_mem _ h), OwnOff.cons (ne_adr hb5 (by simp)) j3,
           Apart.app (Apart.one fun p hp => hb5 p ((show ∀ p ∈ dk2, p ∈ _ by kcf_all) p hp)) j4, Apart.app (Apart.one fun p hp => hb5 p ((show ∀ p ∈ kl3, p ∈ _ by kcf_all) p hp)) j5, Apart.app (Apart.one fun p hp => hb5 p ((show ∀ p ∈ rest, p ∈ _ by kcf_all) p hp)) j6⟩)
    (case done =>
      intro c' u' h' tk' hJ' F' N'; (try dsimp only); (try k_fold)
      obtain ⟨vs, k, bb⟩ := c'
      obtain ⟨j1, j2, j3, j4, j5, j6⟩ := hJ'
      dsimp only at j1 j2 j3 j4 j5 j6 N'
      rw [Int.sub_zero] at j1
      k_steps
      exact hret _ _ dk2 kl3 ((Wd, oW) :: (Sc, W.listOf (two alt Rc Ro) k1) :: (Rc, W.listOf vs.toArray k) :: (Ro, W.listOf ro.toArray k3) :: (WL, W.listOf vl.toArray k4) :: bb) (popN (n - 2).toNat C) O LV (by assumption) (News.less (by assumption) (by kcf_all)) hD hK3 (.inl (WorldRep.mk oW Sc Rc Ro WL tsh vs ro vl k1 k k3 k4 bb ⟨by rfl, dis, j3, hdict, j1, j2, hwl⟩)) (good_popN _ hG) a1
        (Apart.keysR ((a2.app j4).less (fun _ h => h) (by kcf_all) : Apart dk2 ((Wd, oW) :: (Sc, W.listOf (two alt Rc Ro) k1) :: (Rc, W.listOf rc.toArray k2) :: (Ro, W.listOf ro.toArray k3) :: (WL, W.listOf vl.toArray k4) :: bb)) (by rfl)) a3 (Apart.keysR ((a4.app j5).less (fun _ h => h) (by kcf_all) : Apart kl3 ((Wd, oW) :: (Sc, W.listOf (two alt Rc Ro) k1) :: (Rc, W.listOf rc.toArray k2) :: (Ro, W.listOf ro.toArray k3) :: (WL, W.listOf vl.toArray k4) :: bb)) (by rfl)) a5 (Apart.keysR ((a6.symm.app j6).less (fun _ h => h) (by kcf_all) : Apart rest ((Wd, oW) :: (Sc, W.listOf (two alt Rc Ro) k1) :: (Rc, W.listOf rc.toArray k2) :: (Ro, W.listOf ro.toArray k3) :: (WL, W.listOf vl.toArray k4) :: bb)) (by rfl)).symm)
  · clear hoff
    refine Hold.mk ?_
    refine draw_spec (dk := dk1) (rest := (Wd, oW) :: (Sc, W.listOf (two alt Rc Ro) k1) :: (Rc, W.listOf rc.toArray k2) :: (Ro, W.listOf ro.toArray k3) :: (WL, W.listOf vl.toArray k4) :: (bl ++ (kl ++ rest))) (by k_asm) (by k_asm) (by k_asm) (News.less (by assumption) (by kcf_all)) (by k_asm) rfl (by ktr_room) (by ktr_units) hD ((a2.app (a1.app a3)).less (fun _ h => h) (by kcf_all)) (by decide) (by decide) ?_
    intro n tn h2 tk2 dk2 F2 N2 hD2 ek2 hn0 hn1
    clear hD
    have hD := hD2
    clear hD2
    replace a1 := a1.keys ek2
    replace a2 := a2.keys ek2
    replace a3 := a3.keys ek2
    replace oD := OwnOff.keys oD ek2
    have hoff : OwnOff (bl ++ (dk2 ++ (kl ++ rest))) [Wd, Sc, Rc, Ro, WL] := OwnOff.app off (OwnOff.app oD (OwnOff.app oK oR))
    replace N2 : News _ _ _ ((Wd, oW) :: (Sc, W.listOf (two alt Rc Ro) k1) :: (Rc, W.listOf rc.toArray k2) :: (Ro, W.listOf ro.toArray k3) :: (WL, W.listOf vl.toArray k4) :: (bl ++ (dk2 ++ (kl ++ rest)))) := News.less N2 (by kcf_all)
    (try dsimp only)
    k_steps
    clear hoff
    refine Hold.mk ?_
    refine draw_spec (dk := dk2) (rest := (Wd, oW) :: (Sc, W.listOf (two alt Rc Ro) k1) :: (Rc, W.listOf rc.toArray k2) :: (Ro, W.listOf ro.toArray k3) :: (WL, W.listOf vl.toArray k4) :: (bl ++ (kl ++ rest))) (by k_asm) (by k_asm) (by k_asm) (News.less (by assumption) (by kcf_all)) (by k_asm) rfl (by ktr_room) (by ktr_units) hD ((a2.app (a1.app a3)).less (fun _ h => h) (by kcf_all)) (by decide) (by decide) ?_
    intro how thow h3 tk3 dk3 F3 N3 hD3 ek3 hh0 hh1
    clear hD
    have hD := hD3
    clear hD3
    replace a1 := a1.keys ek3
    replace a2 := a2.keys ek3
    replace a3 := a3.keys ek3
    replace oD := OwnOff.keys oD ek3
    have hoff : OwnOff (bl ++ (dk3 ++ (kl ++ rest))) [Wd, Sc, Rc, Ro, WL] := OwnOff.app off (OwnOff.app oD (OwnOff.app oK oR))
    replace N3 : News _ _ _ ((Wd, oW) :: (Sc, W.listOf (two alt Rc Ro) k1) :: (Rc, W.listOf rc.toArray k2) :: (Ro, W.listOf ro.toArray k3) :: (WL, W.listOf vl.toArray k4) :: (bl ++ (dk3 ++ (kl ++ rest)))) := News.less N3 (by kcf_all)
    (try dsimp only)
    k_steps
    obtain ⟨P, f, rfl⟩ := snoc_of hG.c0
    have hcf := hG.cv f (by simp)
    obtain ⟨vp, q, kq, rfl, hvp, hqb⟩ := rows_snoc hrc
    simp only [List.length_append, List.length_cons, List.length_nil] at g3 hrl
    refine Hold.mk ?_
    refine setf_spec (kl := kl) (rest := (Wd, oW) :: (Sc, W.listOf (two alt Rc Ro) k1) :: (Rc, W.listOf (vp ++ [Value.ref q]).toArray k2) :: (Ro, W.listOf ro.toArray k3) :: (WL, W.listOf vl.toArray k4) :: (bl ++ (dk3 ++ rest))) (by k_asm) (by k_asm) (by k_asm) (News.less (by assumption) (by kcf_all)) (by k_asm) rfl (by ktr_room) (by ktr_units) hK ((a4.app (a1.symm.app a5)).less (fun _ h => h) (by kcf_all)) (by omega) hcf.1 hcf.2 hn0 hn1 hh0 hh1 ?_
    intro h4 tk4 kl4 F4 N4 hK4 ek4
    replace a1 := (Apart.keysR a1 ek4)
    replace a4 := (Apart.keys a4 ek4)
    replace a5 := (Apart.keys a5 ek4)
    replace oK := OwnOff.keys oK ek4
    have hoff4 : OwnOff (bl ++ (dk3 ++ (kl4 ++ rest))) [Wd, Sc, Rc, Ro, WL] := OwnOff.app off (OwnOff.app oD (OwnOff.app oK oR))
    replace N4 : News _ _ _ ((Wd, oW) :: (Sc, W.listOf (two alt Rc Ro) k1) :: (Rc, W.listOf (vp ++ [Value.ref q]).toArray k2) :: (Ro, W.listOf ro.toArray k3) :: (WL, W.listOf vl.toArray k4) :: (bl ++ (dk3 ++ (kl4 ++ rest)))) := News.less N4 (by kcf_all)
    (try dsimp only)
    k_steps
    refine Hold.mk ?_
    refine bits_spec (news := (Wd, oW) :: (Sc, W.listOf (two alt Rc Ro) k1) :: (Rc, W.listOf (vp ++ [Value.ref q]).toArray k2) :: (Ro, W.listOf ro.toArray k3) :: (WL, W.listOf vl.toArray k4) :: (bl ++ (dk3 ++ (kl4 ++ rest)))) (by k_asm) (by k_asm) (by k_asm) (News.less (by assumption) (by kcf_all)) (by k_asm) rfl (by ktr_room) (by ktr_units) hn0 hn1 ?_
    intro b h5 tk5 F5 N5 hb5
    (try dsimp only)
    k_steps
    refine Hold.mk ?_
    refine changed_spec (b := q) (q := b) (f := f) (n := n) (kb := kq) (news := (b, LCg.lst (bitVs n)) :: (Wd, oW) :: (Sc, W.listOf (two alt Rc Ro) k1) :: (Rc, W.listOf (vp ++ [Value.ref q]).toArray k2) :: (Ro, W.listOf ro.toArray k3) :: (WL, W.listOf vl.toArray k4) :: (bl ++ (dk3 ++ (kl4 ++ rest)))) (by k_asm) (by k_asm) (by k_asm) (News.less (by assumption) (by kcf_all)) (by k_asm) rfl (by ktr_room) (by ktr_units) ((show ∀ p ∈ bl, p ∈ _ by kcf_all) _ hqb) List.mem_cons_self hcf.1 hcf.2 hn0 hn1 hh0 hh1 ?_
    intro r kr h6 tk6 nx F6 N6 hx6 hr6
    have hx7 : ∀ p ∈ nx, ∀ q' ∈ (Wd, oW) :: (Sc, W.listOf (two alt Rc Ro) k1) :: (Rc, W.listOf (vp ++ [Value.ref q]).toArray k2) :: (Ro, W.listOf ro.toArray k3) :: (WL, W.listOf vl.toArray k4) :: (bl ++ (dk3 ++ (kl4 ++ rest))), q'.1 ≠ p.1 := fun p hp q' hq' => hx6 p hp q' (List.mem_cons_of_mem _ hq')
    clear hx6
    have hoff6 : OwnOff (nx ++ (bl ++ (dk3 ++ (kl4 ++ rest)))) [Wd, Sc, Rc, Ro, WL] := OwnOff.app (nx_off hx7 (by simp)) hoff4
    replace N6 : News _ _ _ ((Wd, oW) :: (Sc, W.listOf (two alt Rc Ro) k1) :: (Rc, W.listOf (vp ++ [Value.ref q]).toArray k2) :: (Ro, W.listOf ro.toArray k3) :: (WL, W.listOf vl.toArray k4) :: (nx ++ (bl ++ (dk3 ++ (kl4 ++ rest))))) := News.less N6 (by kcf_all)
    have hr7 : (r, W.listOf (bitVs (setF how f n)).toArray kr) ∈ nx ++ bl := hr6.elim (fun h => List.mem_append_left _ h) (fun h => List.mem_append_right _ (h ▸ hqb))
    have hrc6 : RowsAre (nx ++ bl) (vp ++ [.ref r]) (P ++ [setF how f n]) := RowsAre.append (hvp.more (fun _ h => List.mem_append_right _ h)) (.cons hr7 .nil)
    have hro6 : RowsAre (nx ++ bl) ro O := hro.more (fun _ h => List.mem_append_right _ h)
    (try dsimp only)
    k_steps
    have ab1 : Apart dk3 nx := fun p hp q hq => hx7 q hq p ((show ∀ p ∈ dk3, p ∈ _ by kcf_all) p hp)
    have ab2 : Apart kl4 nx := fun p hp q hq => hx7 q hq p ((show ∀ p ∈ kl4, p ∈ _ by kcf_all) p hp)
    have ab3 : Apart rest nx := fun p hp q hq => hx7 q hq p ((show ∀ p ∈ rest, p ∈ _ by kcf_all) p hp)
    have a2' : Apart dk3 ((Wd, oW) :: (Sc, W.listOf (two alt Rc Ro) k1) :: (Rc, W.listOf (vp ++ [Value.ref q]).toArray k2) :: (Ro, W.listOf ro.toArray k3) :: (WL, W.listOf vl.toArray k4) :: (nx ++ bl)) := (a2.app ab1).less (fun _ h => h) (by kcf_all)
    have a4' : Apart kl4 ((Wd, oW) :: (Sc, W.listOf (two alt Rc Ro) k1) :: (Rc, W.listOf (vp ++ [Value.ref q]).toArray k2) :: (Ro, W.listOf ro.toArray k3) :: (WL, W.listOf vl.toArray k4) :: (nx ++ bl)) := (a4.app ab2).less (fun _ h => h) (by kcf_all)
    have a6' : Apart rest ((Wd, oW) :: (Sc, W.listOf (two alt Rc Ro) k1) :: (Rc, W.listOf (vp ++ [Value.ref q]).toArray k2) :: (Ro, W.listOf ro.toArray k3) :: (WL, W.listOf vl.toArray k4) :: (nx ++ bl)) := (a6.symm.app ab3).less (fun _ h => h) (by kcf_all)
    have off' : OwnOff (nx ++ bl) [Wd, Sc, Rc, Ro, WL] := OwnOff.app (nx_off hx7 (by simp)) off
    exact hret _ _ dk3 kl4 ((Wd, oW) :: (Sc, W.listOf (two alt Rc Ro) k1) :: (Rc, W.listOf (vp ++ [Value.ref r]).toArray k2) :: (Ro, W.listOf ro.toArray k3) :: (WL, W.listOf vl.toArray k4) :: (nx ++ bl)) (P ++ [setF how f n]) O (LV) (by assumption) (News.less (by assumption) (by kcf_all)) hD hK4 (.inl (WorldRep.mk oW Sc Rc Ro WL tsh _ ro _ k1 _ k3 _ (nx ++ bl) ⟨by rfl, dis, off', hdict, hrc6, hro6, hwl⟩)) (good_setF hG hn0 hn1 hh0 hh1) a1 (Apart.keysR a2' (by rfl)) a3 (Apart.keysR a4' (by rfl)) a5 (Apart.keysR a6' (by rfl)).symm
  · clear hoff
    refine Hold.mk ?_
    refine draw_spec (dk := dk1) (rest := (Wd, oW) :: (Sc, W.listOf (two alt Rc Ro) k1) :: (Rc, W.listOf rc.toArray k2) :: (Ro, W.listOf ro.toArray k3) :: (WL, W.listOf vl.toArray k4) :: (bl ++ (kl ++ rest))) (by k_asm) (by k_asm) (by k_asm) (News.less (by assumption) (by kcf_all)) (by k_asm) rfl (by ktr_room) (by ktr_units) hD ((a2.app (a1.app a3)).less (fun _ h => h) (by kcf_all)) (by decide) (by decide) ?_
    intro n tn h2 tk2 dk2 F2 N2 hD2 ek2 hn0 hn1
    clear hD
    have hD := hD2
    clear hD2
    replace a1 := a1.keys ek2
    replace a2 := a2.keys ek2
    replace a3 := a3.keys ek2
    replace oD := OwnOff.keys oD ek2
    have hoff : OwnOff (bl ++ (dk2 ++ (kl ++ rest))) [Wd, Sc, Rc, Ro, WL] := OwnOff.app off (OwnOff.app oD (OwnOff.app oK oR))
    replace N2 : News _ _ _ ((Wd, oW) :: (Sc, W.listOf (two alt Rc Ro) k1) :: (Rc, W.listOf rc.toArray k2) :: (Ro, W.listOf ro.toArray k3) :: (WL, W.listOf vl.toArray k4) :: (bl ++ (dk2 ++ (kl ++ rest)))) := News.less N2 (by kcf_all)
    (try dsimp only)
    k_steps
    clear hoff
    refine Hold.mk ?_
    refine draw_spec (dk := dk2) (rest := (Wd, oW) :: (Sc, W.listOf (two alt Rc Ro) k1) :: (Rc, W.listOf rc.toArray k2) :: (Ro, W.listOf ro.toArray k3) :: (WL, W.listOf vl.toArray k4) :: (bl ++ (kl ++ rest))) (by k_asm) (by k_asm) (by k_asm) (News.less (by assumption) (by kcf_all)) (by k_asm) rfl (by ktr_room) (by ktr_units) hD ((a2.app (a1.app a3)).less (fun _ h => h) (by kcf_all)) (by decide) (by decide) ?_
    intro lv tlv h3 tk3 dk3 F3 N3 hD3 ek3 hl0 hl1
    clear hD
    have hD := hD3
    clear hD3
    replace a1 := a1.keys ek3
    replace a2 := a2.keys ek3
    replace a3 := a3.keys ek3
    replace oD := OwnOff.keys oD ek3
    have hoff : OwnOff (bl ++ (dk3 ++ (kl ++ rest))) [Wd, Sc, Rc, Ro, WL] := OwnOff.app off (OwnOff.app oD (OwnOff.app oK oR))
    replace N3 : News _ _ _ ((Wd, oW) :: (Sc, W.listOf (two alt Rc Ro) k1) :: (Rc, W.listOf rc.toArray k2) :: (Ro, W.listOf ro.toArray k3) :: (WL, W.listOf vl.toArray k4) :: (bl ++ (dk3 ++ (kl ++ rest)))) := News.less N3 (by kcf_all)
    (try dsimp only)
    k_steps
    refine Hold.mk ?_
    refine setl_spec (kl := kl) (rest := (Wd, oW) :: (Sc, W.listOf (two alt Rc Ro) k1) :: (Rc, W.listOf rc.toArray k2) :: (Ro, W.listOf ro.toArray k3) :: (WL, W.listOf vl.toArray k4) :: (bl ++ (dk3 ++ rest))) (by k_asm) (by k_asm) (by k_asm) (News.less (by assumption) (by kcf_all)) (by k_asm) rfl (by ktr_room) (by ktr_units) hK ((a4.app (a1.symm.app a5)).less (fun _ h => h) (by kcf_all)) hG.l (by omega) (by omega) (by omega) (by omega) ?_
    intro h4 tk4 kl4 F4 N4 hK4 ek4
    replace a1 := (Apart.keysR a1 ek4)
    replace a4 := (Apart.keys a4 ek4)
    replace a5 := (Apart.keys a5 ek4)
    replace oK := OwnOff.keys oK ek4
    have hoff4 : OwnOff (bl ++ (dk3 ++ (kl4 ++ rest))) [Wd, Sc, Rc, Ro, WL] := OwnOff.app off (OwnOff.app oD (OwnOff.app oK oR))
    replace N4 : News _ _ _ ((Wd, oW) :: (Sc, W.listOf (two alt Rc Ro) k1) :: (Rc, W.listOf rc.toArray k2) :: (Ro, W.listOf ro.toArray k3) :: (WL, W.listOf vl.toArray k4) :: (bl ++ (dk3 ++ (kl4 ++ rest)))) := News.less N4 (by kcf_all)
    (try dsimp only)
    k_steps
    · rename IntsAre (List.set _ _ _) _ => hi9
      have hi8 := setL_ints hi9 (by assumption) (by assumption) (median (by assumption) (by assumption))
      have a2' := a2
      have a4' := a4
      have a6' := a6.symm
      have off' := off
      exact hret _ _ dk3 kl4 ((Wd, oW) :: (Sc, W.listOf (two alt Rc Ro) k1) :: (Rc, W.listOf rc.toArray k2) :: (Ro, W.listOf ro.toArray k3) :: (WL, _) :: (bl)) (C) O (setL LV (n - 2) (lv - 2)) (by assumption) (News.less (by assumption) (by kcf_all)) hD hK4 (.inl (WorldRep.mk oW Sc Rc Ro WL tsh _ ro _ k1 _ k3 _ (bl) ⟨by rfl, dis, off', hdict, hrc, hro, hi8⟩)) (good_setL hG) a1 (Apart.keysR a2' (by rfl)) a3 (Apart.keysR a4' (by rfl)) a5 (Apart.keysR a6' (by rfl)).symm
    · have hw8 : IntsAre vl (setL LV (n - 2) (lv - 2)) := by rw [setL_out (by omega)]; exact hwl
      have a2' := a2
      have a4' := a4
      have a6' := a6.symm
      have off' := off
      exact hret _ _ dk3 kl4 ((Wd, oW) :: (Sc, W.listOf (two alt Rc Ro) k1) :: (Rc, W.listOf rc.toArray k2) :: (Ro, W.listOf ro.toArray k3) :: (WL, W.listOf vl.toArray k4) :: (bl)) (C) O (setL LV (n - 2) (lv - 2)) (by assumption) (News.less (by assumption) (by kcf_all)) hD hK4 (.inl (WorldRep.mk oW Sc Rc Ro WL tsh _ ro _ k1 _ k3 _ (bl) ⟨by rfl, dis, off', hdict, hrc, hro, hw8⟩)) (good_setL hG) a1 (Apart.keysR a2' (by rfl)) a3 (Apart.keysR a4' (by rfl)) a5 (Apart.keysR a6' (by rfl)).symm
    · have hw8 : IntsAre vl (setL LV (n - 2) (lv - 2)) := by rw [setL_out (by omega)]; exact hwl
      have a2' := a2
      have a4' := a4
      have a6' := a6.symm
      have off' := off
      exact hret _ _ dk3 kl4 ((Wd, oW) :: (Sc, W.listOf (two alt Rc Ro) k1) :: (Rc, W.listOf rc.toArray k2) :: (Ro, W.listOf ro.toArray k3) :: (WL, W.listOf vl.toArray k4) :: (bl)) (C) O (setL LV (n - 2) (lv - 2)) (by assumption) (News.less (by assumption) (by kcf_all)) hD hK4 (.inl (WorldRep.mk oW Sc Rc Ro WL tsh _ ro _ k1 _ k3 _ (bl) ⟨by rfl, dis, off', hdict, hrc, hro, hw8⟩)) (good_setL hG) a1 (Apart.keysR a2' (by rfl)) a3 (Apart.keysR a4' (by rfl)) a5 (Apart.keysR a6' (by rfl)).symm
  · rename Obj.IsDictOf _ _ _ => hd8
    rw [shI_not] at hd8
    rename News _ _ _ _ => hN8
    rw [two_not alt] at hN8
    have off' : OwnOff bl [Wd, Sc, Ro, Rc, WL] := fun p hp b hb => off p hp b (by simp only [List.mem_cons, List.not_mem_nil, or_false] at hb ⊢; rcases hb with h | h | h | h | h <;> simp [h])
    have a2' : Apart dk1 ((Wd, oW) :: (Sc, W.listOf (two (!alt) Ro Rc) k1) :: (Ro, W.listOf ro.toArray k3) :: (Rc, W.listOf rc.toArray k2) :: (WL, W.listOf vl.toArray k4) :: bl) := (Apart.keysR a2 (by rfl) : Apart dk1 ((Wd, oW) :: (Sc, W.listOf (two (!alt) Ro Rc) k1) :: (Rc, W.listOf rc.toArray k2) :: (Ro, W.listOf ro.toArray k3) :: (WL, W.listOf vl.toArray k4) :: bl)).less (fun _ h => h) (by kcf_all)
    have a4' : Apart kl ((Wd, oW) :: (Sc, W.listOf (two (!alt) Ro Rc) k1) :: (Ro, W.listOf ro.toArray k3) :: (Rc, W.listOf rc.toArray k2) :: (WL, W.listOf vl.toArray k4) :: bl) := (Apart.keysR a4 (by rfl) : Apart kl ((Wd, oW) :: (Sc, W.listOf (two (!alt) Ro Rc) k1) :: (Rc, W.listOf rc.toArray k2) :: (Ro, W.listOf ro.toArray k3) :: (WL, W.listOf vl.toArray k4) :: bl)).less (fun _ h => h) (by kcf_all)
    have a6' : Apart rest ((Wd, oW) :: (Sc, W.listOf (two (!alt) Ro Rc) k1) :: (Ro, W.listOf ro.toArray k3) :: (Rc, W.listOf rc.toArray k2) :: (WL, W.listOf vl.toArray k4) :: bl) := (Apart.keysR a6.symm (by rfl) : Apart rest ((Wd, oW) :: (Sc, W.listOf (two (!alt) Ro Rc) k1) :: (Rc, W.listOf rc.toArray k2) :: (Ro, W.listOf ro.toArray k3) :: (WL, W.listOf vl.toArray k4) :: bl)).less (fun _ h => h) (by kcf_all)
    exact hret _ _ dk1 kl ((Wd, _) :: (Sc, W.listOf (two (!alt) Ro Rc) k1) :: (Ro, W.listOf ro.toArray k3) :: (Rc, W.listOf rc.toArray k2) :: (WL, W.listOf vl.toArray k4) :: bl) C O LV (by assumption) (News.less hN8 (by kcf_all)) hD hK (.inr (WorldRep.mk _ Sc Ro Rc WL _ ro rc vl k1 k3 k2 k4 bl ⟨by rfl, by repeat' (first | exact True.intro | refine And.intro ?_ ?_ | k_ne), off', hd8, hro, hrc, hwl⟩)) hG a1 (Apart.keysR a2' (by rfl)) a3 (Apart.keysR a4' (by rfl)) a5 (Apart.keysR a6' (by rfl)).symm
  · refine Hold.mk ?_
    refine reset_spec (kl := kl) (rest := (Wd, oW) :: (Sc, W.listOf (two alt Rc Ro) k1) :: (Rc, W.listOf rc.toArray k2) :: (Ro, W.listOf ro.toArray k3) :: (WL, W.listOf vl.toArray k4) :: (bl ++ (dk1 ++ rest))) (by k_asm) (by k_asm) (by k_asm) (News.less (by assumption) (by kcf_all)) (by k_asm) rfl (by ktr_room) (by ktr_units) hK ((a4.app (a1.symm.app a5)).less (fun _ h => h) (by kcf_all)) ?_
    intro h3 tk3 kl3 F3 N3 hK3 ap3
    clear a1 a4 a5 oK
    have a1 : Apart dk1 kl3 := ap3.symm.less (by kcf_all) (fun _ h => h)
    have a4 : Apart kl3 ((Wd, oW) :: (Sc, W.listOf (two alt Rc Ro) k1) :: (Rc, W.listOf rc.toArray k2) :: (Ro, W.listOf ro.toArray k3) :: (WL, W.listOf vl.toArray k4) :: bl) := ap3.less (fun _ h => h) (by kcf_all)
    have a5 : Apart kl3 rest := ap3.less (fun _ h => h) (by kcf_all)
    have oK : OwnOff kl3 [Wd, Sc, Rc, Ro, WL] := a4.symm.off (by simp)
    have hoff3 : OwnOff (bl ++ (dk1 ++ (kl3 ++ rest))) [Wd, Sc, Rc, Ro, WL] := OwnOff.app off (OwnOff.app oD (OwnOff.app oK oR))
    replace N3 : News _ _ _ ((Wd, oW) :: (Sc, W.listOf (two alt Rc Ro) k1) :: (Rc, W.listOf rc.toArray k2) :: (Ro, W.listOf ro.toArray k3) :: (WL, W.listOf vl.toArray k4) :: (bl ++ (dk1 ++ (kl3 ++ rest)))) := News.less N3 (by kcf_all)
    (try dsimp only)
    k_steps
    refine Hold.mk ?_
    refine bits_spec (news := (Wd, oW) :: (Sc, W.listOf (two alt Rc Ro) k1) :: (Rc, W.listOf rc.toArray k2) :: (Ro, W.listOf ro.toArray k3) :: (WL, W.listOf vl.toArray k4) :: (bl ++ (dk1 ++ (kl3 ++ rest)))) (by k_asm) (by k_asm) (by k_asm) (News.less (by assumption) (by kcf_all)) (by k_asm) rfl (by ktr_room) (by ktr_units) (by decide) (by decide) ?_
    intro b h4 tk4 F4 N4 hb4
    have ew : @Ne Nat Wd b := hb4 (Wd, oW) (by simp)
    (try dsimp only)
    k_steps
    refine Hold.mk ?_
    refine bits_spec (by k_asm) (by k_asm) (by k_asm) (by k_asm) (by k_asm) rfl (by ktr_room) (by ktr_units) (by decide) (by decide) ?_
    intro b2 h5 tk5 F5 N5 hb5
    have ew2 : @Ne Nat Wd b2 := hb5 (Wd, oW) (by simp)
    have e02 : @Ne Nat _ b2 := hb5 _ List.mem_cons_self
    dsimp only at e02
    (try dsimp only)
    k_steps
    obtain ⟨wl', hW', hN', q1, q2, q3⟩ := wreset_end (alt := alt) (tsh := tsh) (dk := dk1) (kl := kl3) (rest := rest) (by assumption) (by assumption) (by assumption) (by assumption) (by assumption) (by assumption) (by assumption) (fun p hp => hb4 p ((show ∀ p ∈ bl ++ (dk1 ++ (kl3 ++ rest)), p ∈ _ by kcf_all) p hp)) (fun p hp => hb5 p ((show ∀ p ∈ bl ++ (dk1 ++ (kl3 ++ rest)), p ∈ _ by kcf_all) p hp)) ew ew2 e02 (OwnOff.ne oD (by simp)) (OwnOff.ne oK (by simp)) (OwnOff.ne oR (by simp)) (by kcf_all) (by kcf_all) (by kcf_all)
    exact hret _ _ dk1 kl3 wl' [0] [0] _ (by assumption) hN' hD hK3 (.inl hW') (good_reset hG) a1 q1 a3 q2 a5 q3
end
end
end
section
local macro_rules | `(tactic| walk_at "pyIter ref") => `(tactic| (k_here; k_dflt (refine hold_range (by k_asm) ?_); refine Hold.out ?_))
section
theorem valueAt_cons {K : Type} [DecidableEq K] (p : K × Value) (r : List (K × Value)) (k : K) : valueAt (p :: r) k = if p.1 = k then some p.2 else valueAt r k := by
  unfold valueAt
  rw [List.find?_cons]
  by_cases h : p.1 = k
  · simp [h]
  · simp [h]
theorem valueAt_stored {K : Type} [DecidableEq K] (kvs : List (K × Value)) (k s : K) (v : Value) : valueAt (stored kvs k v) s = if s = k then some v else valueAt kvs s := by
  unfold stored
  by_cases h : (kvs.any fun kv => decide (kv.1 = k)) = true
  · rw [if_pos h]
    induction kvs with
    | nil => simp at h
    | cons p r ih =>
      rw [List.map_cons, valueAt_cons, valueAt_cons]
      by_cases hp : p.1 = k
      · rw [if_pos hp]
        dsimp only
        by_cases hs : s = k
        · subst hs; rw [if_pos hp]; simp
        · have hps : ¬ p.1 = s := fun e => hs (e.symm.trans hp)
          rw [if_neg hps, if_neg hps, if_neg hs]
          by_cases hr : (r.any fun kv => decide (kv.1 = k)) = true
          · rw [ih hr, if_neg hs]
          · rw [map_store_of_not_mem r k v (fun hm => hr (by obtain ⟨q, hq, e⟩ := List.mem_map.mp hm; exact List.any_eq_true.mpr ⟨q, hq, decide_eq_true e⟩))]
      · rw [if_neg hp]
        have hr : (r.any fun kv => decide (kv.1 = k)) = true := by simpa [List.any_cons, hp] using h
        rw [ih hr]
        by_cases h1 : p.1 = s
        · rw [if_pos h1, if_pos h1, if_neg (fun e => hp (h1.trans e))]
        · rw [if_neg h1, if_neg h1]
  · rw [if_neg h]
    induction kvs with
    | nil => rw [List.nil_append, valueAt_cons]; by_cases hs : s = k
             · subst hs; simp
             · rw [if_neg (fun e => hs e.symm), if_neg hs]
    | cons p r ih =>
      have hp : p.1 ≠ k := fun e => h (by simp [List.any_cons, e])
      have hr : ¬ (r.any fun kv => decide (kv.1 = k)) = true := fun e => h (by rw [List.any_cons, e, Bool.or_true])
      rw [List.cons_append, valueAt_cons, valueAt_cons, ih hr]
      by_cases h1 : p.1 = s
      · rw [if_pos h1, if_pos h1, if_neg (fun e => hp (h1.trans e))]
      · rw [if_neg h1, if_neg h1]
theorem valueAt_mem {K : Type} [DecidableEq K] {kvs : List (K × Value)} {k : K} {v : Value} (h : valueAt kvs k = some v) : (k, v) ∈ kvs := by
  induction kvs with
  | nil => simp [valueAt] at h
  | cons p r ih =>
    rw [valueAt_cons] at h
    by_cases hp : p.1 = k
    · rw [if_pos hp] at h; cases h; subst hp; exact List.mem_cons_self
    · rw [if_neg hp] at h; exact List.mem_cons_of_mem _ (ih h)
theorem valueAt_there {K : Type} [DecidableEq K] {kvs : List (K × Value)} {k : K} (h : k ∈ kvs.map (·.1)) : ∃ v, valueAt kvs k = some v := by
  induction kvs with
  | nil => simp at h
  | cons p r ih =>
    rw [valueAt_cons]
    by_cases hp : p.1 = k
    · exact ⟨_, if_pos hp⟩
    · rw [if_neg hp]
      exact ih (by rcases List.mem_cons.mp h with e | e
                   · exact absurd e.symm hp
                   · exact e)
def Bools (kvs : List (Str × Value)) : Prop := ∀ p ∈ kvs, ∃ b, p.2 = .bool b
theorem mem_stored {K : Type} [DecidableEq K] {kvs : List (K × Value)} {k : K} {v : Value} {p : K × Value} (h : p ∈ stored kvs k v) : p.2 = v ∨ p ∈ kvs := by
  unfold stored at h
  by_cases hh : (kvs.any fun kv => decide (kv.1 = k)) = true
  · rw [if_pos hh] at h
    obtain ⟨q, hq, e⟩ := List.mem_map.mp h
    by_cases hk : q.1 = k
    · rw [if_pos hk] at e; exact .inl (by rw [← e])
    · rw [if_neg hk] at e; exact .inr (e ▸ hq)
  · rw [if_neg hh] at h
    rcases List.mem_append.mp h with e | e
    · exact .inr e
    · exact .inl (by rw [List.mem_singleton.mp e])
structure DRep (w : World) (d : Addr) (o : Obj) (n : Nat) (f : Str → Bool) : Prop where
  lo : (d == sysModules) = false
  ex : ∃ kvs, o.IsDictOf (PySem.strKind PySem.Challenge.rw_og0233_01.row.prog w) kvs ∧ kvs.length ≤ n ∧ Bools kvs ∧ ∀ s, valueAt kvs s = some (.bool true) ↔ f s = true
def upd (f : Str → Bool) (k : Str) (b : Bool) : Str → Bool := fun s => if s = k then b else f s
theorem DRep.put {w : World} {d : Addr} {o' : Obj} {n : Nat} {f : Str → Bool} {kvs : List (Str × Value)} {k : Str} {b : Bool} (lo : (d == sysModules) = false) (hl : kvs.length ≤ n) (hb : Bools kvs) (hf : ∀ s, valueAt kvs s = some (.bool true) ↔ f s = true)
    (hd : o'.IsDictOf (PySem.strKind PySem.Challenge.rw_og0233_01.row.prog w) (stored kvs k (.bool b))) : DRep w d o' (n + 1) (upd f k b) := by
  refine ⟨lo, _, hd, Nat.le_trans (stored_length_le _ _ _) (Nat.succ_le_succ hl), fun p hp => ?_, fun s => ?_⟩
  · rcases mem_stored hp with e | e
    · exact ⟨b, e⟩
    · exact hb p e
  · rw [valueAt_stored]
    unfold upd
    by_cases hs : s = k
    · rw [if_pos hs, if_pos hs]; cases b <;> simp
    · rw [if_neg hs, if_neg hs]; exact hf s
theorem DRep.le {w : World} {d : Addr} {o : Obj} {n n' : Nat} {f : Str → Bool} (D : DRep w d o n f) (h : n ≤ n') : DRep w d o n' f := let ⟨kvs, a, b, c, e⟩ := D.ex; ⟨D.lo, kvs, a, Nat.le_trans b h, c, e⟩
theorem DRep.eq {w : World} {d : Addr} {o : Obj} {n : Nat} {f g : Str → Bool} (D : DRep w d o n f) (h : ∀ s, f s = g s) : DRep w d o n g := let ⟨kvs, a, b, c, e⟩ := D.ex; ⟨D.lo, kvs, a, b, c, fun s => by rw [← h s]; exact e s⟩
theorem DRep.of {w : World} {d : Addr} {o : Obj} {ks : List Str} (lo : (d == sysModules) = false) (hd : o.IsDictOf (PySem.strKind PySem.Challenge.rw_og0233_01.row.prog w) (ks.map fun k => (k, .bool true))) : DRep w d o ks.length (fun s => decide (s ∈ ks)) := by
  refine ⟨lo, _, hd, by simp, fun p hp => ?_, fun s => ?_⟩
  · obtain ⟨k, _, rfl⟩ := List.mem_map.mp hp; exact ⟨true, rfl⟩
  · rw [decide_eq_true_iff]
    clear hd
    induction ks with
    | nil => simp [valueAt]
    | cons k r ih =>
      rw [List.map_cons, valueAt_cons]
      by_cases hk : k = s
      · rw [if_pos hk]; subst hk; simp
      · rw [if_neg hk, ih]; simp [Ne.symm hk]
section
variable {w : World} {A : Around} {E : Value → Shared → Prop} {s : Shared} {h₀ : Heap} {L d : Addr} {m : Str → Option Value} {news : List (Addr × Obj)} {g : Obj → List (Addr × Obj)} {o : Obj} {n : Nat} {f : Str → Bool} {k : Str} {t : Tok} {b : Bool}
theorem drep_set {Q : Unit → Shared → Prop} (F : Fr h₀ L s.heap m) (N : News h₀ L s.heap news) (U : UpdF d o news g) (D : DRep w d o n f) (hn : n ≤ 1000)
    (h : ∀ h' o', Fr h₀ L h' m → News h₀ L h' (g o') → DRep w d o' (n + 1) (upd f k b) → Q () { s with heap := h', toks := s.toks + 1 }) : wpAny (model PySem.Challenge.rw_og0233_01.row.prog w) A (setItem (.ref d) (.str k t) (.bool b)) Q E s := by
  obtain ⟨kvs, hd, hl, hb, hf⟩ := D.ex
  exact kda_set F N U hd (strKind_is _ _ _ _) (by rw [sizeLine_eq]; omega) fun h' o' F' N' hd' => h h' o' F' N' (DRep.put D.lo hl hb hf hd')
theorem dict_item {kvs : List (Str × Value)} {value slice : PySem.Expr} {Q : Value → Shared → Prop} (N : News h₀ L s.heap news) (hp : (d, o) ∈ news) (hd : o.IsDictOf (PySem.strKind PySem.Challenge.rw_og0233_01.row.prog w) kvs) (hb : Bools kvs) (hm : k ∈ kvs.map (·.1))
    (h : ∀ b, valueAt kvs k = some (.bool b) → Q (.bool b) { s with toks := s.toks + 1 })
    (hs : subscripted slice false (.ref d) (.str k t) = operate [.ref d, (.str k t)] (getItem (.ref d) (.str k t)) := by with_unfolding_all rfl) :
    wpAny (model PySem.Challenge.rw_og0233_01.row.prog w) A (subscriptTail value slice (.ref d) (.str k t)) Q E s := by
  obtain ⟨v, hv⟩ := valueAt_there hm
  obtain ⟨b, rfl⟩ := hb _ (valueAt_mem hv)
  have hD := kda_dict N hp hd
  exact tail_any hD.typeIs slot_dict_getitem.lookup (wpAny_getItem_of (strKind_is _ _ _ _) hD.mapOf hv (h b hv)) hs
end
theorem strs_of {w : World} : ∀ {ks : List Str} {vs : List Value}, vs.length = ks.length → (∀ (j : Nat) (v : Value), vs[j]? = some v → ∃ k, ks[j]? = some k ∧ (PySem.strKind PySem.Challenge.rw_og0233_01.row.prog w).is k v = true) → StrsAre vs ks
  | [], [], _, _ => .nil
  | [], v :: r, h, _ => by simp at h
  | k :: ks, [], h, _ => by simp at h
  | k :: ks, v :: r, h, hv => by
    obtain ⟨k', e, hk⟩ := hv 0 v rfl
    cases e
    obtain ⟨t, rfl⟩ := PySem.Value.isStrOf_shape hk
    exact .cons k t (strs_of (by simpa using h) fun j u hu => hv (j + 1) u hu)
section
variable {w : World} {A : Around} {E : Value → Shared → Prop} {s : Shared} {h₀ : Heap} {L d D : Addr} {m : Str → Option Value} {news : List (Addr × Obj)} {o : Obj}
theorem sort_new {vs : List Value} {ss : List Str} {Q : Value → Shared → Prop} (F : Fr h₀ L s.heap m) (N : News h₀ L s.heap ((D, W.listOf vs.toArray 0) :: news)) (hlt : ∀ q ∈ news, q.1 < D) (hS : StrsAre vs ss) (h64 : vs.length < 64)
    (h : ∀ h' vs' ss' e, Fr h₀ L h' m → News h₀ L h' ((D, W.listOf vs'.toArray e) :: news) → StrsAre vs' ss' → ss'.Perm ss → sortedS ss' = true → Q .none { s with heap := h' }) :
    wpAny (model PySem.Challenge.rw_og0233_01.row.prog w) A (call (.builtin "list.sort") [.ref D]) Q E s := by
  have hD := N _ List.mem_cons_self
  have ho : s.heap.get? D = some (seqObj "list" vs.toArray 0) := hD.1
  refine wpAny_call_entry slot_list_sort ⟨_, ho, rfl⟩ entry_list_sort (list_sort_treeK PyProof.Rows.strKind_oneLt ho hS.keysOf (fun v₁ v₂ rest e => keyKind_strs (by rw [← e]; exact hS)) h64 fun st' hp hs => ⟨_, rfl, ?_⟩) (args_list_sort _)
  obtain ⟨ss', h1, h2, h3⟩ := sorted_out_str hS hp hs
  obtain ⟨e, he⟩ := sortedHeap_at (out := (arrOf st').map (·.2)) ho
  have old : ∀ b x, b ≠ D → s.heap.get? b = some x → (sortedHeap s.heap D vs ((arrOf st').map (·.2))).get? b = some x := fun b x hb hx => (sortedHeap_old hb (Heap.lt_size hx)).trans hx
  refine h _ ((arrOf st').map (·.2)).toList ss' e ⟨F.ns.at' fun o hx => old _ _ (Ne.symm hD.2.1) hx, fun b x hx => old b x (fun e => by rw [e, hD.2.2] at hx; cases hx) (F.keep b x hx), F.above⟩ (fun p hp => ?_) h1 h2 h3
  rcases List.mem_cons.mp hp with rfl | hp
  · exact ⟨by rw [Array.toArray_toList]; exact he, hD.2⟩
  · have hq := N p (List.mem_cons_of_mem _ hp)
    exact ⟨old _ _ (Nat.ne_of_lt (hlt p hp)) hq.1, hq.2⟩
theorem sorted_dict {kvs : List (Str × Value)} {Q : Value → Shared → Prop} (hh : A.handled = none) (F : Fr h₀ L s.heap m) (N : News h₀ L s.heap news) (hp : (d, o) ∈ news) (hd : o.IsDictOf (PySem.strKind PySem.Challenge.rw_og0233_01.row.prog w) kvs) (lo : (d == sysModules) = false) (hn : kvs.length < 64)
    (h : ∀ (D : Addr) h' tk vs' ss' e, Fr h₀ L h' m → News h₀ L h' ((D, W.listOf vs'.toArray e) :: news) → (∀ q ∈ news, q.1 < D) → StrsAre vs' ss' → ss'.Perm (kvs.map (·.1)) → sortedS ss' = true → Q (.ref D) { s with heap := h', toks := tk }) :
    wpAny (model PySem.Challenge.rw_og0233_01.row.prog w) A (call (.builtin "sorted") [.ref d]) Q E s := by
  obtain ⟨ep, ha⟩ := KdkAt.of hd
  refine kdu_sorted (kdl_dict (knd := PySem.strKind PySem.Challenge.rw_og0233_01.row.prog w) (kvs := kvs) (ep := ep) lo) hh F N (ha.dictAt (N _ hp).1) (by rw [sizeLine_eq]; omega) fun D h' tk vs F' N' l1 hl hv => ?_
  have hS : StrsAre vs (kvs.map (·.1)) := strs_of (by rw [hl, List.length_map]) fun j v e => by
    obtain ⟨k, x, hx, hk⟩ := hv j v e
    exact ⟨k, by rw [List.getElem?_map, hx]; rfl, hk⟩
  exact sort_new F' N' l1 hS (by omega) fun h'' vs' ss' e F'' N'' a1 a2 a3 => h D h'' tk vs' ss' e F'' N'' l1 a1 a2 a3
end
end
section
abbrev modesDict (w : World) (t1 t2 : Tok) (S K : Addr) : List DictEntry :=
  [⟨PyData.keyHash w.params (Str.ofString "states"), .str (Str.ofString "states") t1, .ref S⟩, ⟨PyData.keyHash w.params (Str.ofString "kept"), .str (Str.ofString "kept") t2, .ref K⟩]
structure MAt (w : World) (ml : List (Addr × Obj)) (x : Addr) (n : Nat) (f : Str → Bool) (dm S K : Addr) (oS : Obj) (t1 t2 : Tok) : Prop where
  led : ml = [(x, instObj 64 dm), (dm, dictOf (modesDict w t1 t2 S K) 2), (S, oS)]
  dis : Dis [x, dm, S]
  rep : DRep w S oS n f
def MRep (w : World) (ml : List (Addr × Obj)) (x : Addr) (n : Nat) (f : Str → Bool) : Prop := ∃ dm S K oS t1 t2, MAt w ml x n f dm S K oS t1 t2
theorem in_base {prog : Program} {w : World} {A : Around} {E : Value → Shared → Prop} {s : Shared} {h₀ : Heap} {L : Addr} {m : Str → Option Value} {K : Frag} {ax : Addr} {lo : Obj} {vs : List Value} {n : Nat} {ys : List Str} {k : Str} {t : Tok} {b : Bool} {Q : Value → Shared → Prop}
   (F : Fr h₀ L s.heap m) (X₀ : K.In h₀) (hk : K.lookup ax = some lo) (hc : lo.cls = .type "tuple") (hd : lo.data = .seq vs.toArray n) (hi : StrsAre vs ys) (hb : ys.any (· == k) = b) (h : Q (.bool b) s) :
   wpAny (model prog w) A (compareOp .In (.str k t) (.ref ax)) Q E s :=
  in_tuple_strs (items := vs.toArray) ⟨lo, F.keep _ _ (X₀ _ _ hk), hc, n, hd⟩ hi (by rw [hb]; exact h)
theorem in_base4 {prog : Program} {w : World} {A : Around} {E : Value → Shared → Prop} {s : Shared} {h₀ : Heap} {L : Addr} {m : Str → Option Value} {K : Frag} {ax : Addr} {lo : Obj} {n : Nat} {a b c d : Str} {ta tb tc td : Tok} {k : Str} {t : Tok} {v : Bool} {Q : Value → Shared → Prop}
   (F : Fr h₀ L s.heap m) (X₀ : K.In h₀) (hk : K.lookup ax = some lo) (hc : lo.cls = .type "tuple") (hd : lo.data = .seq #[.str a ta, .str b tb, .str c tc, .str d td] n) (hb : [a, b, c, d].any (· == k) = v) (h : Q (.bool v) s) :
   wpAny (model prog w) A (compareOp .In (.str k t) (.ref ax)) Q E s := in_base (vs := [.str a ta, .str b tb, .str c tc, .str d td]) F X₀ hk hc hd (.cons _ _ (.cons _ _ (.cons _ _ (.cons _ _ .nil)))) hb h
theorem in_base5 {prog : Program} {w : World} {A : Around} {E : Value → Shared → Prop} {s : Shared} {h₀ : Heap} {L : Addr} {m : Str → Option Value} {K : Frag} {ax : Addr} {lo : Obj} {n : Nat} {a b c d e : Str} {ta tb tc td te : Tok} {k : Str} {t : Tok} {v : Bool} {Q : Value → Shared → Prop}
   (F : Fr h₀ L s.heap m) (X₀ : K.In h₀) (hk : K.lookup ax = some lo) (hc : lo.cls = .type "tuple") (hd : lo.data = .seq #[.str a ta, .str b tb, .str c tc, .str d td, .str e te] n) (hb : [a, b, c, d, e].any (· == k) = v) (h : Q (.bool v) s) :
   wpAny (model prog w) A (compareOp .In (.str k t) (.ref ax)) Q E s := in_base (vs := [.str a ta, .str b tb, .str c tc, .str d td, .str e te]) F X₀ hk hc hd (.cons _ _ (.cons _ _ (.cons _ _ (.cons _ _ (.cons _ _ .nil))))) hb h
theorem in_base2 {prog : Program} {w : World} {A : Around} {E : Value → Shared → Prop} {s : Shared} {h₀ : Heap} {L : Addr} {m : Str → Option Value} {K : Frag} {ax : Addr} {lo : Obj} {n : Nat} {a b : Str} {ta tb : Tok} {k : Str} {t : Tok} {v : Bool} {Q : Value → Shared → Prop}
   (F : Fr h₀ L s.heap m) (X₀ : K.In h₀) (hk : K.lookup ax = some lo) (hc : lo.cls = .type "tuple") (hd : lo.data = .seq #[.str a ta, .str b tb] n) (hb : [a, b].any (· == k) = v) (h : Q (.bool v) s) :
   wpAny (model prog w) A (compareOp .In (.str k t) (.ref ax)) Q E s := in_base (vs := [.str a ta, .str b tb]) F X₀ hk hc hd (.cons _ _ (.cons _ _ .nil)) hb h
local macro_rules | `(tactic| walk_at "compareOp In str ref") => `(tactic| (k_here; k_dflt (first | (refine' in_base4 ?F ?X ?k ?c ?d ?b ?_; (case F => k_asm); (case X => k_asm); (case k => k_is); (case c => exact rfl); (case d => exact rfl); (case b => first | with_reducible assumption | decide)) | (refine' in_base5 ?F ?X ?k ?c ?d ?b ?_; (case F => k_asm); (case X => k_asm); (case k => k_is); (case c => exact rfl); (case d => exact rfl); (case b => first | with_reducible assumption | decide)) | (refine' in_base2 ?F ?X ?k ?c ?d ?b ?_; (case F => k_asm); (case X => k_asm); (case k => k_is); (case c => exact rfl); (case d => exact rfl); (case b => first | with_reducible assumption | decide)))))
local macro_rules | `(tactic| walk_at "exec For Name Call cons nil") => `(tactic| (k_here; (rename Fr _ _ _ _ => lF'); (with_unfolding_all refine' For_turns lF' ?_ ?ks); (case ks => (intro _; with_unfolding_all rfl)); k_whole))
local macro_rules | `(tactic| walk_at "UnrEndW") => `(tactic| ((rename Fr _ _ _ _ => kF'); (rename News _ _ _ _ => kN'); (refine' unr_end _ kF' kN' (fun p hp q hq => by rw [List.mem_singleton.mp hq]; exact AllLt.ne (by assumption) p hp) ⟨trivial, ?_⟩)))
local macro_rules | `(tactic| walk_at "setItem ref str") => `(tactic| (k_here; k_dflt (refine' drep_set ?F ?N ?U ?D ?n ?_; (case F => k_asm); (case N => k_asm); (case U => k_updF); (case D => assumption); (case n => omega)); (intro h' o' F' N' D'; (try dsimp only at N'))))
abbrev MM : List Str := [Str.ofString "mouse_x10", Str.ofString "mouse_click", Str.ofString "mouse_drag", Str.ofString "mouse_all"]
abbrev ME : List Str := [Str.ofString "mouse_utf8", Str.ofString "mouse_sgr", Str.ofString "mouse_urxvt", Str.ofString "mouse_pixels"]
theorem set_plain {w : World} {mean : ExcName → Option Value} {mg mb : Str → Option Value} {dp un : Nat} {gd : Option (List Code)} {cn : Str} {cs : Scope} {a : Addr} {ccd : Value} {cl : List (Str × Addr)} {outer : List Env} {A₀ : Around} {base h₀ : Heap} {L : Addr} {m : Str → Option Value} {s : Shared} {Q E : Value → Shared → Prop}
   {ml rest : List (Addr × Obj)} {x : Addr} {n : Nat} {f : Str → Bool} {k : Str} {t : Tok} {b : Bool}
   (B : Below A₀ base outer h₀) (F : Fr h₀ L s.heap m) (X : (hd.heap_1 w.params).In h₀) (N : News h₀ L s.heap (ml ++ rest)) (T : Top vw (looseW vw [Str.ofString "KeyLevels"]) mean mg mb h₀) (hk : cs.kind = .function) (hdp : dp ≤ 340) (hun : un ≤ 2000) (hM : MRep w ml x n f) (hap : Apart ml rest) (hn : n ≤ 900) (hg1 : MM.any (· == k) = false) (hg2 : ME.any (· == k) = false)
   (hret : ∀ h' tk' ml', Fr h₀ L h' m → News h₀ L h' (ml' ++ rest) → MRep w ml' x (n + 1) (upd f k b) → ml'.map (·.1) = ml.map (·.1) → Q .none { s with heap := h', toks := tk' }) :
   wpAny (model PySem.Challenge.rw_og0233_01.row.prog w) (ktrTop dp un gd cn cs L a ccd cl outer) (call (.ref 61) [.ref x, .str k t, .bool b]) Q E s := by
  (revert X; k_fill; intro X)
  obtain ⟨dm, S, K, oS, t1, t2, rfl, dis, D⟩ := hM
  have hoff : OwnOff rest [x, dm, S] := hap.off (by simp)
  clear hap
  have dis' := dis
  simp only [Dis, NeAll, and_true] at dis
  simp only [List.cons_append, List.nil_append] at N
  obtain ⟨⟨n1, n2⟩, n3⟩ := dis
  dsimp only [MM, ME] at hg1 hg2
  cases b
  · refine wpAny_call ?_
    k_dflt ktr_enter
    k_steps
    exact hret _ _ [(x, _), (dm, _), (S, _)] (by assumption) (by assumption) ⟨dm, S, K, _, t1, t2, ⟨rfl, dis', by assumption⟩⟩ (by rfl)
  · refine wpAny_call ?_
    k_dflt ktr_enter
    k_steps
    refine iter_tupTurns (vs := []) (by rfl) (by k_asm) (by k_asm) List.mem_cons_self rfl rfl ?_
    intro I2 l2
    refine ItemsRest.zero (fun h9 tk9 F9 N9 => ?_)
    (try dsimp only)
    k_steps
    exact hret _ _ [(x, _), (dm, _), (S, _)] (by assumption) (News.less (by assumption) (by kcf_all)) ⟨dm, S, K, _, t1, t2, ⟨rfl, dis', by assumption⟩⟩ (by rfl)
abbrev NoM (f : Str → Bool) : Prop := f (Str.ofString "mouse_utf8") = false ∧ f (Str.ofString "mouse_urxvt") = false ∧ f (Str.ofString "mouse_pixels") = false
theorem upd4 {f : Str → Bool} (h : NoM f) (s : Str) : upd (upd (upd (upd (upd f (Str.ofString "mouse_utf8") false) (Str.ofString "mouse_sgr") false) (Str.ofString "mouse_urxvt") false) (Str.ofString "mouse_pixels") false) (Str.ofString "mouse_sgr") true s = upd f (Str.ofString "mouse_sgr") true s := by
  unfold upd
  by_cases h1 : s = Str.ofString "mouse_sgr"
  · rw [if_pos h1, if_pos h1]
  · rw [if_neg h1, if_neg h1]
    by_cases h2 : s = Str.ofString "mouse_pixels"
    · rw [if_pos h2, h2, h.2.2, if_neg (by decide +kernel)]
    · rw [if_neg h2]
      by_cases h3 : s = Str.ofString "mouse_urxvt"
      · rw [if_pos h3, h3, h.2.1, if_neg (by decide +kernel)]
      · rw [if_neg h3, if_neg h1]
        by_cases h4 : s = Str.ofString "mouse_utf8"
        · rw [if_pos h4, h4, h.1]
        · rw [if_neg h4]
theorem set_sgr {w : World} {mean : ExcName → Option Value} {mg mb : Str → Option Value} {dp un : Nat} {gd : Option (List Code)} {cn : Str} {cs : Scope} {a : Addr} {ccd : Value} {cl : List (Str × Addr)} {outer : List Env} {A₀ : Around} {base h₀ : Heap} {L : Addr} {m : Str → Option Value} {s : Shared} {Q E : Value → Shared → Prop}
   {ml rest : List (Addr × Obj)} {x : Addr} {n : Nat} {f : Str → Bool} {t : Tok} {b : Bool}
   (B : Below A₀ base outer h₀) (F : Fr h₀ L s.heap m) (X : (hd.heap_1 w.params).In h₀) (N : News h₀ L s.heap (ml ++ rest)) (T : Top vw (looseW vw [Str.ofString "KeyLevels"]) mean mg mb h₀) (hk : cs.kind = .function) (hdp : dp ≤ 340) (hun : un ≤ 2000) (hM : MRep w ml x n f) (hap : Apart ml rest) (hn : n ≤ 900) (hno : NoM f)
   (hret : ∀ h' tk' ml', Fr h₀ L h' m → News h₀ L h' (ml' ++ rest) → MRep w ml' x (n + 5) (upd f (Str.ofString "mouse_sgr") b) → ml'.map (·.1) = ml.map (·.1) → Q .none { s with heap := h', toks := tk' }) :
   wpAny (model PySem.Challenge.rw_og0233_01.row.prog w) (ktrTop dp un gd cn cs L a ccd cl outer) (call (.ref 61) [.ref x, .str (Str.ofString "mouse_sgr") t, .bool b]) Q E s := by
  (revert X; k_fill; intro X)
  obtain ⟨dm, S, K, oS, t1, t2, rfl, dis, D⟩ := hM
  have hoff : OwnOff rest [x, dm, S] := hap.off (by simp)
  clear hap
  have dis' := dis
  simp only [Dis, NeAll, and_true] at dis
  simp only [List.cons_append, List.nil_append] at N
  obtain ⟨⟨n1, n2⟩, n3⟩ := dis
  have hg1 : [Str.ofString "mouse_x10", Str.ofString "mouse_click", Str.ofString "mouse_drag", Str.ofString "mouse_all"].any (· == Str.ofString "mouse_sgr") = false := by decide +kernel
  have hg2 : [Str.ofString "mouse_utf8", Str.ofString "mouse_sgr", Str.ofString "mouse_urxvt", Str.ofString "mouse_pixels"].any (· == Str.ofString "mouse_sgr") = true := by decide +kernel
  cases b
  · refine wpAny_call ?_
    k_dflt ktr_enter
    k_steps
    exact hret _ _ [(x, _), (dm, _), (S, _)] (by assumption) (by assumption) ⟨dm, S, K, _, t1, t2, ⟨rfl, dis', DRep.le (by assumption) (by omega)⟩⟩ (by rfl)
  · refine wpAny_call ?_
    k_dflt ktr_enter
    k_steps
    (rename DRep _ _ _ _ _ => DD)
    exact hret _ _ [(x, _), (dm, _), (S, _)] (by assumption) (by assumption) ⟨dm, S, K, _, t1, t2, ⟨rfl, dis', DRep.eq DD (upd4 hno)⟩⟩ (by rfl)
end
section
local macro_rules | `(tactic| walk_at "exec For Name Name cons nil") => `(tactic| (k_here; (rename Fr _ _ _ _ => lF'); (with_unfolding_all refine' For_turnsG lF' ?g ?_; (case g => exact rfl); k_whole)))
local macro_rules | `(tactic| walk_at "UnrEndW") => `(tactic| ((rename Fr _ _ _ _ => kF'); (rename News _ _ _ _ => kN'); (refine' unr_end _ kF' kN' (fun p hp q hq => by rw [List.mem_singleton.mp hq]; exact AllLt.ne (by assumption) p hp) ⟨trivial, ?_⟩)))
abbrev FW : List Str := [Str.ofString "send_receive", Str.ofString "autowrap", Str.ofString "autorepeat", Str.ofString "show_cursor", Str.ofString "num_lock"]
abbrev f0 : Str → Bool := fun s => decide (s ∈ FW)
theorem minit_end {w : World} {h₀ h' : Heap} {L x dm S K : Addr} {t1 t2 : Tok} {oS oK : Obj} {rest : List (Addr × Obj)}
   (N : News h₀ L h' ((K, oK) :: (S, oS) :: (x, instObj 64 dm) :: (dm, dictOf (modesDict w t1 t2 S K) 2) :: rest))
   (hd : oS.IsDictOf (PySem.strKind PySem.Challenge.rw_og0233_01.row.prog w) [(Str.ofString "send_receive", Value.bool true), (Str.ofString "autowrap", Value.bool true), (Str.ofString "autorepeat", Value.bool true), (Str.ofString "show_cursor", Value.bool true), (Str.ofString "num_lock", Value.bool true)])
   (lo : (S == sysModules) = false) (d0 : ∀ p ∈ rest, p.1 < dm) (d1 : @LT.lt Nat _ dm x) (d2 : x < S ∧ dm < S ∧ AllLt S rest) :
   ∃ ml', News h₀ L h' (ml' ++ rest) ∧ MRep w ml' x 5 f0 ∧ Apart ml' rest := by
  have e1 : @LT.lt Nat _ x S := d2.1
  have e2 : @LT.lt Nat _ dm S := d2.2.1
  have D : DRep w S oS 5 f0 := DRep.of (ks := FW) lo hd
  refine ⟨[(x, _), (dm, _), (S, _)], News.less N (by kcf_all), ⟨dm, S, K, oS, t1, t2, ⟨rfl, ?_, D⟩⟩, ap_cons (fun p hp => Nat.ne_of_lt (Nat.lt_trans (d0 p hp) d1)) (ap_cons (fun p hp => Nat.ne_of_lt (d0 p hp)) (ap_cons (AllLt.ne d2.2.2) ap_nil))⟩
  simp only [Dis, NeAll, and_true]; omega
theorem minit_spec {w : World} {mean : ExcName → Option Value} {mg mb : Str → Option Value} {dp un : Nat} {gd : Option (List Code)} {cn : Str} {cs : Scope} {a : Addr} {ccd : Value} {cl : List (Str × Addr)} {outer : List Env} {A₀ : Around} {base h₀ : Heap} {L : Addr} {m : Str → Option Value} {s : Shared} {Q E : Value → Shared → Prop}
   {rest : List (Addr × Obj)}
   (B : Below A₀ base outer h₀) (F : Fr h₀ L s.heap m) (X : (hd.heap_1 w.params).In h₀) (N : News h₀ L s.heap (rest)) (T : Top vw (looseW vw [Str.ofString "KeyLevels"]) mean mg mb h₀) (hk : cs.kind = .function) (hdp : dp ≤ 330) (hun : un ≤ 1000)
   (hret : ∀ x h' tk' ml', Fr h₀ L h' m → News h₀ L h' (ml' ++ rest) → MRep w ml' x 5 f0 → Apart ml' rest → Q (.ref x) { s with heap := h', toks := tk' }) :
   wpAny (model PySem.Challenge.rw_og0233_01.row.prog w) (ktrTop dp un gd cn cs L a ccd cl outer) (call (.ref 64) []) Q E s := by
  (revert X; k_fill; intro X)
  k_steps
  obtain ⟨ml', hN', hM', hA'⟩ := minit_end (rest := rest) (by assumption) (by assumption) (by assumption) (by assumption) (by assumption) (by assumption)
  exact hret _ _ _ ml' (by assumption) hN' hM' hA'
end
section
local macro_rules | `(tactic| walk_at "exec For Name Name cons nil") => `(tactic| (k_here; (rename Fr _ _ _ _ => lF'); (with_unfolding_all refine' For_turnsG lF' ?g ?_; (case g => exact rfl); k_whole)))
local macro_rules | `(tactic| walk_at "pyIter ref") => `(tactic| (k_here; (with_reducible show wpAny _ _ (pyIter (Value.ref _)) (fun it s₂ => TurnsAt _ _ _ _ _ _ _ _ _ it s₂) _ _); refine Hold.out ?_))
local macro_rules | `(tactic| walk_at "compareOp In str ref") => `(tactic| (k_here; k_dflt (refine' in_base5 ?F ?X ?k ?c ?d ?b ?_; (case F => k_asm); (case X => k_asm); (case k => k_is); (case c => exact rfl); (case d => exact rfl); (case b => with_reducible assumption))))
local macro_rules | `(tactic| walk_at "call ref") => `(tactic| (k_here; (with_reducible show wpAny _ _ (call (Value.ref 61) _) _ _ _); refine Hold.out ?_))
local macro_rules | `(tactic| walk_at "UnrEndW") => `(tactic| (refine Hold.out ?_))
theorem ap_it {ml ml' rest : List (Addr × Obj)} {I : Addr} {o : Obj} (hap : Apart ml rest) (e : ml'.map (·.1) = ml.map (·.1)) (lI : ∀ p ∈ ml ++ rest, p.1 < I) : Apart ml' ((I, o) :: rest) := Apart.keys (fun p hp q hq => by
  rcases List.mem_cons.mp hq with rfl | hq
  · exact Nat.ne_of_lt (lI p (List.mem_append_left _ hp))
  · exact hap p hp q hq) e
theorem off_it {ml ml' rest : List (Addr × Obj)} {I : Addr} {o : Obj} (e : ml'.map (·.1) = ml.map (·.1)) (lI : ∀ p ∈ ml ++ rest, p.1 < I) : ∀ p ∈ ml' ++ rest, ∀ q ∈ [(I, o)], p.1 ≠ q.1 := fun p hp q hq => by
  rw [List.mem_singleton.mp hq]
  rcases List.mem_append.mp hp with h | h
  · exact Nat.ne_of_lt (lt_keys (fun p hp => lI p (List.mem_append_left _ hp)) e p h)
  · exact Nat.ne_of_lt (lI p (List.mem_append_right _ h))
abbrev softened (f : Str → Bool) : Str → Bool := upd (upd (upd (upd (upd (upd (upd (upd (upd (upd (f) (Str.ofString "locked") false) (Str.ofString "insert") false) (Str.ofString "origin") false) (Str.ofString "app_cursor") false) (Str.ofString "app_keypad") false) (Str.ofString "side_margins") false) (Str.ofString "autowrap") true) (Str.ofString "reverse_wrap") false) (Str.ofString "reverse_wrap_far") false) (Str.ofString "show_cursor") true
theorem lt_led {ml ml' rest : List (Addr × Obj)} {I : Addr} (e : ml'.map (·.1) = ml.map (·.1)) (lI : ∀ p ∈ ml' ++ rest, p.1 < I) : ∀ p ∈ ml ++ rest, p.1 < I := fun p hp => by
  rcases List.mem_append.mp hp with h | h
  · exact lt_keys (fun p hp => lI p (List.mem_append_left _ hp)) e.symm p h
  · exact lI p (List.mem_append_right _ h)
theorem soften_spec {w : World} {mean : ExcName → Option Value} {mg mb : Str → Option Value} {dp un : Nat} {gd : Option (List Code)} {cn : Str} {cs : Scope} {a : Addr} {ccd : Value} {cl : List (Str × Addr)} {outer : List Env} {A₀ : Around} {base h₀ : Heap} {L : Addr} {m : Str → Option Value} {s : Shared} {Q E : Value → Shared → Prop}
   {ml rest : List (Addr × Obj)} {x : Addr} {n : Nat} {f : Str → Bool}
   (B : Below A₀ base outer h₀) (F : Fr h₀ L s.heap m) (X : (hd.heap_1 w.params).In h₀) (N : News h₀ L s.heap (ml ++ rest)) (T : Top vw (looseW vw [Str.ofString "KeyLevels"]) mean mg mb h₀) (hk : cs.kind = .function) (hdp : dp ≤ 330) (hun : un ≤ 1000) (hM : MRep w ml x n f) (hap : Apart ml rest) (hn : n ≤ 800)
   (hret : ∀ h' tk' ml', Fr h₀ L h' m → News h₀ L h' (ml' ++ rest) → MRep w ml' x (n + 10) (softened f) → ml'.map (·.1) = ml.map (·.1) → Q .none { s with heap := h', toks := tk' }) :
   wpAny (model PySem.Challenge.rw_og0233_01.row.prog w) (ktrTop dp un gd cn cs L a ccd cl outer) (call (.ref 75) [.ref x]) Q E s := by
  have hf_autowrap : [Str.ofString "send_receive", Str.ofString "autowrap", Str.ofString "autorepeat", Str.ofString "show_cursor", Str.ofString "num_lock"].any (· == Str.ofString "autowrap") = true := by decide +kernel
  have hf_reverse_wrap : [Str.ofString "send_receive", Str.ofString "autowrap", Str.ofString "autorepeat", Str.ofString "show_cursor", Str.ofString "num_lock"].any (· == Str.ofString "reverse_wrap") = false := by decide +kernel
  have hf_reverse_wrap_far : [Str.ofString "send_receive", Str.ofString "autowrap", Str.ofString "autorepeat", Str.ofString "show_cursor", Str.ofString "num_lock"].any (· == Str.ofString "reverse_wrap_far") = false := by decide +kernel
  (revert X; k_fill; intro X)
  obtain ⟨ml0, eml⟩ : ∃ ml0, ml0 = ml := ⟨_, rfl⟩
  have M0 : MRep w ml0 x n f := by rw [eml]; exact hM
  have e0 : ml0.map (·.1) = ml.map (·.1) := by rw [eml]
  rw [← eml] at N
  have Mc0 := M0; obtain ⟨dm0, S0, K0, oS0, ta0, tb0, rfl, _, _⟩ := M0
  simp only [List.cons_append, List.nil_append] at N
  refine wpAny_call ?_
  k_dflt ktr_enter
  k_steps
  refine Hold.mk ?_
  refine' iter_tupK ?h ?F ?N ?X ?k ?c ?d ?z ?_; (case h => with_unfolding_all rfl); (case F => k_asm); (case N => k_asm); (case X => k_asm); (case k => k_is); (case c => exact rfl); (case d => exact rfl); (case z => decide)
  intro I0 lI0
  refine ItemsRest.val (fun h9_0 tk9_0 F9_0 => ?_)
  refine AllObj.cons (fun o9_0 hc9_0 => ?_)
  refine AllObj.nil (fun N9_0 => ?_)
  simp only [List.cons_append, List.nil_append] at N9_0
  (try dsimp only)
  k_steps
  refine Hold.mk ?_
  refine' set_plain (rest := (I0, o9_0) :: rest) ?B ?F ?X ?N ?T ?hk ?hdp ?hun Mc0 (ap_it hap e0 (lt_led e0 lI0)) (by omega) ?g1 ?g2 ?_
  (case B => k_asm); (case F => k_asm); (case X => k_asm); (case T => k_asm); (case hdp => ktr_room); (case hun => first | decide | ktr_units)
  (case N => exact News.less (by k_asm) (by kcf_all)); (case hk => rfl); (case g1 => decide +kernel); (case g2 => decide +kernel)
  intro hh0 tt0 ml1 FF0 NN0 M1 e1
  replace e1 := e1.trans e0
  (try dsimp only)
  k_steps
  refine Hold.mk ?_
  (rename Fr _ _ _ _ => kF0); (rename News _ _ _ _ => kN0)
  refine unr_end (ml1 ++ rest) kF0 (News.less kN0 (by kcf_all)) (off_it e1 (lt_led e0 lI0)) ⟨trivial, ?_⟩
  refine ItemsRest.val (fun h9_1 tk9_1 F9_1 => ?_)
  refine AllObj.cons (fun o9_1 hc9_1 => ?_)
  refine AllObj.nil (fun N9_1 => ?_)
  have Mc1 := M1; obtain ⟨dm1, S1, K1, oS1, ta1, tb1, rfl, _, _⟩ := M1
  simp only [List.cons_append, List.nil_append] at N9_1
  (try dsimp only)
  k_steps
  refine Hold.mk ?_
  refine' set_plain (rest := (I0, o9_1) :: rest) ?B ?F ?X ?N ?T ?hk ?hdp ?hun Mc1 (ap_it hap e1 (lt_led e0 lI0)) (by omega) ?g1 ?g2 ?_
  (case B => k_asm); (case F => k_asm); (case X => k_asm); (case T => k_asm); (case hdp => ktr_room); (case hun => first | decide | ktr_units)
  (case N => exact News.less (by k_asm) (by kcf_all)); (case hk => rfl); (case g1 => decide +kernel); (case g2 => decide +kernel)
  intro hh1 tt1 ml2 FF1 NN1 M2 e2
  replace e2 := e2.trans e1
  (try dsimp only)
  k_steps
  refine Hold.mk ?_
  (rename Fr _ _ _ _ => kF1); (rename News _ _ _ _ => kN1)
  refine unr_end (ml2 ++ rest) kF1 (News.less kN1 (by kcf_all)) (off_it e2 (lt_led e0 lI0)) ⟨trivial, ?_⟩
  refine ItemsRest.val (fun h9_2 tk9_2 F9_2 => ?_)
  refine AllObj.cons (fun o9_2 hc9_2 => ?_)
  refine AllObj.nil (fun N9_2 => ?_)
  have Mc2 := M2; obtain ⟨dm2, S2, K2, oS2, ta2, tb2, rfl, _, _⟩ := M2
  simp only [List.cons_append, List.nil_append] at N9_2
  (try dsimp only)
  k_steps
  refine Hold.mk ?_
  refine' set_plain (rest := (I0, o9_2) :: rest) ?B ?F ?X ?N ?T ?hk ?hdp ?hun Mc2 (ap_it hap e2 (lt_led e0 lI0)) (by omega) ?g1 ?g2 ?_
  (case B => k_asm); (case F => k_asm); (case X => k_asm); (case T => k_asm); (case hdp => ktr_room); (case hun => first | decide | ktr_units)
  (case N => exact News.less (by k_asm) (by kcf_all)); (case hk => rfl); (case g1 => decide +kernel); (case g2 => decide +kernel)
  intro hh2 tt2 ml3 FF2 NN2 M3 e3
  replace e3 := e3.trans e2
  (try dsimp only)
  k_steps
  refine Hold.mk ?_
  (rename Fr _ _ _ _ => kF2); (rename News _ _ _ _ => kN2)
  refine unr_end (ml3 ++ rest) kF2 (News.less kN2 (by kcf_all)) (off_it e3 (lt_led e0 lI0)) ⟨trivial, ?_⟩
  refine ItemsRest.val (fun h9_3 tk9_3 F9_3 => ?_)
  refine AllObj.cons (fun o9_3 hc9_3 => ?_)
  refine AllObj.nil (fun N9_3 => ?_)
  have Mc3 := M3; obtain ⟨dm3, S3, K3, oS3, ta3, tb3, rfl, _, _⟩ := M3
  simp only [List.cons_append, List.nil_append] at N9_3
  (try dsimp only)
  k_steps
  refine Hold.mk ?_
  refine' set_plain (rest := (I0, o9_3) :: rest) ?B ?F ?X ?N ?T ?hk ?hdp ?hun Mc3 (ap_it hap e3 (lt_led e0 lI0)) (by omega) ?g1 ?g2 ?_
  (case B => k_asm); (case F => k_asm); (case X => k_asm); (case T => k_asm); (case hdp => ktr_room); (case hun => first | decide | ktr_units)
  (case N => exact News.less (by k_asm) (by kcf_all)); (case hk => rfl); (case g1 => decide +kernel); (case g2 => decide +kernel)
  intro hh3 tt3 ml4 FF3 NN3 M4 e4
  replace e4 := e4.trans e3
  (try dsimp only)
  k_steps
  refine Hold.mk ?_
  (rename Fr _ _ _ _ => kF3); (rename News _ _ _ _ => kN3)
  refine unr_end (ml4 ++ rest) kF3 (News.less kN3 (by kcf_all)) (off_it e4 (lt_led e0 lI0)) ⟨trivial, ?_⟩
  refine ItemsRest.val (fun h9_4 tk9_4 F9_4 => ?_)
  refine AllObj.cons (fun o9_4 hc9_4 => ?_)
  refine AllObj.nil (fun N9_4 => ?_)
  have Mc4 := M4; obtain ⟨dm4, S4, K4, oS4, ta4, tb4, rfl, _, _⟩ := M4
  simp only [List.cons_append, List.nil_append] at N9_4
  (try dsimp only)
  k_steps
  refine Hold.mk ?_
  refine' set_plain (rest := (I0, o9_4) :: rest) ?B ?F ?X ?N ?T ?hk ?hdp ?hun Mc4 (ap_it hap e4 (lt_led e0 lI0)) (by omega) ?g1 ?g2 ?_
  (case B => k_asm); (case F => k_asm); (case X => k_asm); (case T => k_asm); (case hdp => ktr_room); (case hun => first | decide | ktr_units)
  (case N => exact News.less (by k_asm) (by kcf_all)); (case hk => rfl); (case g1 => decide +kernel); (case g2 => decide +kernel)
  intro hh4 tt4 ml5 FF4 NN4 M5 e5
  replace e5 := e5.trans e4
  (try dsimp only)
  k_steps
  refine Hold.mk ?_
  (rename Fr _ _ _ _ => kF4); (rename News _ _ _ _ => kN4)
  refine unr_end (ml5 ++ rest) kF4 (News.less kN4 (by kcf_all)) (off_it e5 (lt_led e0 lI0)) ⟨trivial, ?_⟩
  refine ItemsRest.val (fun h9_5 tk9_5 F9_5 => ?_)
  refine AllObj.cons (fun o9_5 hc9_5 => ?_)
  refine AllObj.nil (fun N9_5 => ?_)
  have Mc5 := M5; obtain ⟨dm5, S5, K5, oS5, ta5, tb5, rfl, _, _⟩ := M5
  simp only [List.cons_append, List.nil_append] at N9_5
  (try dsimp only)
  k_steps
  refine Hold.mk ?_
  refine' set_plain (rest := (I0, o9_5) :: rest) ?B ?F ?X ?N ?T ?hk ?hdp ?hun Mc5 (ap_it hap e5 (lt_led e0 lI0)) (by omega) ?g1 ?g2 ?_
  (case B => k_asm); (case F => k_asm); (case X => k_asm); (case T => k_asm); (case hdp => ktr_room); (case hun => first | decide | ktr_units)
  (case N => exact News.less (by k_asm) (by kcf_all)); (case hk => rfl); (case g1 => decide +kernel); (case g2 => decide +kernel)
  intro hh5 tt5 ml6 FF5 NN5 M6 e6
  replace e6 := e6.trans e5
  (try dsimp only)
  k_steps
  refine Hold.mk ?_
  (rename Fr _ _ _ _ => kF5); (rename News _ _ _ _ => kN5)
  refine unr_end (ml6 ++ rest) kF5 (News.less kN5 (by kcf_all)) (off_it e6 (lt_led e0 lI0)) ⟨trivial, ?_⟩
  refine ItemsRest.zero (fun h8_6 tk8_6 F8_6 N8_6 => ?_)
  have Mc6 := M6; obtain ⟨dm6, S6, K6, oS6, ta6, tb6, rfl, _, _⟩ := M6
  simp only [List.cons_append, List.nil_append] at N8_6
  (try dsimp only)
  k_steps
  refine Hold.mk ?_
  refine' iter_tupK ?h ?F ?N ?X ?k ?c ?d ?z ?_; (case h => with_unfolding_all rfl); (case F => k_asm); (case N => k_asm); (case X => k_asm); (case k => k_is); (case c => exact rfl); (case d => exact rfl); (case z => decide)
  intro I1 lI1
  refine ItemsRest.val (fun h9_6 tk9_6 F9_6 => ?_)
  refine AllObj.cons (fun o9_6 hc9_6 => ?_)
  refine AllObj.nil (fun N9_6 => ?_)
  simp only [List.cons_append, List.nil_append] at N9_6
  (try dsimp only)
  k_steps
  refine Hold.mk ?_
  refine' set_plain (rest := (I1, o9_6) :: rest) ?B ?F ?X ?N ?T ?hk ?hdp ?hun Mc6 (ap_it hap e6 (lt_led e6 lI1)) (by omega) ?g1 ?g2 ?_
  (case B => k_asm); (case F => k_asm); (case X => k_asm); (case T => k_asm); (case hdp => ktr_room); (case hun => first | decide | ktr_units)
  (case N => exact News.less (by k_asm) (by kcf_all)); (case hk => rfl); (case g1 => decide +kernel); (case g2 => decide +kernel)
  intro hh6 tt6 ml7 FF6 NN6 M7 e7
  replace e7 := e7.trans e6
  (try dsimp only)
  k_steps
  refine Hold.mk ?_
  (rename Fr _ _ _ _ => kF6); (rename News _ _ _ _ => kN6)
  refine unr_end (ml7 ++ rest) kF6 (News.less kN6 (by kcf_all)) (off_it e7 (lt_led e6 lI1)) ⟨trivial, ?_⟩
  refine ItemsRest.val (fun h9_7 tk9_7 F9_7 => ?_)
  refine AllObj.cons (fun o9_7 hc9_7 => ?_)
  refine AllObj.nil (fun N9_7 => ?_)
  have Mc7 := M7; obtain ⟨dm7, S7, K7, oS7, ta7, tb7, rfl, _, _⟩ := M7
  simp only [List.cons_append, List.nil_append] at N9_7
  (try dsimp only)
  k_steps
  refine Hold.mk ?_
  refine' set_plain (rest := (I1, o9_7) :: rest) ?B ?F ?X ?N ?T ?hk ?hdp ?hun Mc7 (ap_it hap e7 (lt_led e6 lI1)) (by omega) ?g1 ?g2 ?_
  (case B => k_asm); (case F => k_asm); (case X => k_asm); (case T => k_asm); (case hdp => ktr_room); (case hun => first | decide | ktr_units)
  (case N => exact News.less (by k_asm) (by kcf_all)); (case hk => rfl); (case g1 => decide +kernel); (case g2 => decide +kernel)
  intro hh7 tt7 ml8 FF7 NN7 M8 e8
  replace e8 := e8.trans e7
  (try dsimp only)
  k_steps
  refine Hold.mk ?_
  (rename Fr _ _ _ _ => kF7); (rename News _ _ _ _ => kN7)
  refine unr_end (ml8 ++ rest) kF7 (News.less kN7 (by kcf_all)) (off_it e8 (lt_led e6 lI1)) ⟨trivial, ?_⟩
  refine ItemsRest.val (fun h9_8 tk9_8 F9_8 => ?_)
  refine AllObj.cons (fun o9_8 hc9_8 => ?_)
  refine AllObj.nil (fun N9_8 => ?_)
  have Mc8 := M8; obtain ⟨dm8, S8, K8, oS8, ta8, tb8, rfl, _, _⟩ := M8
  simp only [List.cons_append, List.nil_append] at N9_8
  (try dsimp only)
  k_steps
  refine Hold.mk ?_
  refine' set_plain (rest := (I1, o9_8) :: rest) ?B ?F ?X ?N ?T ?hk ?hdp ?hun Mc8 (ap_it hap e8 (lt_led e6 lI1)) (by omega) ?g1 ?g2 ?_
  (case B => k_asm); (case F => k_asm); (case X => k_asm); (case T => k_asm); (case hdp => ktr_room); (case hun => first | decide | ktr_units)
  (case N => exact News.less (by k_asm) (by kcf_all)); (case hk => rfl); (case g1 => decide +kernel); (case g2 => decide +kernel)
  intro hh8 tt8 ml9 FF8 NN8 M9 e9
  replace e9 := e9.trans e8
  (try dsimp only)
  k_steps
  refine Hold.mk ?_
  (rename Fr _ _ _ _ => kF8); (rename News _ _ _ _ => kN8)
  refine unr_end (ml9 ++ rest) kF8 (News.less kN8 (by kcf_all)) (off_it e9 (lt_led e6 lI1)) ⟨trivial, ?_⟩
  refine ItemsRest.zero (fun h8_9 tk8_9 F8_9 N8_9 => ?_)
  have Mc9 := M9; obtain ⟨dm9, S9, K9, oS9, ta9, tb9, rfl, _, _⟩ := M9
  simp only [List.cons_append, List.nil_append] at N8_9
  (try dsimp only)
  k_steps
  refine Hold.mk ?_
  refine' set_plain (rest := rest) ?B ?F ?X ?N ?T ?hk ?hdp ?hun Mc9 (Apart.keys hap e9) (by omega) ?g1 ?g2 ?_
  (case B => k_asm); (case F => k_asm); (case X => k_asm); (case T => k_asm); (case hdp => ktr_room); (case hun => first | decide | ktr_units)
  (case N => exact News.less (by k_asm) (by kcf_all)); (case hk => rfl); (case g1 => decide +kernel); (case g2 => decide +kernel)
  intro hh9 tt9 ml10 FF9 NN9 M10 e10
  replace e10 := e10.trans e9
  (try dsimp only)
  k_steps
  exact hret _ _ ml10 (by assumption) (by assumption) M10 e10
end
section
theorem risingS_cons {p x : Str} {r : List Str} : risingS p (x :: r) = true ↔ ltCps x.cps.toList p.cps.toList = false ∧ risingS x r = true := by
  show (!ltCps x.cps.toList p.cps.toList && risingS x r) = true ↔ _
  simp
theorem lt_trans' {a b c : Str} (h1 : ltCps b.cps.toList a.cps.toList = false) (h2 : ltCps c.cps.toList b.cps.toList = false) : ltCps c.cps.toList a.cps.toList = false := by
  rw [ltCps_eq] at h1 h2 ⊢
  simp only [decide_eq_false_iff_not, List.not_lt] at h1 h2 ⊢
  exact List.le_trans h1 h2
theorem pair_of_rising : ∀ {l : List Str} {p : Str}, risingS p l = true → (p :: l).Pairwise (fun a b => ltCps b.cps.toList a.cps.toList = false)
  | [], p, _ => List.pairwise_singleton _ _
  | x :: r, p, h => by
    obtain ⟨h1, h2⟩ := risingS_cons.mp h
    have h3 := pair_of_rising h2
    refine List.pairwise_cons.mpr ⟨fun y hy => ?_, h3⟩
    rcases List.mem_cons.mp hy with rfl | hy
    · exact h1
    · exact lt_trans' h1 ((List.pairwise_cons.mp h3).1 y hy)
theorem pair_of_sorted {l : List Str} (h : sortedS l = true) : l.Pairwise (fun a b => ltCps b.cps.toList a.cps.toList = false) := by
  cases l with
  | nil => exact .nil
  | cons p r => exact pair_of_rising h
theorem str_antisymm {a b : Str} (h1 : ltCps b.cps.toList a.cps.toList = false) (h2 : ltCps a.cps.toList b.cps.toList = false) : a = b := by
  rw [ltCps_eq] at h1 h2
  simp only [decide_eq_false_iff_not, List.not_lt] at h1 h2
  have h3 := List.le_antisymm h1 h2
  cases a; cases b
  simpa using h3
def OnList (f : Str → Bool) (l : List Str) : Prop := sortedS l = true ∧ l.Nodup ∧ ∀ s, s ∈ l ↔ f s = true
theorem uniq_pair : ∀ {a b : List Str}, a.Pairwise (fun a b => ltCps b.cps.toList a.cps.toList = false) → b.Pairwise (fun a b => ltCps b.cps.toList a.cps.toList = false) → a.Nodup → b.Nodup → (∀ s, s ∈ a ↔ s ∈ b) → a = b
  | [], [], _, _, _, _, _ => rfl
  | [], y :: b, _, _, _, _, h => absurd ((h y).mpr List.mem_cons_self) (by simp)
  | x :: a, [], _, _, _, _, h => absurd ((h x).mp List.mem_cons_self) (by simp)
  | x :: a, y :: b, pa, pb, na, nb, h => by
    obtain ⟨pa1, pa2⟩ := List.pairwise_cons.mp pa
    obtain ⟨pb1, pb2⟩ := List.pairwise_cons.mp pb
    obtain ⟨na1, na2⟩ := List.nodup_cons.mp na
    obtain ⟨nb1, nb2⟩ := List.nodup_cons.mp nb
    have e : x = y := by
      rcases List.mem_cons.mp ((h x).mp List.mem_cons_self) with e | hx
      · exact e
      · rcases List.mem_cons.mp ((h y).mpr List.mem_cons_self) with e | hy
        · exact e.symm
        · exact str_antisymm (pa1 y hy) (pb1 x hx)
    subst e
    refine congrArg (x :: ·) (uniq_pair pa2 pb2 na2 nb2 fun s => ⟨fun hs => ?_, fun hs => ?_⟩)
    · rcases List.mem_cons.mp ((h s).mp (List.mem_cons_of_mem _ hs)) with e | h1
      · exact absurd (e ▸ hs) na1
      · exact h1
    · rcases List.mem_cons.mp ((h s).mpr (List.mem_cons_of_mem _ hs)) with e | h1
      · exact absurd (e ▸ hs) nb1
      · exact h1
theorem OnList.uniq {f : Str → Bool} {a b : List Str} (ha : OnList f a) (hb : OnList f b) : a = b :=
  uniq_pair (pair_of_sorted ha.1) (pair_of_sorted hb.1) ha.2.1 hb.2.1 fun s => by rw [ha.2.2, hb.2.2]
theorem sorted_sub {a b : List Str} (h : sortedS b = true) (s : a.Sublist b) : sortedS a = true := sortedS_of_pairwise a ((pair_of_sorted h).sublist s)
theorem on_filter {f : Str → Bool} {ks ss : List Str} (hn : ks.Nodup) (hp : ss.Perm ks) (hs : sortedS ss = true) (hm : ∀ s, f s = true → s ∈ ks) : OnList f (ss.filter f) :=
  ⟨sorted_sub hs List.filter_sublist, (hp.nodup_iff.mpr hn).sublist List.filter_sublist, fun s => by
    rw [List.mem_filter]
    exact ⟨fun h => h.2, fun h => ⟨hp.mem_iff.mpr (hm s h), h⟩⟩⟩
theorem on_perm {f : Str → Bool} {ks ss : List Str} (hn : ks.Nodup) (hp : ss.Perm (ks.filter f)) (hs : sortedS ss = true) (hm : ∀ s, f s = true → s ∈ ks) : OnList f ss :=
  ⟨hs, hp.nodup_iff.mpr (hn.sublist List.filter_sublist), fun s => by
    rw [hp.mem_iff, List.mem_filter]
    exact ⟨fun h => h.2, fun h => ⟨hm s h, h⟩⟩⟩
theorem strs_at {vs : List Value} {ss : List Str} (h : StrsAre vs ss) : ∀ {i : Nat} {v : Value}, vs[i]? = some v → ∃ k t, v = .str k t ∧ ss[i]? = some k := by
  induction h with
  | nil => intro i v e; simp at e
  | cons y t r ih =>
    intro i v e
    cases i with
    | zero => simp at e; exact ⟨y, t, e.symm, rfl⟩
    | succ i => exact ih (i := i) (by simpa using e)
theorem StrsAre.append {a b : List Value} {x y : List Str} (h : StrsAre a x) (k : StrsAre b y) : StrsAre (a ++ b) (x ++ y) := by
  induction h with
  | nil => exact k
  | cons s t _ ih => exact .cons s t ih
def FAcc (f : Str → Bool) (ss : List Str) (i : Nat) (ys : List Value) : Prop := StrsAre ys ((ss.take i).filter f)
theorem FAcc.zero {f : Str → Bool} {ss : List Str} : FAcc f ss 0 [] := .nil
theorem FAcc.yes {f : Str → Bool} {ss : List Str} {i : Nat} {ys : List Value} {k : Str} {t : Tok} (h : FAcc f ss i ys) (e : ss[i]? = some k) (hk : f k = true) : FAcc f ss (i + 1) (ys ++ [.str k t]) := by
  unfold FAcc
  rw [List.take_succ, e, List.filter_append]
  refine StrsAre.append h ?_
  simp [hk]
  exact .cons _ _ .nil
theorem FAcc.no {f : Str → Bool} {ss : List Str} {i : Nat} {ys : List Value} {k : Str} (h : FAcc f ss i ys) (e : ss[i]? = some k) (hk : f k = false) : FAcc f ss (i + 1) ys := by
  unfold FAcc at h ⊢
  rw [List.take_succ, e, List.filter_append]
  simpa [hk] using h
theorem FAcc.all {f : Str → Bool} {ss : List Str} {n : Nat} {ys : List Value} (h : FAcc f ss n ys) (e : ss.length = n) : StrsAre ys (ss.filter f) := by
  unfold FAcc at h
  rwa [← e, List.take_length] at h
section
open PyProof.Rows.LCg PyProof.Rows.LCt
variable {prog : Program} {w : World} {A : Around} {E : Value → Shared → Prop} {s : Shared} {h₀ : Heap} {L : Addr} {m : Str → Option Value} {env : Env}
def DSrc (prog : Program) (w : World) (A : Around) (h₀ : Heap) (L : Addr) (m : Str → Option Value) (env : Env) (ct elt : PySem.Expr) (x : Str) (scope : Scope) (cl : List (Str × Addr)) (Fin : Shared → List Value → List (Addr × Obj) → Prop) (xv : Value) (s₁ : Shared) : Prop :=
  ∃ d o kvs news, xv = .ref d ∧ A.handled = none ∧ Fr h₀ L s₁.heap m ∧ News h₀ L s₁.heap news ∧ (d, o) ∈ news ∧ (d == sysModules) = false ∧ o.IsDictOf (PySem.strKind prog w) kvs ∧ kvs.length ≤ 1000 ∧
    ∀ s₂ : Shared, (∃ h, s₂ = { s₁ with heap := h }) → CompRestT prog w A h₀ L m env ct elt x scope cl s₂ (fun nw => (d, o) ∈ nw) (fun i v => ∃ k x, kvs[i]? = some (k, x) ∧ (PySem.strKind prog w).is k v = true) (Fin s₂) kvs.length 0 [] news
theorem DSrc.intro {ct elt : PySem.Expr} {x : Str} {scope : Scope} {cl : List (Str × Addr)} {Fin : Shared → List Value → List (Addr × Obj) → Prop} {s₁ : Shared} {d : Addr} {o : Obj} {kvs : List (Str × Value)} {news : List (Addr × Obj)}
    (hh : A.handled = none) (F : Fr h₀ L s₁.heap m) (N : News h₀ L s₁.heap news) (hp : (d, o) ∈ news) (lo : (d == sysModules) = false) (hd : o.IsDictOf (PySem.strKind prog w) kvs) (hn : kvs.length ≤ 1000)
    (h : ∀ g, CompRestT prog w A h₀ L m env ct elt x scope cl { s₁ with heap := g } (fun nw => (d, o) ∈ nw) (fun i v => ∃ k x, kvs[i]? = some (k, x) ∧ (PySem.strKind prog w).is k v = true) (Fin { s₁ with heap := g }) kvs.length 0 [] news) :
    DSrc prog w A h₀ L m env ct elt x scope cl Fin (.ref d) s₁ := ⟨d, o, kvs, news, rfl, hh, F, N, hp, lo, hd, hn, fun _ ⟨g, e⟩ => e ▸ h g⟩
theorem ListComp_dict {ct elt iter : PySem.Expr} {x : Str} {px : Pos} {scope : Scope} {cl : List (Str × Addr)} {pos : Pos} {Q : Value → Shared → Prop} (F₀ : Fr h₀ L s.heap m)
    (hclos : closureFor scope env = pure cl) (hcell : ∀ y ∈ scope.names, y.2 ≠ .cell) (hkind : scope.kind = .function)
    (hnames : ∀ y ∈ scope.names, y.2 = .local → scope.names.lookup y.1 = some .local) (hx : scope.names.lookup x = some .local)
    (h : wpAny (model prog w) A (eval iter env) (DSrc prog w A h₀ L m env ct elt x scope cl (fun s₂ => FinE h₀ L m s₂ Q)) E s)
    (hs : ∀ x, foldedSetIterable iter env x = pure x := by intro _; rfl) :
    wpAny (model prog w) A (eval (.ListComp elt [⟨.Name x px, iter, [ct], 0⟩] scope pos) env) Q E s := by
  rw [eval_ListComp]
  refine wpAny_comprehension_free (use := none) rfl hs hclos hkind hnames (wpAny_mono h (fun xv s₁ h₁ => ?_) fun _ _ e => e)
  obtain ⟨d, o, kvs, news, rfl, hh, F, N, hp, lo, hd, hn, R⟩ := h₁
  obtain ⟨ep, ha⟩ := KdkAt.of hd
  have hm := ha.dictAt (N _ hp).1
  have hlt : d < s₁.heap.objs.size := hm.lt_size
  refine wpAny_pyIter_dict lo hm ?_
  have up : ∀ b x, s₁.heap.get? b = some x → (s₁.heap.push { cls := .type "dict_keyiterator", data := .fields #[.ref d, .int 0 0, .int kvs.length 0, .int ep 0] }).get? b = some x := fun b o e => Heap.get?_push_of_some _ e
  refine block_T (Walks.dictKeys (knd := PySem.strKind prog w) hh s₁.heap.objs.size d (Nat.ne_of_lt hlt) kvs ep) (by rw [sizeLine_eq]; omega) (fun i h st => by obtain ⟨o, e, _⟩ := st.1; exact ⟨o, e⟩)
    (fun i g g' x nw st e1 e2 _ N' hS => ⟨st.1.at fun o' e => by rw [e1] at e; cases e; exact e2, ha.dictAt (N' _ hS).1⟩) hcell hkind hx ⟨⟨_, Heap.get?_push_size _ rfl, rfl, rfl⟩, hm.push _⟩ (fun b hb => ?_)
    (F.keeps up) (N.grown up) (Nat.ne_of_lt F.ns.lt) (next_is_new F) (fun p hp => Nat.ne_of_lt (Heap.lt_size (N p hp).1)) hp (R _ ⟨_, rfl⟩) ?_
  · show b < (s₁.heap.push _).objs.size
    rw [Heap.size_push]
    rcases List.mem_cons.mp hb with rfl | hb
    · exact Nat.lt_succ_self _
    · rw [List.mem_singleton.mp hb]; exact Nat.lt_succ_of_lt hlt
  · intro D C h tk m' ys news' F' N' o1 hn hC₀ hD₀ hCL hDL hCD offC fin
    refine ⟨m', hn, fun h'' hs'' => fin D h'' tk (F'.change hs'' hCL hC₀) (fun p hp => ?_) o1⟩
    refine ⟨hs''.extBut _ _ ?_ (N' p hp).1, (N' p hp).2⟩
    rcases List.mem_cons.mp hp with rfl | hp
    · exact Ne.symm hCD
    · exact offC p hp
end
theorem eq_strs {prog : Program} {w : World} {A : Around} {E : Value → Shared → Prop} {s : Shared} {l b : Addr} {vs us : List Value} {ss : List Str} {Q : Value → Shared → Prop} (hl : s.heap.IsList l vs.toArray) (hb : s.heap.IsList b us.toArray) (h1 : StrsAre vs ss) (h2 : StrsAre us ss) (hu : A.units < cLine) (h : Q (.bool true) s) :
    wpAny (model prog w) A (compareOp .Eq (.ref l) (.ref b)) Q E s := by
  refine SeqAt.eq_listAt (e := fun _ => true) hl hb ?_ hu (fun j j1 j2 => ?_) ?_
  · rw [List.size_toArray, List.size_toArray, StrsAre.length h1, StrsAre.length h2]
  · have e1 : vs[j]? = some vs.toArray[j] := by simp at j1 ⊢
    have e2 : us[j]? = some us.toArray[j] := by simp at j2 ⊢
    obtain ⟨k, t, a1, a2⟩ := strs_at h1 e1
    obtain ⟨k', u, b1, b2⟩ := strs_at h2 e2
    have : k = k' := by rw [a2] at b2; exact Option.some.inj b2
    subst this
    rw [a1, b1]
    have := (eqGives_str k k t u).at A.in1 s
    rwa [show (k == k) = true by simp] at this
  · rw [show (List.range vs.toArray.size).all (fun _ => true) = true by simp]
    exact h
end
section
local macro_rules | `(tactic| walk_at "eval ListComp") => `(tactic| (k_here; lct_look; lcg_calm; k_dflt (refine LCt.ListComp_T (F₀ := by k_asm) (by with_unfolding_all rfl) (by decide) (by rfl) (by decide) (by rfl) ?_)))
local macro_rules | `(tactic| walk_at "call builtin:sorted") => `(tactic| (k_here; (with_reducible show wpAny _ _ (call (Value.builtin "sorted") [Value.ref _]) _ _ _); refine Hold.out ?_))
local macro_rules | `(tactic| walk_at "CompSrcT") => `(tactic| (k_here; k_dflt (refine LCt.CompSrcT.ledger (by rfl) (by k_asm) (by k_asm) (by k_mem) (by rw [sizeLine_eq]; simp only [List.size_toArray]; omega) ?_; intro g'; refine Hold.out ?_)))
local macro_rules | `(tactic| walk_at "subscriptTail") => `(tactic| (k_here; (with_reducible show wpAny _ _ (subscriptTail _ _ (Value.ref _) (Value.str _ _)) _ _ _); refine Hold.out ?_))
theorem on_end {D D0 L1 x dm S : Addr} {o1 o2 o3 : Obj} {rest : List (Addr × Obj)} (h : D0 ≠ D ∧ L1 ≠ D ∧ x ≠ D ∧ dm ≠ D ∧ S ≠ D ∧ LCg.Off1 D rest) : ∀ p ∈ [(x, o1), (dm, o2), (S, o3)] ++ rest, p.1 ≠ D := fun p hp => by
  obtain ⟨_, _, h1, h2, h3, h4⟩ := h
  simp only [List.cons_append, List.nil_append, List.mem_cons] at hp
  rcases hp with rfl | rfl | rfl | hp
  · exact h1
  · exact h2
  · exact h3
  · exact off1 h4 p hp
theorem on_spec {w : World} {mean : ExcName → Option Value} {mg mb : Str → Option Value} {dp un : Nat} {gd : Option (List Code)} {cn : Str} {cs : Scope} {a : Addr} {ccd : Value} {cl : List (Str × Addr)} {outer : List Env} {A₀ : Around} {base h₀ : Heap} {L : Addr} {m : Str → Option Value} {s : Shared} {Q E : Value → Shared → Prop}
   {ml rest : List (Addr × Obj)} {x : Addr} {n : Nat} {f : Str → Bool}
   (B : Below A₀ base outer h₀) (F : Fr h₀ L s.heap m) (X : (hd.heap_1 w.params).In h₀) (N : News h₀ L s.heap (ml ++ rest)) (T : Top vw (looseW vw [Str.ofString "KeyLevels"]) mean mg mb h₀) (hk : cs.kind = .function) (hdp : dp ≤ 330) (hun : un ≤ 1000) (hM : MRep w ml x n f) (hn : n < 64)
   (hret : ∀ D h' tk' vs ss, Fr h₀ L h' m → News h₀ L h' ((D, LCg.lst vs) :: (ml ++ rest)) → (∀ p ∈ ml ++ rest, p.1 ≠ D) → StrsAre vs ss → OnList f ss → vs.length ≤ n → Q (.ref D) { s with heap := h', toks := tk' }) :
   wpAny (model PySem.Challenge.rw_og0233_01.row.prog w) (ktrTop dp un gd cn cs L a ccd cl outer) (call (.ref 80) [.ref x]) Q E s := by
  (revert X; k_fill; intro X)
  obtain ⟨dm, S, K, oS, t1, t2, rfl, dis, DD⟩ := hM
  obtain ⟨lo, kvs, hd, hl, hb, hf⟩ := DD
  simp only [List.cons_append, List.nil_append] at N
  refine wpAny_call ?_
  k_dflt ktr_enter
  k_steps
  refine Hold.mk ?_
  refine sorted_dict (o := oS) (kvs := kvs) (by rfl) (by k_asm) (by k_asm) (by k_mem) hd lo (by omega) ?_
  intro D0 h1 tk1 vs' ss' e1 F1 N1 l1 hS hP hs
  have hl1 : vs'.length ≤ n := by
    have a := StrsAre.length hS
    have b := hP.length_eq
    rw [List.length_map] at b
    omega
  (try dsimp only)
  k_steps
  refine Hold.mk ?_
  refine compT_acc (FAcc f ss') FAcc.zero ?_ ?_
  · intro i ys v I oI C oC D m₂ h tk E' hi hA hv hC hx F' N' off ne
    obtain ⟨k, t, rfl, ek⟩ := strs_at hS (show vs'[i]? = some v by simpa using hv)
    have hkm : k ∈ kvs.map (·.1) := hP.mem_iff.mp (List.mem_of_getElem? ek)
    (try simp only [LCg.Off3, and_true] at off)
    k_steps
    refine Hold.mk ?_
    refine dict_item (o := oS) (kvs := kvs) (by k_asm) (by k_mem) hd hb hkm ?_
    intro b hv2
    (try dsimp only)
    cases b
    · have hk2 : f k = false := by
        cases h : f k with
        | false => rfl
        | true => have h3 := (hf k).mpr h; rw [h3] at hv2; cases hv2
      k_steps
      exact Hold.mk ⟨rfl, FAcc.no hA ek hk2⟩
    · have hk2 : f k = true := (hf k).mp hv2
      k_steps
      exact Hold.mk ⟨rfl, FAcc.yes hA ek hk2⟩
  · intro ys hA
    have hnd : (kvs.map (·.1)).Nodup := let ⟨_, _, r⟩ := hd; r.2.2.2.2
    have hS2 := FAcc.all hA (by rw [List.size_toArray]; exact (StrsAre.length hS).symm)
    have hl2 : ys.length ≤ n := by
      have a := StrsAre.length hS2
      have b := List.length_filter_le f ss'
      have c := StrsAre.length hS
      omega
    have hO : OnList f (ss'.filter f) := on_filter hnd hP hs fun s h => List.mem_map.mpr ⟨_, valueAt_mem ((hf s).mpr h), rfl⟩
    k_steps
    exact hret _ _ _ ys (ss'.filter f) (by assumption) (News.less (by assumption) (by kcf_all)) (on_end (by assumption)) hS2 hO hl2
end
section
theorem list_no_keys : typeLookup (.type "list") (Str.ofString "keys") = pure none := by rw [typeLookup_type, builtinLookup_eq_fast]; kernel_rfl
section
variable {prog : Program} {w : World} {A : Around} {E : Value → Shared → Prop} {s : Shared}
theorem by_miss_list {a : Addr} {o : Obj} {xs : Array Value} {k : Nat} {u : Tok} {Q : Value → Shared → Prop}
    (hx : s.heap.get? a = some o) (hc : o.cls = .type "list") (hdat : o.data = .seq xs k) (hd : o.dict = none) (hA : A.handled = none)
    (h : ∀ h' tk e, Heap.NewExcOf s.heap h' e "AttributeError" → E (.ref e) { s with heap := h', toks := tk }) :
    wpAny (model prog w) A (getAttrBy (.ref a) (.str (Str.ofString "keys") u) false) Q E s := by
  obtain ⟨c, dct, dat, sl⟩ := o
  simp only at hc hdat hd
  subst hc hdat hd
  obtain ⟨hp, g, d, tk, os⟩ := s
  have hT : ∀ tk', (⟨hp, g, d, tk', os⟩ : Shared).TypeIs (.ref a) "list" := fun _ => ⟨_, hx, rfl⟩
  have f1 := sub_AttributeError
  have f3 := F.slot_list_getattribute.lookup
  have f4 := F.slot_list_getattribute.bind (.ref a)
  have f5 := am_list_getattr_none
  unfold getAttrBy
  repeat (any_goals (first | assumption | exact hT _ | ((with_reducible show wpAny _ _ (call (Value.builtin "list.__getattribute__") _ _) _ _ _); refine call_meets F.slot_list_getattribute (hT _) am_entry_list_getattribute (F.args_list_getattribute_2 _ _) (meets_getattribute_miss_list a xs k sl (Str.ofString "keys") _ list_no_keys (by decide +kernel) (by size_fits)) ⟨hx, hA, fun h' tk' e hx' => ?_⟩) | wp_step))
  obtain ⟨t', u', he⟩ := hx'.there
  show wpAny _ _ (getattributeRaised _ _ _ _ _ _ _) _ _ _
  unfold getattributeRaised
  repeat (any_goals (first | assumption | wp_step))
  exact h _ _ _ hx'.of
theorem no_keys {a : Addr} {o : Obj} {xs : Array Value} {k : Nat} {Q : Option Value → Shared → Prop}
    (hx : s.heap.get? a = some o) (hc : o.cls = .type "list") (hdat : o.data = .seq xs k) (hd : o.dict = none) (hA : A.handled = none)
    (h : ∀ h' tk, (∀ b x, s.heap.get? b = some x → h'.get? b = some x) → Q none { s with heap := h', toks := tk }) :
    wpAny (model prog w) A (getAttr? (.ref a) (Str.ofString "keys")) Q E s := by
  obtain ⟨hp, g, d, tk, os⟩ := s
  have f1 := sub_AttributeError
  unfold getAttr? getAttrBy?
  refine wpAny_bind ?_
  unfold mkText
  refine wpAny_bind (wpAny_fresh ?_)
  refine wpAny_pure ?_
  refine wpAny_bind (wpAny_attempt (by_miss_list hx hc hdat hd hA fun h' tk' e hn => ?_))
  obtain ⟨ob, vs, e1, e2, _⟩ := hn.there
  show wpAny _ _ (isInstance (.ref e) (.type "AttributeError") >>= _) _ _ _
  refine wpAny_bind (wpAny_isInstance ⟨ob, e1, e2⟩ f1 ?_)
  exact wpAny_pure (h h' tk' hn.keeps)
end
theorem ty_ne {a b : String} {C : Prop} (h : Value.type a = Value.type b) (hn : a ≠ b) : C := by injection h with e; exact absurd e hn
theorem entry_dict_loop : entryFor table "dict.update.loop" = some Builtin.«dict.update.loop» := entryFor_of_tree (by kernel_rfl)
theorem plain_dict_loop : plainId "dict.update.loop" = true := by decide +kernel
inductive TupsAre (h : Heap) : List Value → List Str → Prop
  | nil : TupsAre h [] []
  | cons {a : Addr} {k : Str} {t : Tok} {vs : List Value} {ks : List Str} : IsTup h a #[.str k t, .bool true] → TupsAre h vs ks → TupsAre h (.ref a :: vs) (k :: ks)
theorem TupsAre.keep {h h' : Heap} {vs : List Value} {ks : List Str} (T : TupsAre h vs ks) (hk : ∀ a o, o.cls = .type "tuple" → h.get? a = some o → h'.get? a = some o) : TupsAre h' vs ks := by
  induction T with
  | nil => exact .nil
  | cons x _ ih => obtain ⟨o, e1, e2, r⟩ := x; exact .cons ⟨o, hk _ _ e2 e1, e2, r⟩ ih
theorem stored_new {kvs : List (Str × Value)} {k : Str} {v : Value} (h : k ∉ kvs.map (·.1)) : stored kvs k v = kvs ++ [(k, v)] := stored_absent (valueAt_none_of_not_mem h) v
section
variable {w : World} {A : Around} {E : Value → Shared → Prop}
theorem dict_loop {R : Result → Shared → Prop} (hh : A.handled = none) {D l I : Addr} {its : Array Value} :
    ∀ (vs : List Value) (ks : List Str) (i : Nat) (t : Tok) (s : Shared) (done : List (Str × Value)), its.toList.drop i = vs → TupsAre s.heap vs ks → s.heap.DictOf (PySem.strKind PySem.Challenge.rw_og0233_01.row.prog w) D done → s.heap.IsListIter I l i → s.heap.IsList l its →
      (done.map (·.1) ++ ks).Nodup → done.length + ks.length ≤ 1000 →
      (∀ h' tk, h'.DictOf (PySem.strKind PySem.Challenge.rw_og0233_01.row.prog w) D (done ++ ks.map fun k => (k, .bool true)) → (∀ b o, b ≠ D → b ≠ I → s.heap.get? b = some o → h'.get? b = some o) → R (.ok (.ret .none)) { s with heap := h', toks := tk }) →
      codeAny (model PySem.Challenge.rw_og0233_01.row.prog w) A (.builtin "dict.update.loop" ⟨[.ref D, .ref I, .int i t, .none], []⟩) R s := by
  intro vs
  induction vs with
  | nil =>
    intro ks i t s done hv hT hD hI hl hn hz hR
    cases hT
    refine codeAny_builtin entry_dict_loop ?_
    rw [Around.under_plainId plain_dict_loop _]
    show wpAny _ A.in1 (pyNext (.ref I) >>= _) _ _ s
    have hx : its[i]? = none := by
      have := List.drop_eq_nil_iff.mp hv
      simpa using this
    refine wpAny_bind (wpAny_pyNext_list_end (by exact hh) hI hl hx fun h' he => ?_)
    have hDI : D ≠ I := by
      rintro rfl
      obtain ⟨o, e1, e2, _⟩ := hI
      obtain ⟨o', _, _, f1, f2, _⟩ := hD
      rw [e1] at f1; cases f1
      have := f2.1; rw [e2] at this; exact ty_ne this (by decide)
    have hD' := hD.extBut he hDI
    show wpAny _ _ (Builtin.Dict.addKeywords D [] >>= _) _ _ _
    refine wpAny_bind (wpAny_pure ?_)
    refine wpAny_pure ?_
    have := hR h' s.toks (by simpa using hD') fun b o _ hb e => he b o hb e
    exact this
  | cons v vs ih =>
    intro ks i t s done hv hT hD hI hl hn hz hR
    cases hT with
    | @cons a k tk _ ks hta hT =>
    refine codeAny_builtin entry_dict_loop ?_
    rw [Around.under_plainId plain_dict_loop _]
    show wpAny _ A.in1 (pyNext (.ref I) >>= _) _ _ s
    have hx : its[i]? = some (.ref a) := by
      have h1 : its.toList[i]? = some (.ref a) := by
        have := congrArg List.head? hv
        rw [List.head?_drop] at this
        exact this
      simpa using h1
    refine wpAny_bind (wpAny_pyNext_list_item hI hl hx fun h' hI' hs => ?_)
    have hDI : D ≠ I := by
      rintro rfl
      obtain ⟨o, e1, e2, _⟩ := hI
      obtain ⟨o', _, _, f1, f2, _⟩ := hD
      rw [e1] at f1; cases f1
      have := f2.1; rw [e2] at this; exact ty_ne this (by decide)
    have tupI : ∀ b o, o.cls = .type "tuple" → s.heap.get? b = some o → b ≠ I := by
      rintro b o e1 e2 rfl
      obtain ⟨o', f1, f2, _⟩ := hI
      rw [e2] at f1; cases f1; rw [e1] at f2; exact ty_ne f2 (by decide)
    have hlI : l ≠ I := by
      rintro rfl
      obtain ⟨o', f1, f2, _⟩ := hI
      obtain ⟨o, e1, e2, _⟩ := hl
      rw [e1] at f1; cases f1; rw [e2] at f2; exact ty_ne f2 (by decide)
    have hD1 := hD.extBut hs.extBut hDI
    have hl1 : h'.IsList l its := let ⟨o, e1, r⟩ := hl; ⟨o, hs.extBut _ _ hlI e1, r⟩
    have hta1 : IsTup h' a #[.str k tk, .bool true] := let ⟨o, e1, e2, r⟩ := hta; ⟨o, hs.extBut _ _ (tupI _ _ e2 e1) e1, e2, r⟩
    have hT1 : TupsAre h' vs ks := hT.keep fun b o e1 e2 => hs.extBut _ _ (tupI b o e1 e2) e2
    dsimp only
    refine wpAny_bind (wpAny_holding (wpAny_bind (wpAny_tryCatch ?_)))
    unfold Builtin.Dict.pairItems
    obtain ⟨oa, ea, ca, na, da⟩ := id hta1
    refine wpAny_bind (wpAny_typeOf (T := "tuple") ⟨oa, ea, ca⟩ ?_)
    rw [if_pos (by decide)]
    refine wpAny_bind (wpAny_seqItems ea da ?_)
    refine wpAny_pure ?_
    have hkn : k ∉ done.map (·.1) := fun hm => (List.nodup_append.mp hn).2.2 k hm k List.mem_cons_self rfl
    simp only [List.length_cons] at hz
    refine wpAny_holding (wpAny_dictSet_pairs (strKind_is _ _ _ _) hD1 (fun h2 hD2 hs2 => ?_) (by rw [sizeLine_eq]; omega))
    rw [stored_new hkn] at hD2
    have hID : I ≠ D := Ne.symm hDI
    have tupD : ∀ b o, o.cls = .type "tuple" → h'.get? b = some o → b ≠ D := by
      rintro b o e1 e2 rfl
      obtain ⟨o', _, _, f1, f2, _⟩ := hD1
      rw [e2] at f1; cases f1; have := f2.1; rw [e1] at this; exact ty_ne this (by decide)
    have hlD : l ≠ D := by
      rintro rfl
      obtain ⟨o', _, _, f1, f2, _⟩ := hD1
      obtain ⟨o, e1, e2, _⟩ := hl1
      rw [e1] at f1; cases f1; have := f2.1; rw [e2] at this; exact ty_ne this (by decide)
    refine wpAny_pure ⟨plainId_quiet plain_dict_loop _, ?_⟩
    refine ih ks (i + 1) 0 { s with heap := h2, toks := s.toks + 1 } (done ++ [(k, .bool true)]) ?_ (hT1.keep fun b o e1 e2 => hs2.extBut _ _ (tupD b o e1 e2) e2) hD2 ?_ ?_ ?_ ?_ ?_
    · have := congrArg List.tail hv
      rw [List.tail_drop] at this
      exact this
    · obtain ⟨o, e1, r⟩ := hI'
      exact ⟨o, hs2.extBut _ _ hID e1, r⟩
    · obtain ⟨o, e1, r⟩ := hl1
      exact ⟨o, hs2.extBut _ _ hlD e1, r⟩
    · simpa using hn
    · simp only [List.length_append, List.length_cons, List.length_nil]; omega
    · intro h3 tk3 hD3 hk3
      refine hR h3 tk3 (by simpa using hD3) fun b o b1 b2 e => hk3 b o b1 b2 (hs2.extBut _ _ b1 (hs.extBut _ _ b2 e))
end
theorem dict_pairs {w : World} {A : Around} {E : Value → Shared → Prop} {s : Shared} {h₀ : Heap} {L l : Addr} {m : Str → Option Value} {news : List (Addr × Obj)} {its : List Value} {ks : List Str} {c : Nat} {Q : Value → Shared → Prop}
    (hh : A.handled = none) (F : Fr h₀ L s.heap m) (N : News h₀ L s.heap news) (hbig : h₀.NoLimit) (hm : (l, W.listOf its.toArray c) ∈ news) (hT : TupsAre s.heap its ks) (hn : ks.Nodup) (hz : ks.length ≤ 1000)
    (h : ∀ D h' o tk, Fr h₀ L h' m → News h₀ L h' ((D, o) :: news) → (∀ p ∈ news, p.1 < D) → (D == sysModules) = false → o.IsDictOf (PySem.strKind PySem.Challenge.rw_og0233_01.row.prog w) (ks.map fun k => (k, .bool true)) → Q (.ref D) { s with heap := h', toks := tk }) :
    wpAny (model PySem.Challenge.rw_og0233_01.row.prog w) A (call (.type "dict") [.ref l]) Q E s := by
  have hl : s.heap.get? l = some (W.listOf its.toArray c) := (N _ hm).1
  refine callType_codes (Q₁ := fun obj s₁ => obj = .ref s.heap.objs.size ∧ s₁ = { s with heap := s.heap.push { cls := .type "dict", data := .dict #[] } }) PySem.F.kt_called_dict (PySem.F.kt_typeCall_dict_1 _) PySem.F.entry_dict_init (kt_code_dict_new _ ⟨rfl, rfl⟩) ?_
  rintro obj s₁ ⟨rfl, rfl⟩
  have hnew : (s.heap.push { cls := .type "dict", data := .dict #[] }).DictOf (PySem.strKind PySem.Challenge.rw_og0233_01.row.prog w) s.heap.objs.size [] := Heap.DictOf.new s.heap
  have up1 : ∀ b o, s.heap.get? b = some o → (s.heap.push { cls := .type "dict", data := .dict #[] }).get? b = some o := fun b o e => Heap.get?_push_of_some _ e
  refine ⟨hnew.typeIs, PySem.F.args_dict_init_2 _ _, ?_⟩
  unfold Builtin.«dict.__init__»
  refine wpAny_bind ?_
  unfold Builtin.Dict.selfAndRest
  refine wpAny_bind (wpAny_notOrdered_dict hnew.typeIs ?_)
  show wpAny _ _ (pure (s.heap.objs.size, [Value.ref l])) _ _ _
  refine wpAny_pure ?_
  show wpAny _ _ (Builtin.Dict.updateFrom "dict.__init__" s.heap.objs.size (.ref l) [] .none) _ _ _
  unfold Builtin.Dict.updateFrom
  refine wpAny_bind (wpAny_typeOf (T := "list") ⟨_, up1 _ _ hl, rfl⟩ ?_)
  rw [if_pos (by decide)]
  refine wpAny_bind (no_keys (up1 _ _ hl) rfl rfl rfl hh fun h1 tk1 hk1 => ?_)
  simp only [Option.isNone_none, if_true]
  refine wpAny_bind (wpAny_rule ?_)
  have hl1 : h1.IsList l its.toArray := ⟨_, hk1 _ _ (up1 _ _ hl), rfl, _, rfl⟩
  refine wpAny_bind (wpAny_pyIter_list (s := { s with heap := h1, toks := tk1 }) hl1 ?_)
  refine wpAny_pure ⟨plainId_quiet plain_dict_loop _, ?_⟩
  have up2 : ∀ b o, s.heap.get? b = some o → (h1.push { cls := .type "list_iterator", data := .fields #[.ref l, .int 0 0] }).get? b = some o := fun b o e => Heap.get?_push_of_some _ (hk1 _ _ (up1 b o e))
  obtain ⟨o1, hD0, hD1⟩ := Heap.dictOf_iff.mp hnew
  have hD2 : (h1.push { cls := .type "list_iterator", data := .fields #[.ref l, .int 0 0] }).DictOf (PySem.strKind PySem.Challenge.rw_og0233_01.row.prog w) s.heap.objs.size [] := Heap.dictOf_iff.mpr ⟨o1, Heap.get?_push_of_some _ (hk1 _ _ hD0), hD1⟩
  refine dict_loop (by exact hh) its ks 0 0 { s with heap := h1.push { cls := .type "list_iterator", data := .fields #[.ref l, .int 0 0] }, toks := tk1 } [] (by simp) (hT.keep fun a o _ e => up2 a o e) hD2 ⟨_, Heap.get?_push_size _ rfl, rfl, rfl⟩ (hl1.push _) (by simpa using hn) (by simpa using hz) fun h3 tk3 hD3 hk3 => ?_
  obtain ⟨o3, e3, hD3⟩ := Heap.dictOf_iff.mp hD3
  have keep3 : ∀ b o, s.heap.get? b = some o → h3.get? b = some o := fun b o e => hk3 b o (Nat.ne_of_lt (Heap.lt_size e)) (fun hb => by
    have h5 := Heap.lt_size (hk1 _ _ (up1 b o e))
    rw [hb] at h5
    exact Nat.lt_irrefl _ h5) (up2 b o e)
  exact ⟨rfl, h _ h3 o3 tk3 (F.keeps keep3) (news_pushed F N keep3 e3 rfl) (fun p hp => Heap.lt_size (N p hp).1) (F.notModules (modules_low hbig)) (by simpa using hD3)⟩
end
section
theorem adjust_upto (b n : Nat) (hb : b ≤ n) : Builtin.Slice.sliceAdjust none (some (b : Int)) 1 (n : Int) = (0, (b : Int)) := by
  unfold Builtin.Slice.sliceAdjust
  have h1 : ¬ ((1 : Int) < 0) := by omega
  have h2 : ¬ ((b : Int) < 0) := by omega
  simp only [h1, h2, if_false]
  congr 1
  omega
theorem places_upto (b : Nat) : Builtin.Slice.slicePlaces 0 (b : Int) 1 = b := by
  unfold Builtin.Slice.slicePlaces
  have h1 : (1 : Int) > 0 := by omega
  simp only [h1, if_true, Int.ediv_one]
  split <;> omega
theorem pick_upto (xs : Array Value) (b : Nat) : ((List.range b).filterMap fun (k : Nat) => xs[((0 : Int) + (k : Int) * 1).toNat]?).toArray = (xs.toList.take b).toArray := by
  have e : (fun (k : Nat) => xs[((0 : Int) + (k : Int) * 1).toNat]?) = fun k => xs[0 + k]? := by
    funext k
    have : ((0 : Int) + (k : Int) * 1).toNat = 0 + k := by omega
    rw [this]
  rw [e]
  have := pick_run xs 0 b
  rw [List.filterMap_map] at this
  have e2 : ((fun x => xs[x]?) ∘ fun x => 0 + x) = fun k => xs[0 + k]? := rfl
  rw [e2] at this
  rw [this, List.drop_zero]
section
variable {prog : Program} {w : World} {A : Around} {E : Value → Shared → Prop} {s : Shared}
theorem sliceApplied_upto {sl : Addr} {b n : Nat} {u : Tok} {Q : Int × Int × Nat → Shared → Prop} (hs : s.heap.IsSliceOf sl .none (.int b u) .none) (hb : b ≤ n) (h : Q (0, 1, b) s) :
    wpAny (model prog w) A (Builtin.Slice.sliceApplied (.ref sl) (pure (n : Int))) Q E s := by
  obtain ⟨os, hos, hcs, hds⟩ := id hs
  unfold Builtin.Slice.sliceApplied Builtin.Slice.sliceFields
  refine wpAny_bind (wpAny_bind (wpAny_field hos hds (x := .none) rfl (wpAny_bind (wpAny_field hos hds (x := .int b u) rfl (wpAny_bind (wpAny_field hos hds (x := .none) rfl (wpAny_pure ?_)))))))
  refine wpAny_bind (slicePart_none ?_)
  show wpAny _ _ (if ((1 : Int) == 0) = true then _ else _) _ _ s
  rw [if_neg (by decide)]
  refine wpAny_bind (slicePart_none (wpAny_bind (slicePart_int (wpAny_bind (wpAny_pure ?_)))))
  show wpAny _ _ (match Builtin.Slice.sliceAdjust none (some (b : Int)) 1 (n : Int) with | (lo, hi) => pure (lo, (1 : Int), Builtin.Slice.slicePlaces lo hi 1)) _ _ s
  rw [adjust_upto b n hb]
  show wpAny _ _ (pure ((0 : Int), (1 : Int), Builtin.Slice.slicePlaces 0 (b : Int) 1)) _ _ s
  rw [places_upto b]
  exact wpAny_pure h
theorem getItem_tuple_upto {t sl : Addr} {items : Array Value} {b : Nat} {u : Tok} {Q : Value → Shared → Prop} (ht : IsTup s.heap t items) (hs : s.heap.IsSliceOf sl .none (.int b u) .none) (hb : b < items.size)
    (h : Q (.ref s.heap.objs.size) { s with heap := s.heap.push { cls := .type "tuple", data := .seq (items.toList.take b).toArray } })
    (hsz : items.size ≤ sizeLine) : wpAny (model prog w) A (getItem (.ref t) (.ref sl)) Q E s := by
  have hdrop : sizeOk (.seq (items.toList.take b).toArray) := by
    show (items.toList.take b).toArray.size ≤ sizeLine
    rw [List.size_toArray, List.length_take, Array.length_toList]
    omega
  obtain ⟨os, hos, hcs, hds⟩ := id hs
  have hTs : s.TypeIs (.ref sl) "slice" := ⟨os, hos, hcs⟩
  unfold getItem
  try with_reducible refine wpAny_holding ?_
  first | refine wpAny_bind (wpAny_pure ?_) | skip
  refine wpAny_bind (wpAny_sequenceKey ht.typeIs (by decide) ?_)
  refine wpAny_bind (wpAny_callSpecial?_slot (name := Str.ofString "__getitem__") ht.typeIs slot_tuple_getitem
    (wpAny_call_entry slot_tuple_getitem ht.typeIs entry_tuple_getitem ?_ (args_tuple_getitem _ _)))
  show wpAny _ _ (Builtin.Tuple.tupleItemsOf (.ref t) >>= _) _ _ s
  refine wpAny_bind (tupleItemsOf_ ht ?_)
  refine wpAny_bind (wpAny_typeOf hTs ?_)
  rw [if_pos (by decide)]
  refine wpAny_bind (sliceApplied_upto hs (Nat.le_of_lt hb) ?_)
  have hno : ¬ (((0 : Int) == 0 && (1 : Int) == 1 && b == items.size) = true) := by
    have : (b == items.size) = false := by rw [beq_eq_false_iff_ne]; omega
    rw [this]; simp
  show wpAny _ _ (if ((0 : Int) == 0 && (1 : Int) == 1 && b == items.size) = true then _ else _) _ _ s
  rw [if_neg hno, pick_upto items b]
  first
    | exact wpAny_bind (m := Builtin.Tuple.tupleExact _) (wpAny_newObj_type (wpAny_pure ⟨_, rfl, wpAny_pure h⟩) hdrop)
    | exact wpAny_bind (m := Builtin.Tuple.tupleExact _) (wpAny_newObj_type (wpAny_bind (wpAny_pure (wpAny_pure ⟨_, rfl, wpAny_pure h⟩))) hdrop)
    | exact wpAny_bind (wpAny_bind (m := Builtin.Tuple.tupleExact _) (wpAny_newObj_type (wpAny_pure (wpAny_pure ⟨_, rfl, wpAny_pure h⟩)) hdrop))
    | exact wpAny_bind (wpAny_bind (m := Builtin.Tuple.tupleExact _) (wpAny_newObj_type (wpAny_pure ⟨_, rfl, wpAny_pure h⟩) hdrop))
end
section
variable {prog : Program} {w : World} {A : Around} {E : Value → Shared → Prop} {s : Shared} {h₀ : Heap} {L : Addr} {m : Str → Option Value} {news : List (Addr × Obj)} {K : Frag}
theorem slice_tuple_upto {value slice : PySem.Expr} {t : Addr} {l : List Value} {dd : Option Addr} {slt : Array (Option Value)} {n b : Nat} {u : Tok} {Q : Value → Shared → Prop}
    (F : Fr h₀ L s.heap m) (N : News h₀ L s.heap news) (X₀ : K.In h₀) (hl : K.lookup t = some ⟨.type "tuple", dd, .seq l.toArray n, slt⟩) (hb : b < l.length) (hsz : l.length ≤ 100)
    (h : ∀ D h', Fr h₀ L h' m → News h₀ L h' ((D, { cls := .type "tuple", data := .seq (l.take b).toArray }) :: news) → (∀ p ∈ news, p.1 < D) → Q (.ref D) { s with heap := h' })
    (hs : subscripted slice false (.ref t) (.ref s.heap.objs.size) = operate [.ref s.heap.objs.size, .ref t] (getItem (.ref t) (.ref s.heap.objs.size)) := by with_unfolding_all rfl)
    (hg : ∀ r, letTemporaryGo value (.ref t) r = pure () := by intro _; with_unfolding_all rfl) :
    wpAny (model prog w) A (subscriptTail value slice (.ref t) (.ref s.heap.objs.size)) Q E { s with heap := s.heap.push { cls := .type "slice", data := .fields #[.none, .int b u, .none] } } := by
  have ht : IsTup s.heap t l.toArray := tupK (X₀.keeps F.keep) hl
  have ht' : IsTup (s.heap.push { cls := .type "slice", data := .fields #[.none, .int b u, .none] }) t l.toArray := ht.keeps fun _ _ e => Heap.get?_push_of_some _ e
  refine subscriptTail_ops (s := { s with heap := s.heap.push { cls := .type "slice", data := .fields #[.none, .int b u, .none] } }) ht'.typeIs slot_tuple_getitem.lookup
    (getItem_tuple_upto ht' (Heap.IsSliceOf.new ..) (by simpa using hb) ?_ (by rw [sizeLine_eq]; simp; omega)) hs hg
  have N1 := News.push (F.push { cls := .type "slice", data := .fields #[.none, .int b u, .none] }) (N.grown fun _ _ e => Heap.get?_push_of_some _ e) { cls := .type "tuple", data := .seq (l.toArray.toList.take b).toArray }
  rw [Heap.size_push] at N1
  show Q (.ref (s.heap.push _).objs.size) _
  rw [Heap.size_push]
  exact h _ _ ((F.push _).push _) N1 fun p hp => Nat.lt_succ_of_lt (Heap.lt_size (N p hp).1)
end
end
section
local macro_rules | `(tactic| walk_at "CompEnd") => `(tactic| (refine LCg.CompEnd.intro (by assumption) (by assumption) _ (fun _ hp => hp) (by assumption) (by show (_, _) ∈ _; simp) ?_))
local macro_rules | `(tactic| walk_at "eval ListComp") => `(tactic| (k_here; lct_look; lcg_calm; k_dflt (refine ListComp_dict (F₀ := by k_asm) (by with_unfolding_all rfl) (by decide) (by rfl) (by decide) (by rfl) ?_)))
local macro_rules | `(tactic| walk_at "DSrc") => `(tactic| (refine Hold.out ?_))
local macro_rules | `(tactic| walk_at "call builtin:sorted") => `(tactic| (k_here; (with_reducible show wpAny _ _ (call (Value.builtin "sorted") [Value.ref _]) _ _ _); refine Hold.out ?_))
local macro_rules | `(tactic| walk_at "subscriptTail") => `(tactic| (k_here; (with_reducible show wpAny _ _ (subscriptTail _ _ (Value.ref _) (Value.str _ _)) _ _ _); refine Hold.out ?_))
theorem comp_end_new {h₀ : Heap} {L I C D T : Addr} {m : Str → Option Value} {s₁ : Shared} {oI oC oD oT : Obj} {S : List (Addr × Obj) → Prop} {rest : Value → List (Addr × Obj) → Prop} {y : Value} {h' : Heap} {tk : Nat} {l : List (Addr × Obj)} {R : Prop}
    (F : Fr h₀ L h' m) (N : News h₀ L h' ((T, oT) :: (I, oI) :: (C, oC) :: (D, oD) :: l)) (h1 : I < T ∧ C < T ∧ D < T ∧ R) (k : LCg.Off3 I C D l) (hS : S ((T, oT) :: l)) (r : rest y ((T, oT) :: l)) :
    LCg.CompEnd h₀ L m s₁ I oI C oC D oD S rest y { s₁ with heap := h', toks := tk } :=
  LCg.CompEnd.intro F N ((T, oT) :: l) (by kcf_all) ⟨⟨Nat.ne_of_gt h1.1, Nat.ne_of_gt h1.2.1, Nat.ne_of_gt h1.2.2.1⟩, k⟩ hS r
local macro_rules | `(tactic| walk_at "CompEnd") => `(tactic| (refine comp_end_new (by assumption) (by assumption) (by assumption) (by assumption) (by first | lcg_src | assumption) ?_))
local macro_rules | `(tactic| walk_at "eval ListComp") => `(tactic| (k_here; lcg_look; lcg_calm; k_dflt (refine LCg.ListComp_U (F₀ := by k_asm) (by with_unfolding_all rfl) (by decide) (by rfl) (by decide) (by rfl) ?_)))
local macro_rules | `(tactic| walk_at "call ref") => `(tactic| (k_here; (first
  | (with_reducible show wpAny _ _ (call (Value.ref 64) _) _ _ _)
  | (with_reducible show wpAny _ _ (call (Value.ref 80) _) _ _ _)
  | (with_reducible show wpAny _ _ (call (Value.ref 75) _) _ _ _)
  | (with_reducible show wpAny _ _ (call (Value.ref 173) _) _ _ _)
  | (with_reducible show wpAny _ _ (call (Value.ref 61) _) _ _ _)); refine Hold.out ?_))
local macro_rules | `(tactic| walk_at "call type:dict") => `(tactic| (k_here; refine Hold.out ?_))
local macro_rules | `(tactic| walk_at "exec For Name Subscript cons nil") => `(tactic| (k_here; (rename Fr _ _ _ _ => lF'); (with_unfolding_all refine' For_turns lF' ?_ ?ks); (case ks => (intro _; with_unfolding_all rfl)); k_whole))
local macro_rules | `(tactic| walk_at "UnrEndW") => `(tactic| (refine Hold.out ?_))
local macro_rules | `(tactic| walk_at "subscriptTail") => `(tactic| (k_here; (with_reducible show wpAny _ _ (subscriptTail _ _ (Value.ref _) (Value.ref _)) _ _ _); refine Hold.out ?_))
local macro_rules | `(tactic| walk_at "subscriptTail") => `(tactic| (k_here; (with_reducible show wpAny _ _ (subscriptTail _ _ (Value.ref _) (Value.int _ _)) _ _ _); refine Hold.out ?_))
local macro_rules | `(tactic| walk_at "setItem ref str") => `(tactic| (k_here; refine Hold.out ?_))
def okWord (k : Str) : Bool := (k == Str.ofString "mouse_sgr") || (!(MM.any (· == k)) && !(ME.any (· == k)))
def okVal : Value → Bool
  | .str k _ => okWord k
  | _ => false
theorem ok_cases {k : Str} (h : okWord k = true) : k = Str.ofString "mouse_sgr" ∨ MM.any (· == k) = false ∧ ME.any (· == k) = false := by
  unfold okWord at h
  rw [Bool.or_eq_true, Bool.and_eq_true, Bool.not_eq_true', Bool.not_eq_true'] at h
  rcases h with h | h
  · exact .inl (by simpa using h)
  · exact .inr h
theorem nom_upd {f : Str → Bool} {k : Str} {b : Bool} (h : NoM f) (hk : okWord k = true) : NoM (upd f k b) := by
  have ne : ∀ w, okWord w = false → upd f k b w = f w := fun w hw => by
    unfold upd
    rw [if_neg (fun e => by rw [e, hk] at hw; cases hw)]
  exact ⟨by rw [ne _ (by decide +kernel)]; exact h.1, by rw [ne _ (by decide +kernel)]; exact h.2.1, by rw [ne _ (by decide +kernel)]; exact h.2.2⟩
theorem words_at {prog : Program} {w : World} {A : Around} {E : Value → Shared → Prop} {s : Shared} {h₀ : Heap} {L a : Addr} {m : Str → Option Value} {news : List (Addr × Obj)} {K : Frag} {value slice : PySem.Expr} {l : List Value} {dd : Option Addr} {sl : Array (Option Value)} {n : Nat} {k : Int} {u : Tok} {Q : Value → Shared → Prop}
    (F : Fr h₀ L s.heap m) (_N : News h₀ L s.heap news) (X₀ : K.In h₀) (hl : K.lookup a = some ⟨.type "tuple", dd, .seq l.toArray n, sl⟩) (hall : l.all okVal = true) (h0 : 0 ≤ k) (h1 : k < l.length) (h2 : l.length ≤ 100)
    (h : ∀ kk t, okWord kk = true → Q (.str kk t) s)
    (hs : subscripted slice false (.ref a) (.int k u) = operate [.ref a, .int k u] (getItem (.ref a) (.int k u)) := by with_unfolding_all rfl) :
    wpAny (model prog w) A (subscriptTail value slice (.ref a) (.int k u)) Q E s := by
  obtain ⟨j, rfl⟩ : ∃ j : Nat, k = j := ⟨k.toNat, by omega⟩
  have hj : j < l.length := by omega
  have hv : okVal l[j] = true := List.all_eq_true.mp hall _ (List.getElem_mem hj)
  have he : l[j]? = some l[j] := List.getElem?_eq_getElem hj
  refine topTup_K F X₀ hl (by omega) (by omega) (j := j) (by unfold seqIndex?; simp; omega) he ?_ hs
  cases e : l[j] with
  | str kk t => rw [e] at hv; exact h kk t hv
  | _ => rw [e] at hv; cases hv
theorem cell_pick {g h : Heap} {L a : Addr} {o : Obj} {v : Value} {l l' : List (Addr × Obj)} (d : o.data = .cell (some v)) (N : News g L h ((a, o) :: l)) (sub : ∀ p ∈ l', p ∈ l) : ∃ oc, oc.data = .cell (some v) ∧ News g L h ((a, oc) :: l') :=
  ⟨o, d, fun p hp => (List.mem_cons.mp hp).elim (fun e => N p (e ▸ List.mem_cons_self)) fun h => N p (List.mem_cons_of_mem _ (sub p h))⟩
structure SSt where
  dk : List (Addr × Obj)
  ml : List (Addr × Obj)
  oS : Obj
  f : Str → Bool
structure SJ (w : World) (D x Sd Lc : Addr) (n k : Nat) (c : SSt) : Prop where
  D : DeckRep w c.dk D
  M : MRep w c.ml x n c.f
  S : DRep w Sd c.oS k c.f
  no : NoM c.f
  a1 : Apart c.ml c.dk
  oS : OwnOff (c.ml ++ c.dk) [Sd]
  oC : OwnOff (c.ml ++ c.dk) [Lc]
theorem ap_soft {dk ml : List (Addr × Obj)} {I Lc Sd : Addr} {oI oc oS : Obj} {Led : List (Addr × Obj)} (hI : ∀ p ∈ Led, p.1 ≠ I) (sub : ∀ p ∈ dk, p ∈ Led) (oS' : OwnOff (ml ++ dk) [Sd]) (oC : OwnOff (ml ++ dk) [Lc]) (a : Apart ml dk) : Apart dk ((I, oI) :: (Lc, oc) :: (Sd, oS) :: ml) :=
  Apart.symm (ap_cons (fun p hp => hI p (sub p hp)) (ap_cons (fun p hp => oC p (by simp [hp]) _ (by simp)) (ap_cons (fun p hp => oS' p (by simp [hp]) _ (by simp)) a)))
theorem MRep.le {w : World} {ml : List (Addr × Obj)} {x : Addr} {n n' : Nat} {f : Str → Bool} (h : MRep w ml x n f) (hn : n ≤ n') : MRep w ml x n' f := let ⟨dm, S, K, oS, t1, t2, a, b, c⟩ := h; ⟨dm, S, K, oS, t1, t2, a, b, c.le hn⟩
theorem set_any {w : World} {mean : ExcName → Option Value} {mg mb : Str → Option Value} {dp un : Nat} {gd : Option (List Code)} {cn : Str} {cs : Scope} {a : Addr} {ccd : Value} {cl : List (Str × Addr)} {outer : List Env} {A₀ : Around} {base h₀ : Heap} {L : Addr} {m : Str → Option Value} {s : Shared} {Q E : Value → Shared → Prop}
   {ml rest : List (Addr × Obj)} {x : Addr} {n : Nat} {f : Str → Bool} {k : Str} {t : Tok} {b : Bool}
   (B : Below A₀ base outer h₀) (F : Fr h₀ L s.heap m) (X : (hd.heap_1 w.params).In h₀) (N : News h₀ L s.heap (ml ++ rest)) (T : Top vw (looseW vw [Str.ofString "KeyLevels"]) mean mg mb h₀) (hk : cs.kind = .function) (hdp : dp ≤ 340) (hun : un ≤ 2000) (hM : MRep w ml x n f) (hap : Apart ml rest) (hn : n ≤ 900) (hno : NoM f) (hok : okWord k = true)
   (hret : ∀ h' tk' ml', Fr h₀ L h' m → News h₀ L h' (ml' ++ rest) → MRep w ml' x (n + 5) (upd f k b) → ml'.map (·.1) = ml.map (·.1) → Q .none { s with heap := h', toks := tk' }) :
   wpAny (model PySem.Challenge.rw_og0233_01.row.prog w) (ktrTop dp un gd cn cs L a ccd cl outer) (call (.ref 61) [.ref x, .str k t, .bool b]) Q E s := by
  rcases ok_cases hok with rfl | ⟨g1, g2⟩
  · exact set_sgr B F X N T hk hdp hun hM hap hn hno hret
  · exact set_plain B F X N T hk hdp hun hM hap hn g1 g2 fun h' tk' ml' F' N' M' e' => hret h' tk' ml' F' N' (M'.le (by omega)) e'
theorem ap_soft2 {dk dk' ml : List (Addr × Obj)} {I Lc Sd : Addr} {oI oc oS : Obj} {Led : List (Addr × Obj)} (hI : ∀ p ∈ Led, p.1 ≠ I) (sub : ∀ p ∈ ml, p ∈ Led) (oS' : OwnOff (ml ++ dk) [Sd]) (oC : OwnOff (ml ++ dk) [Lc]) (a : Apart ml dk) (e : dk'.map (·.1) = dk.map (·.1)) : Apart ml ((I, oI) :: (Lc, oc) :: (Sd, oS) :: dk') := fun p hp q hq => by
  rcases List.mem_cons.mp hq with rfl | hq
  · exact hI p (sub p hp)
  · rcases List.mem_cons.mp hq with rfl | hq
    · exact oC p (by simp [hp]) _ (by simp)
    · rcases List.mem_cons.mp hq with rfl | hq
      · exact oS' p (by simp [hp]) _ (by simp)
      · exact Apart.keysR a e p hp q hq
theorem own_keys2 {dk dk' ml ml' : List (Addr × Obj)} {Sd : Addr} (h : OwnOff (ml ++ dk) [Sd]) (e : dk'.map (·.1) = dk.map (·.1)) (e' : ml'.map (·.1) = ml.map (·.1)) : OwnOff (ml' ++ dk') [Sd] :=
  OwnOff.app (OwnOff.keys (OwnOff.lessL h fun p hp => List.mem_append_left _ hp) e') (OwnOff.keys (OwnOff.lessL h fun p hp => List.mem_append_right _ hp) e)
theorem off_soft {dk ml : List (Addr × Obj)} {I Lc Sd : Addr} {oI oc : Obj} (h : OwnOff (ml ++ dk) [Sd]) (h1 : @Ne Nat Sd I) (h2 : @Ne Nat Lc Sd) : ∀ p ∈ (I, oI) :: (Lc, oc) :: (ml ++ dk), p.1 ≠ Sd := fun p hp => by
  rcases List.mem_cons.mp hp with rfl | hp
  · exact Ne.symm h1
  · rcases List.mem_cons.mp hp with rfl | hp
    · exact h2
    · exact h p hp _ (by simp)
theorem ne_led {dk dk' ml ml' : List (Addr × Obj)} {I Lc Sd : Addr} {oc oS oS' : Obj} (h : ∀ p ∈ dk ++ ((Lc, oc) :: (Sd, oS) :: ml), p.1 ≠ I) (e : dk'.map (·.1) = dk.map (·.1)) (e' : ml'.map (·.1) = ml.map (·.1)) : ∀ p ∈ dk' ++ ((Lc, oc) :: (Sd, oS') :: ml'), p.1 ≠ I := ne_keys h (by simp [e, e'])
theorem tup_pick {g h : Heap} {L a : Addr} {vs : List Value} {l l' : List (Addr × Obj)} (N : News g L h ((a, { cls := .type "tuple", data := .seq vs.toArray }) :: l)) (sub : ∀ p ∈ l', p ∈ l) : ∃ o, o.cls = .type "tuple" ∧ o.data = .seq vs.toArray 0 ∧ News g L h ((a, o) :: l') :=
  ⟨_, rfl, rfl, fun p hp => (List.mem_cons.mp hp).elim (fun e => N p (e ▸ List.mem_cons_self)) fun h => N p (List.mem_cons_of_mem _ (sub p h))⟩
theorem off_soft3 {dk ml : List (Addr × Obj)} {I Lc Sd T : Addr} {oI oc oT : Obj} (h : OwnOff (ml ++ dk) [Sd]) (h1 : @LT.lt Nat _ Sd I) (h2 : @Ne Nat Lc Sd) (h3 : @LT.lt Nat _ Sd T) : ∀ p ∈ (I, oI) :: (Lc, oc) :: (T, oT) :: (ml ++ dk), p.1 ≠ Sd := fun p hp => by
  rcases List.mem_cons.mp hp with rfl | hp
  · exact Nat.ne_of_gt h1
  · rcases List.mem_cons.mp hp with rfl | hp
    · exact h2
    · rcases List.mem_cons.mp hp with rfl | hp
      · exact Nat.ne_of_gt h3
      · exact h p hp _ (by simp)
abbrev SL : List Str := [Str.ofString "autorepeat", Str.ofString "autowrap", Str.ofString "num_lock", Str.ofString "send_receive", Str.ofString "show_cursor"]
theorem nom0 : NoM f0 := ⟨by decide +kernel, by decide +kernel, by decide +kernel⟩
theorem sl_on : OnList f0 SL := ⟨by decide +kernel, by decide +kernel, fun s => by
  rw [decide_eq_true_iff]
  simp only [List.mem_cons, List.not_mem_nil, or_false]
  constructor <;> (rintro (h | h | h | h | h) <;> simp [h])⟩
theorem five_strs {vs : List Value} {a b c d e : Str} (h : StrsAre vs [a, b, c, d, e]) : ∃ t1 t2 t3 t4 t5, vs = [.str a t1, .str b t2, .str c t3, .str d t4, .str e t5] := by
  cases h with | cons _ t1 h => cases h with | cons _ t2 h => cases h with | cons _ t3 h => cases h with | cons _ t4 h => cases h with | cons _ t5 h => cases h; exact ⟨t1, t2, t3, t4, t5, rfl⟩
theorem soft_spec {w : World} {mean : ExcName → Option Value} {mg mb : Str → Option Value} {dp un : Nat} {gd : Option (List Code)} {cn : Str} {cs : Scope} {a : Addr} {ccd : Value} {cl : List (Str × Addr)} {outer : List Env} {A₀ : Around} {base h₀ : Heap} {L : Addr} {m : Str → Option Value} {s : Shared} {Q E : Value → Shared → Prop}
   {dk rest : List (Addr × Obj)} {D : Addr}
   (B : Below A₀ base outer h₀) (F : Fr h₀ L s.heap m) (X : (hd.heap_1 w.params).In h₀) (N : News h₀ L s.heap (dk ++ rest)) (T : Top vw (looseW vw [Str.ofString "KeyLevels"]) mean mg mb h₀) (hk : cs.kind = .function) (hdp : dp ≤ 320) (hun : un ≤ 500) (hD : DeckRep w dk D) (hap : Apart dk rest)
   (hret : ∀ h' tk', Fr h₀ L h' m → Q (.bool true) { s with heap := h', toks := tk' }) :
   wpAny (model PySem.Challenge.rw_og0233_01.row.prog w) (ktrTop dp un gd cn cs L a ccd cl outer) (call (.ref 200) [.ref D]) Q E s := by
  replace N : News h₀ L s.heap dk := News.less N (fun p hp => List.mem_append_left _ hp)
  clear hap
  (revert X; k_fill; intro X)
  refine wpAny_call ?_
  k_dflt (refine' code_defC ?k1 ?k2 ?k3 ?k4 ?k5 ?kA ?kF ?kK ?k6 ?k7 ?k8 ?k9 ?kB ?kD ?_ ?c2 ?c3 ?c4; (case kA => exact rfl); (case kF => exact rfl); (case kK => first | exact rfl | assumption); (case k1 => k_asm); (case k2 => k_asm); (case k3 => k_asm); (case k4 => k_asm); (case k5 => k_asm); (case k6 => k_is); (case k7 => k_is); (case k8 => ktr_room); (case k9 => exact BindsTo.of_eq rfl); (case kB => exact rfl); (case kD => decide +kernel); (case c2 => exact rfl); (case c3 => exact rfl); (case c4 => exact rfl); k_whole; intro g0 L0 h0 tk0 cells0 FG0 F0 N0 Y0 B0 X0 T0 l0)
  obtain ⟨oc, hE, hoc⟩ := CellsAre.one Y0
  subst hE
  clear Y0
  (try simp only [List.cons_append, List.nil_append] at N0)
  (try dsimp only)
  (try k_lift B0)
  (try k_fold)
  k_steps
  refine Hold.mk ?_
  refine' minit_spec ?B ?F ?X ?N ?T ?hk ?hdp ?hun ?_
  (case B => k_asm); (case F => k_asm); (case X => k_asm); (case N => k_asm); (case T => k_asm); (case hk => rfl); (case hdp => ktr_room); (case hun => ktr_units)
  intro x h1 tk1 ml F1 N1 M1 a1
  (try dsimp only)
  k_steps
  refine Hold.mk ?_
  refine' on_spec ?B ?F ?X ?N ?T ?hk ?hdp ?hun M1 (by decide) ?_
  (case B => k_asm); (case F => k_asm); (case X => k_asm); (case N => k_asm); (case T => k_asm); (case hk => rfl); (case hdp => ktr_room); (case hun => ktr_units)
  intro D1 h2 tk2 vs ss F2 N2 hne2 hS hO hl2
  obtain rfl := hO.uniq sl_on
  obtain ⟨t1, t2, t3, t4, t5, rfl⟩ := five_strs hS
  (try dsimp only)
  k_steps
  refine Hold.mk ?_
  refine' dict_pairs ?hh ?F ?N ?hbig ?hm ?hT ?hn ?hz ?_
  (case hh => rfl); (case F => k_asm); (case N => k_asm); (case hbig => exact Top.nolimit (by k_asm)); (case hm => k_mem)
  (case hT => exact .cons (News.isTup (by k_asm) (by k_mem)) (.cons (News.isTup (by k_asm) (by k_mem)) (.cons (News.isTup (by k_asm) (by k_mem)) (.cons (News.isTup (by k_asm) (by k_mem)) (.cons (News.isTup (by k_asm) (by k_mem)) .nil)))))
  (case hn => decide +kernel); (case hz => decide)
  intro Sd h3 oSd tk3 F3 N3 lt3 lo3 hd3
  have DS : DRep w Sd oSd 5 f0 := DRep.eq (DRep.of (ks := SL) lo3 hd3) fun s => by
    have h := sl_on.2.2 s
    cases hf : f0 s with
    | true => exact decide_eq_true (h.mpr hf)
    | false => exact decide_eq_false fun hm => by have := h.mp hm; rw [hf] at this; cases this
  have oS1 : OwnOff ml [Sd] := fun p hp q hq => by rw [List.mem_singleton.mp hq]; exact Nat.ne_of_lt (lt3 p (by simp [hp]))
  have oS2 : OwnOff dk [Sd] := fun p hp q hq => by rw [List.mem_singleton.mp hq]; exact Nat.ne_of_lt (lt3 p (by simp [hp]))
  have oC1 : OwnOff ml [L0 + 1] := a1.symm.off (by simp)
  have oC2 : OwnOff dk [L0 + 1] := fun p hp q hq => by rw [List.mem_singleton.mp hq]; exact Nat.ne_of_lt (Nat.lt_succ_of_lt (l0 p hp))
  have nSC : @Ne Nat (L0 + 1) Sd := Nat.ne_of_lt (lt3 (L0 + 1, oc) (by simp))
  have oS : OwnOff (ml ++ dk) [Sd] := OwnOff.app oS1 oS2
  have oC : OwnOff (ml ++ dk) [L0 + 1] := OwnOff.app oC1 oC2
  have N4 : News g0 L0 h3 ((L0 + 1, oc) :: (Sd, oSd) :: (ml ++ dk)) := News.less N3 (by kcf_all)
  clear N3 lt3 hne2 hS hl2 oS1 oC1 oS2 oC2
  (try dsimp only)
  k_steps
  refine Hold.mk ?_
  (rename Fr _ _ _ _ => F5); (rename News _ _ _ _ => N5)
  obtain ⟨oc2, hoc2, N6⟩ := cell_pick (v := .ref Sd) (l' := (Sd, oSd) :: (ml ++ dk)) (by assumption) N5 (by kcf_all)
  clear N5
  have aD : Apart dk ((L0 + 1, oc2) :: (Sd, oSd) :: ml) := Apart.symm (ap_cons (fun p hp => oC p (by simp [hp]) _ (by simp)) (ap_cons (fun p hp => oS p (by simp [hp]) _ (by simp)) (a1.less (fun _ h => h) (by kcf_all))))
  refine' draw_spec (dk := dk) (rest := (L0 + 1, oc2) :: (Sd, oSd) :: ml) ?B ?F ?X ?N ?T ?hk ?hdp ?hun hD aD (by decide) (by decide) ?_
  (case B => k_asm); (case F => k_asm); (case X => k_asm); (case N => exact News.less N6 (by kcf_all)); (case T => k_asm); (case hk => rfl); (case hdp => ktr_room); (case hun => ktr_units)
  intro r7 tr7 h7 tk7 dk7 F7 N7 hD7 ek7 hr0 hr1
  (try dsimp only)
  k_steps
  refine Hold.mk ?_
  (rename IsRange _ _ _ _ _ _ _ _ => hR)
  have hJ0 : SJ w D x Sd (L0 + 1) 5 5 ⟨dk7, ml, oSd, f0⟩ := ⟨hD7, M1, DS, nom0, Apart.keysR (a1.less (fun _ h => h) (by kcf_all)) ek7, OwnOff.app (OwnOff.lessL oS (by kcf_all)) (OwnOff.keys (OwnOff.lessL oS (by kcf_all)) ek7), OwnOff.app (OwnOff.lessL oC (by kcf_all)) (OwnOff.keys (OwnOff.lessL oC (by kcf_all)) ek7)⟩
  refine' range_any (σ := SSt) [Str.ofString "word", Str.ofString "is_on"] (fun i c => SJ w D x Sd (L0 + 1) (5 + 5 * i) (5 + i) c) (fun c' => c'.dk ++ ((L0 + 1, oc2) :: (Sd, c'.oS) :: c'.ml)) ⟨dk7, ml, oSd, f0⟩ ?hh hR ?hs ?hn ?F ?N hJ0 ?turn ?done
  (case hh => rfl)
  (case hs => exact small_one (by omega) (by omega) (by omega) (by omega))
  (case hn => exact rangeSize_nat _ _)
  (case F => k_asm)
  (case N => k_asm)
  (case turn =>
    intro i c' t' u' h' tk' I oI hi hJ' hI F' N'; (try dsimp only); (try k_fold)
    obtain ⟨dk', ml', oS', f'⟩ := c'
    obtain ⟨j1, M, j3, j4, j5, j6, j7⟩ := hJ'
    dsimp only at j1 M j3 j4 j5 j6 j7 N' hI
    have Mc := M
    obtain ⟨dm, S, K, oM, ta, tb, rfl, _, _⟩ := M
    replace N' : News _ _ _ ((I, oI) :: (L0 + 1, oc2) :: (Sd, oS') :: (x, instObj 64 dm) :: (dm, dictOf (modesDict w ta tb S K) 2) :: (S, oM) :: dk') := News.less N' (by kcf_all)
    k_steps
    refine Hold.mk ?_
    refine' draw_spec (dk := dk') (rest := (I, oI) :: (L0 + 1, oc2) :: (Sd, oS') :: [(x, instObj 64 dm), (dm, dictOf (modesDict w ta tb S K) 2), (S, oM)]) ?B ?F ?X ?N ?T ?hk ?hdp ?hun j1 (ap_soft hI (by kcf_all) j6 j7 j5) (by decide) (by decide) ?_
    (case B => k_asm); (case F => k_asm); (case X => k_asm); (case N => exact News.less N' (by kcf_all)); (case T => k_asm); (case hk => rfl); (case hdp => ktr_room); (case hun => ktr_units)
    intro r8 tr8 h8 tk8 dk8 F8 N8 hD8 ek8 hs0 hs1
    replace N8 : News _ _ _ ((I, oI) :: (L0 + 1, oc2) :: (Sd, oS') :: (x, instObj 64 dm) :: (dm, dictOf (modesDict w ta tb S K) 2) :: (S, oM) :: dk8) := News.less N8 (by kcf_all)
    (try dsimp only)
    k_steps
    refine Hold.mk ?_
    refine' words_at ?F ?N ?X ?hl ?hall hs0 ?h1 ?h2 ?_
    (case F => k_asm); (case N => k_asm); (case X => k_asm); (case hl => k_is); (case hall => decide +kernel); (case h1 => exact hs1); (case h2 => decide)
    intro kk tkk hok
    (try dsimp only)
    k_steps
    refine Hold.mk ?_
    refine' draw_spec (dk := dk8) (rest := (I, oI) :: (L0 + 1, oc2) :: (Sd, oS') :: [(x, instObj 64 dm), (dm, dictOf (modesDict w ta tb S K) 2), (S, oM)]) ?B ?F ?X ?N ?T ?hk ?hdp ?hun hD8 (Apart.keys (ap_soft hI (by kcf_all) j6 j7 j5) ek8) (by decide) (by decide) ?_
    (case B => k_asm); (case F => k_asm); (case X => k_asm); (case N => exact News.less N8 (by kcf_all)); (case T => k_asm); (case hk => rfl); (case hdp => ktr_room); (case hun => ktr_units)
    intro r9 tr9 h9 tk9 dk9 F9 N9 hD9 ek9 hv0 hv1
    replace N9 : News _ _ _ ((I, oI) :: (L0 + 1, oc2) :: (Sd, oS') :: (x, instObj 64 dm) :: (dm, dictOf (modesDict w ta tb S K) 2) :: (S, oM) :: dk9) := News.less N9 (by kcf_all)
    (try dsimp only)
    k_steps
    refine Hold.mk ?_
    refine' set_any (rest := (I, oI) :: (L0 + 1, oc2) :: (Sd, oS') :: dk9) ?B ?F ?X ?N ?T ?hk ?hdp ?hun Mc (ap_soft2 hI (by kcf_all) j6 j7 j5 (ek9.trans ek8)) (by omega) j4 hok ?_
    (case B => k_asm); (case F => k_asm); (case X => k_asm); (case N => exact News.less (by k_asm) (by kcf_all)); (case T => k_asm); (case hk => rfl); (case hdp => ktr_room); (case hun => ktr_units)
    intro h10 tk10 ml10 F10 N10 M10 e10
    replace N10 : News _ _ _ ((Sd, oS') :: (I, oI) :: (L0 + 1, oc2) :: (ml10 ++ dk9)) := News.less N10 (by kcf_all)
    have o6 := own_keys2 j6 (ek9.trans ek8) e10
    have o7 := own_keys2 j7 (ek9.trans ek8) e10
    (try dsimp only)
    k_steps
    refine Hold.mk ?_
    refine' drep_set ?F ?N ?U j3 ?hn ?_
    (case F => k_asm); (case N => exact N10); (case U => exact UpdF.head (off_soft o6 (hI (Sd, oS') (by simp)) nSC)); (case hn => omega)
    intro h11 oS11 F11 N11 D11
    (try dsimp only at N11)
    (try dsimp only)
    k_steps
    (rename Fr _ _ _ _ => F12)
    exact REnd.intro ⟨dk9, ml10, oS11, upd f' kk (r9 == 0)⟩ F12 (News.less N11 (by kcf_all)) (ne_led hI (ek9.trans ek8) e10) (fun z h1 h2 => by
      obtain ⟨h3, h4⟩ := cont2 h2
      simp only [h1, h2, h3, h4, if_false, Bool.false_eq_true]) ⟨hD9, M10.le (by omega), D11.le (by omega), nom_upd j4 hok, (Apart.keys (Apart.keysR j5 (ek9.trans ek8)) e10), o6, o7⟩)
  (case done =>
    intro c' u' h' tk' hJ' F' N'; (try dsimp only); (try k_fold)
    obtain ⟨dk', ml', oS', f'⟩ := c'
    obtain ⟨j1, M, j3, j4, j5, j6, j7⟩ := hJ'
    dsimp only at j1 M j3 j4 j5 j6 j7 N'
    k_steps
    refine Hold.mk ?_
    have hn6 : (r7 - 0).toNat ≤ 6 := by omega
    have aM : Apart ml' ((L0 + 1, oc2) :: (Sd, oS') :: dk') := Apart.symm (ap_cons (fun p hp => j7 p (by simp [hp]) _ (by simp)) (ap_cons (fun p hp => j6 p (by simp [hp]) _ (by simp)) j5.symm))
    refine' soften_spec (rest := (L0 + 1, oc2) :: (Sd, oS') :: dk') ?B ?F ?X ?N ?T ?hk ?hdp ?hun M aM (by omega) ?_
    (case B => k_asm); (case F => k_asm); (case X => k_asm); (case N => exact News.less N' (by kcf_all)); (case T => k_asm); (case hk => rfl); (case hdp => ktr_room); (case hun => ktr_units)
    intro h8 tk8 ml8 F8 N8 M8 e8
    replace N8 : News _ _ _ ((Sd, oS') :: (L0 + 1, oc2) :: (ml8 ++ dk')) := News.less N8 (by kcf_all)
    have o6 := own_keys2 j6 (rfl : dk'.map (·.1) = dk'.map (·.1)) e8
    have o7 := own_keys2 j7 (rfl : dk'.map (·.1) = dk'.map (·.1)) e8
    (try dsimp only)
    k_steps
    refine Hold.mk ?_
    refine' slice_tuple_upto (s := ⟨_, _, _, _, _⟩) (b := 10) ?F ?N ?X ?hl ?hb ?hz ?_
    (case F => k_asm); (case N => k_asm); (case X => k_asm); (case hl => k_is); (case hb => decide); (case hz => decide)
    intro T h9 F9 N9 lt9
    obtain ⟨oT, hcT, hdT, N10⟩ := tup_pick (l' := (Sd, oS') :: (L0 + 1, oc2) :: (ml8 ++ dk')) N9 (by kcf_all)
    clear N9
    have lST : @LT.lt Nat _ Sd T := lt9 (Sd, oS') (by simp)
    replace N10 : News _ _ _ ((Sd, oS') :: (L0 + 1, oc2) :: (T, oT) :: (ml8 ++ dk')) := News.less N10 (by kcf_all)
    dsimp only [List.take] at hdT
    have D_0 := j3
    obtain ⟨oS_0, eS_0⟩ : ∃ o, o = oS' := ⟨_, rfl⟩
    rw [← eS_0] at N10 D_0
    (try dsimp only)
    refine iter_tupTurns (by rfl) (by k_asm) N10 (by k_mem) hcT hdT ?_
    intro I2 l2
    have lSI : @LT.lt Nat _ Sd I2 := l2 (Sd, oS_0) (by simp)
    refine ItemsRest.val (fun ha_0 tka_0 Fa_0 => ?_)
    refine AllObj.cons (fun oa_0 hca_0 => ?_)
    refine AllObj.nil (fun Na_0 => ?_)
    simp only [List.cons_append, List.nil_append] at Na_0
    (try dsimp only)
    k_steps
    rw [show ([Str.ofString "autowrap", Str.ofString "show_cursor"].any fun x => x == Str.ofString "locked") = false by decide +kernel]
    refine Hold.mk ?_
    refine' drep_set ?F ?N ?U D_0 ?hn ?_
    (case F => k_asm); (case N => exact News.less (l' := (Sd, oS_0) :: (I2, oa_0) :: (L0 + 1, oc2) :: (T, oT) :: (ml8 ++ dk')) (by k_asm) (by kcf_all)); (case U => exact UpdF.head (off_soft3 o6 lSI nSC lST)); (case hn => omega)
    intro hb_0 oS_1 Fb_0 Nb_0 D_1
    (try dsimp only at Nb_0)
    (try dsimp only)
    k_steps
    refine Hold.mk ?_
    (rename Fr _ _ _ _ => kF_0); (rename News _ _ _ _ => kN_0)
    refine unr_end ((Sd, oS_1) :: (L0 + 1, oc2) :: (T, oT) :: (ml8 ++ dk')) kF_0 (News.less kN_0 (by kcf_all)) (fun p hp r hr => by rw [List.mem_singleton.mp hr]; exact Nat.ne_of_lt (lt_keys l2 (by rfl) p hp)) ⟨⟨by k_mem, trivial⟩, ?_⟩
    refine ItemsRest.val (fun ha_1 tka_1 Fa_1 => ?_)
    refine AllObj.cons (fun oa_1 hca_1 => ?_)
    refine AllObj.nil (fun Na_1 => ?_)
    simp only [List.cons_append, List.nil_append] at Na_1
    (try dsimp only)
    k_steps
    rw [show ([Str.ofString "autowrap", Str.ofString "show_cursor"].any fun x => x == Str.ofString "insert") = false by decide +kernel]
    refine Hold.mk ?_
    refine' drep_set ?F ?N ?U D_1 ?hn ?_
    (case F => k_asm); (case N => exact News.less (l' := (Sd, oS_1) :: (I2, oa_1) :: (L0 + 1, oc2) :: (T, oT) :: (ml8 ++ dk')) (by k_asm) (by kcf_all)); (case U => exact UpdF.head (off_soft3 o6 lSI nSC lST)); (case hn => omega)
    intro hb_1 oS_2 Fb_1 Nb_1 D_2
    (try dsimp only at Nb_1)
    (try dsimp only)
    k_steps
    refine Hold.mk ?_
    (rename Fr _ _ _ _ => kF_1); (rename News _ _ _ _ => kN_1)
    refine unr_end ((Sd, oS_2) :: (L0 + 1, oc2) :: (T, oT) :: (ml8 ++ dk')) kF_1 (News.less kN_1 (by kcf_all)) (fun p hp r hr => by rw [List.mem_singleton.mp hr]; exact Nat.ne_of_lt (lt_keys l2 (by rfl) p hp)) ⟨⟨by k_mem, trivial⟩, ?_⟩
    refine ItemsRest.val (fun ha_2 tka_2 Fa_2 => ?_)
    refine AllObj.cons (fun oa_2 hca_2 => ?_)
    refine AllObj.nil (fun Na_2 => ?_)
    simp only [List.cons_append, List.nil_append] at Na_2
    (try dsimp only)
    k_steps
    rw [show ([Str.ofString "autowrap", Str.ofString "show_cursor"].any fun x => x == Str.ofString "origin") = false by decide +kernel]
    refine Hold.mk ?_
    refine' drep_set ?F ?N ?U D_2 ?hn ?_
    (case F => k_asm); (case N => exact News.less (l' := (Sd, oS_2) :: (I2, oa_2) :: (L0 + 1, oc2) :: (T, oT) :: (ml8 ++ dk')) (by k_asm) (by kcf_all)); (case U => exact UpdF.head (off_soft3 o6 lSI nSC lST)); (case hn => omega)
    intro hb_2 oS_3 Fb_2 Nb_2 D_3
    (try dsimp only at Nb_2)
    (try dsimp only)
    k_steps
    refine Hold.mk ?_
    (rename Fr _ _ _ _ => kF_2); (rename News _ _ _ _ => kN_2)
    refine unr_end ((Sd, oS_3) :: (L0 + 1, oc2) :: (T, oT) :: (ml8 ++ dk')) kF_2 (News.less kN_2 (by kcf_all)) (fun p hp r hr => by rw [List.mem_singleton.mp hr]; exact Nat.ne_of_lt (lt_keys l2 (by rfl) p hp)) ⟨⟨by k_mem, trivial⟩, ?_⟩
    refine ItemsRest.val (fun ha_3 tka_3 Fa_3 => ?_)
    refine AllObj.cons (fun oa_3 hca_3 => ?_)
    refine AllObj.nil (fun Na_3 => ?_)
    simp only [List.cons_append, List.nil_append] at Na_3
    (try dsimp only)
    k_steps
    rw [show ([Str.ofString "autowrap", Str.ofString "show_cursor"].any fun x => x == Str.ofString "app_cursor") = false by decide +kernel]
    refine Hold.mk ?_
    refine' drep_set ?F ?N ?U D_3 ?hn ?_
    (case F => k_asm); (case N => exact News.less (l' := (Sd, oS_3) :: (I2, oa_3) :: (L0 + 1, oc2) :: (T, oT) :: (ml8 ++ dk')) (by k_asm) (by kcf_all)); (case U => exact UpdF.head (off_soft3 o6 lSI nSC lST)); (case hn => omega)
    intro hb_3 oS_4 Fb_3 Nb_3 D_4
    (try dsimp only at Nb_3)
    (try dsimp only)
    k_steps
    refine Hold.mk ?_
    (rename Fr _ _ _ _ => kF_3); (rename News _ _ _ _ => kN_3)
    refine unr_end ((Sd, oS_4) :: (L0 + 1, oc2) :: (T, oT) :: (ml8 ++ dk')) kF_3 (News.less kN_3 (by kcf_all)) (fun p hp r hr => by rw [List.mem_singleton.mp hr]; exact Nat.ne_of_lt (lt_keys l2 (by rfl) p hp)) ⟨⟨by k_mem, trivial⟩, ?_⟩
    refine ItemsRest.val (fun ha_4 tka_4 Fa_4 => ?_)
    refine AllObj.cons (fun oa_4 hca_4 => ?_)
    refine AllObj.nil (fun Na_4 => ?_)
    simp only [List.cons_append, List.nil_append] at Na_4
    (try dsimp only)
    k_steps
    rw [show ([Str.ofString "autowrap", Str.ofString "show_cursor"].any fun x => x == Str.ofString "app_keypad") = false by decide +kernel]
    refine Hold.mk ?_
    refine' drep_set ?F ?N ?U D_4 ?hn ?_
    (case F => k_asm); (case N => exact News.less (l' := (Sd, oS_4) :: (I2, oa_4) :: (L0 + 1, oc2) :: (T, oT) :: (ml8 ++ dk')) (by k_asm) (by kcf_all)); (case U => exact UpdF.head (off_soft3 o6 lSI nSC lST)); (case hn => omega)
    intro hb_4 oS_5 Fb_4 Nb_4 D_5
    (try dsimp only at Nb_4)
    (try dsimp only)
    k_steps
    refine Hold.mk ?_
    (rename Fr _ _ _ _ => kF_4); (rename News _ _ _ _ => kN_4)
    refine unr_end ((Sd, oS_5) :: (L0 + 1, oc2) :: (T, oT) :: (ml8 ++ dk')) kF_4 (News.less kN_4 (by kcf_all)) (fun p hp r hr => by rw [List.mem_singleton.mp hr]; exact Nat.ne_of_lt (lt_keys l2 (by rfl) p hp)) ⟨⟨by k_mem, trivial⟩, ?_⟩
    refine ItemsRest.val (fun ha_5 tka_5 Fa_5 => ?_)
    refine AllObj.cons (fun oa_5 hca_5 => ?_)
    refine AllObj.nil (fun Na_5 => ?_)
    simp only [List.cons_append, List.nil_append] at Na_5
    (try dsimp only)
    k_steps
    rw [show ([Str.ofString "autowrap", Str.ofString "show_cursor"].any fun x => x == Str.ofString "side_margins") = false by decide +kernel]
    refine Hold.mk ?_
    refine' drep_set ?F ?N ?U D_5 ?hn ?_
    (case F => k_asm); (case N => exact News.less (l' := (Sd, oS_5) :: (I2, oa_5) :: (L0 + 1, oc2) :: (T, oT) :: (ml8 ++ dk')) (by k_asm) (by kcf_all)); (case U => exact UpdF.head (off_soft3 o6 lSI nSC lST)); (case hn => omega)
    intro hb_5 oS_6 Fb_5 Nb_5 D_6
    (try dsimp only at Nb_5)
    (try dsimp only)
    k_steps
    refine Hold.mk ?_
    (rename Fr _ _ _ _ => kF_5); (rename News _ _ _ _ => kN_5)
    refine unr_end ((Sd, oS_6) :: (L0 + 1, oc2) :: (T, oT) :: (ml8 ++ dk')) kF_5 (News.less kN_5 (by kcf_all)) (fun p hp r hr => by rw [List.mem_singleton.mp hr]; exact Nat.ne_of_lt (lt_keys l2 (by rfl) p hp)) ⟨⟨by k_mem, trivial⟩, ?_⟩
    refine ItemsRest.val (fun ha_6 tka_6 Fa_6 => ?_)
    refine AllObj.cons (fun oa_6 hca_6 => ?_)
    refine AllObj.nil (fun Na_6 => ?_)
    simp only [List.cons_append, List.nil_append] at Na_6
    (try dsimp only)
    k_steps
    rw [show ([Str.ofString "autowrap", Str.ofString "show_cursor"].any fun x => x == Str.ofString "autowrap") = true by decide +kernel]
    refine Hold.mk ?_
    refine' drep_set ?F ?N ?U D_6 ?hn ?_
    (case F => k_asm); (case N => exact News.less (l' := (Sd, oS_6) :: (I2, oa_6) :: (L0 + 1, oc2) :: (T, oT) :: (ml8 ++ dk')) (by k_asm) (by kcf_all)); (case U => exact UpdF.head (off_soft3 o6 lSI nSC lST)); (case hn => omega)
    intro hb_6 oS_7 Fb_6 Nb_6 D_7
    (try dsimp only at Nb_6)
    (try dsimp only)
    k_steps
    refine Hold.mk ?_
    (rename Fr _ _ _ _ => kF_6); (rename News _ _ _ _ => kN_6)
    refine unr_end ((Sd, oS_7) :: (L0 + 1, oc2) :: (T, oT) :: (ml8 ++ dk')) kF_6 (News.less kN_6 (by kcf_all)) (fun p hp r hr => by rw [List.mem_singleton.mp hr]; exact Nat.ne_of_lt (lt_keys l2 (by rfl) p hp)) ⟨⟨by k_mem, trivial⟩, ?_⟩
    refine ItemsRest.val (fun ha_7 tka_7 Fa_7 => ?_)
    refine AllObj.cons (fun oa_7 hca_7 => ?_)
    refine AllObj.nil (fun Na_7 => ?_)
    simp only [List.cons_append, List.nil_append] at Na_7
    (try dsimp only)
    k_steps
    rw [show ([Str.ofString "autowrap", Str.ofString "show_cursor"].any fun x => x == Str.ofString "reverse_wrap") = false by decide +kernel]
    refine Hold.mk ?_
    refine' drep_set ?F ?N ?U D_7 ?hn ?_
    (case F => k_asm); (case N => exact News.less (l' := (Sd, oS_7) :: (I2, oa_7) :: (L0 + 1, oc2) :: (T, oT) :: (ml8 ++ dk')) (by k_asm) (by kcf_all)); (case U => exact UpdF.head (off_soft3 o6 lSI nSC lST)); (case hn => omega)
    intro hb_7 oS_8 Fb_7 Nb_7 D_8
    (try dsimp only at Nb_7)
    (try dsimp only)
    k_steps
    refine Hold.mk ?_
    (rename Fr _ _ _ _ => kF_7); (rename News _ _ _ _ => kN_7)
    refine unr_end ((Sd, oS_8) :: (L0 + 1, oc2) :: (T, oT) :: (ml8 ++ dk')) kF_7 (News.less kN_7 (by kcf_all)) (fun p hp r hr => by rw [List.mem_singleton.mp hr]; exact Nat.ne_of_lt (lt_keys l2 (by rfl) p hp)) ⟨⟨by k_mem, trivial⟩, ?_⟩
    refine ItemsRest.val (fun ha_8 tka_8 Fa_8 => ?_)
    refine AllObj.cons (fun oa_8 hca_8 => ?_)
    refine AllObj.nil (fun Na_8 => ?_)
    simp only [List.cons_append, List.nil_append] at Na_8
    (try dsimp only)
    k_steps
    rw [show ([Str.ofString "autowrap", Str.ofString "show_cursor"].any fun x => x == Str.ofString "reverse_wrap_far") = false by decide +kernel]
    refine Hold.mk ?_
    refine' drep_set ?F ?N ?U D_8 ?hn ?_
    (case F => k_asm); (case N => exact News.less (l' := (Sd, oS_8) :: (I2, oa_8) :: (L0 + 1, oc2) :: (T, oT) :: (ml8 ++ dk')) (by k_asm) (by kcf_all)); (case U => exact UpdF.head (off_soft3 o6 lSI nSC lST)); (case hn => omega)
    intro hb_8 oS_9 Fb_8 Nb_8 D_9
    (try dsimp only at Nb_8)
    (try dsimp only)
    k_steps
    refine Hold.mk ?_
    (rename Fr _ _ _ _ => kF_8); (rename News _ _ _ _ => kN_8)
    refine unr_end ((Sd, oS_9) :: (L0 + 1, oc2) :: (T, oT) :: (ml8 ++ dk')) kF_8 (News.less kN_8 (by kcf_all)) (fun p hp r hr => by rw [List.mem_singleton.mp hr]; exact Nat.ne_of_lt (lt_keys l2 (by rfl) p hp)) ⟨⟨by k_mem, trivial⟩, ?_⟩
    refine ItemsRest.val (fun ha_9 tka_9 Fa_9 => ?_)
    refine AllObj.cons (fun oa_9 hca_9 => ?_)
    refine AllObj.nil (fun Na_9 => ?_)
    simp only [List.cons_append, List.nil_append] at Na_9
    (try dsimp only)
    k_steps
    rw [show ([Str.ofString "autowrap", Str.ofString "show_cursor"].any fun x => x == Str.ofString "show_cursor") = true by decide +kernel]
    refine Hold.mk ?_
    refine' drep_set ?F ?N ?U D_9 ?hn ?_
    (case F => k_asm); (case N => exact News.less (l' := (Sd, oS_9) :: (I2, oa_9) :: (L0 + 1, oc2) :: (T, oT) :: (ml8 ++ dk')) (by k_asm) (by kcf_all)); (case U => exact UpdF.head (off_soft3 o6 lSI nSC lST)); (case hn => omega)
    intro hb_9 oS_10 Fb_9 Nb_9 D_10
    (try dsimp only at Nb_9)
    (try dsimp only)
    k_steps
    refine Hold.mk ?_
    (rename Fr _ _ _ _ => kF_9); (rename News _ _ _ _ => kN_9)
    refine unr_end ((Sd, oS_10) :: (L0 + 1, oc2) :: (T, oT) :: (ml8 ++ dk')) kF_9 (News.less kN_9 (by kcf_all)) (fun p hp r hr => by rw [List.mem_singleton.mp hr]; exact Nat.ne_of_lt (lt_keys l2 (by rfl) p hp)) ⟨⟨by k_mem, trivial⟩, ?_⟩
    refine ItemsRest.zero (fun hz tkz Fz Nz => ?_)
    (try dsimp only)
    k_steps
    refine Hold.mk ?_
    have hl45 : 5 + 5 * (r7 - 0).toNat + 10 < 64 := by omega
    refine' on_spec (rest := (Sd, oS_10) :: (L0 + 1, oc2) :: dk') ?B ?F ?X ?N ?T ?hk ?hdp ?hun M8 hl45 ?_
    (case B => k_asm); (case F => k_asm); (case X => k_asm); (case N => exact News.less Nz (by kcf_all)); (case T => k_asm); (case hk => rfl); (case hdp => ktr_room); (case hun => ktr_units)
    intro D2 hq tkq vs2 ss2 Fq Nq hneq hSq hOq hlq
    replace Nq : News _ _ _ ((D2, LCg.lst vs2) :: (Sd, oS_10) :: (L0 + 1, oc2) :: (ml8 ++ dk')) := News.less Nq (by kcf_all)
    (try dsimp only)
    k_steps
    refine Hold.mk ?_
    obtain ⟨lo9, kvs, hd9, hl9, hb9, hf9⟩ := D_10
    refine DSrc.intro (o := oS_10) (kvs := kvs) (by rfl) (by k_asm) (by k_asm) (by k_mem) lo9 hd9 (by omega) (fun g9 => ?_)
    refine compT_acc (FAcc (softened f') (kvs.map (·.1))) FAcc.zero ?_ ?_
    · intro i ys v I oI C oC D m₂ h tk E' hi hA hv hC hx F' N' off ne
      obtain ⟨k, xv, ekv, hkv⟩ := hv
      obtain ⟨t, rfl⟩ := PySem.Value.isStrOf_shape hkv
      have ek : (kvs.map (·.1))[i]? = some k := by rw [List.getElem?_map, ekv]; rfl
      have hkm : k ∈ kvs.map (·.1) := List.mem_of_getElem? ek
      clear ekv hkv
      (try simp only [LCg.Off3, and_true] at off)
      k_steps
      refine Hold.mk ?_
      refine dict_item (o := oS_10) (kvs := kvs) (by k_asm) (by k_mem) hd9 hb9 hkm ?_
      intro b hv2
      (try dsimp only)
      cases b
      · have hk2 : softened f' k = false := by
          cases h : softened f' k with
          | false => rfl
          | true => have h3 := (hf9 k).mpr h; rw [h3] at hv2; cases hv2
        k_steps
        exact Hold.mk ⟨rfl, FAcc.no hA ek hk2⟩
      · have hk2 : softened f' k = true := (hf9 k).mp hv2
        k_steps
        exact Hold.mk ⟨rfl, FAcc.yes hA ek hk2⟩
    · intro ys hA
      have hnd : (kvs.map (·.1)).Nodup := let ⟨_, _, r⟩ := hd9; r.2.2.2.2
      have hS9 := FAcc.all hA (by rw [List.length_map])
      have hl99 : ys.length < 64 := by
        have a := StrsAre.length hS9
        have b := List.length_filter_le (softened f') (kvs.map (·.1))
        rw [List.length_map] at b
        omega
      k_steps
      refine Hold.mk ?_
      (rename Fr _ _ _ _ => Fy); (rename News _ _ _ _ => Ny)
      refine sorted_N_str Fy Ny (News.isList Ny List.mem_cons_self) hS9 hl99 ?_
      intro h20 vs20 ss20 e20 F20 N20 hS20 hP20 hs20
      have hO20 : OnList (softened f') ss20 := on_perm hnd hP20 hs20 fun s h => List.mem_map.mpr ⟨_, valueAt_mem ((hf9 s).mpr h), rfl⟩
      obtain rfl := hO20.uniq hOq
      (try dsimp only)
      refine eq_strs (News.isList N20 (by k_mem)) (News.isList N20 List.mem_cons_self) hSq hS20 (by ktr_units) ?_
      (try dsimp only)
      k_steps
      exact hret _ _ (by assumption))
end
end
end
end
section
local macro_rules | `(tactic| walk_at "call ref") => `(tactic| (k_here; (with_reducible show wpAny _ _ (call (Value.ref 102) _) _ _ _); k_dflt (refine' stack_spec ?B ?F ?X ?N ?T ?hk ?hdp ?hun ?h1 ?h2 ?h3 ?_; (case B => k_asm); (case F => k_asm); (case X => k_asm); (case N => k_asm); (case T => k_asm); (case hk => first | exact rfl | assumption); (case hdp => ktr_room); (case hun => ktr_units); (case h1 => k_mem); (case h2 => k_mem); (case h3 => k_mem); intro h' tk' F' N'; (try dsimp only); (try k_sweep))))
local macro_rules | `(tactic| walk_at "exec While") => `(tactic| (k_here; k_dflt (refine whl_start 100 ?_)))
local macro_rules | `(tactic| walk_at "exec While Compare") => `(tactic| (k_here; k_dflt (refine whl_start 100 ?_)))
local macro_rules | `(tactic| walk_at "WhlIf") => `(tactic| (first | (refine WhlIf.yes (decide_eq_true (by omega)) ?_) | (refine WhlIf.no (decide_eq_false (by omega)) ?_)))
local macro_rules | `(tactic| walk_at "RPost") => `(tactic| dsimp only [RPost])
local macro_rules | `(tactic| walk_at "Hold") => `(tactic| fail "held")
local macro_rules | `(tactic| walk_at "pyIter ref") => `(tactic| (k_here; k_dflt (refine hold_range (by k_asm) ?_); refine Hold.out ?_))
local macro_rules | `(tactic| walk_at "call ref") => `(tactic| (k_here; (first
  | (with_reducible show wpAny _ _ (call (Value.ref 173) _) _ _ _)
  | (with_reducible show wpAny _ _ (call (Value.ref 178) _) _ _ _)
  | (with_reducible show wpAny _ _ (call (Value.ref 183) _) _ _ _)
  | (with_reducible show wpAny _ _ (call (Value.ref 188) _) _ _ _)
  | (with_reducible show wpAny _ _ (call (Value.ref 139) _) _ _ _)
  | (with_reducible show wpAny _ _ (call (Value.ref 146) _) _ _ _)
  | (with_reducible show wpAny _ _ (call (Value.ref 153) _) _ _ _)
  | (with_reducible show wpAny _ _ (call (Value.ref 160) _) _ _ _)
  | (with_reducible show wpAny _ _ (call (Value.ref 132) _) _ _ _)
  | (with_reducible show wpAny _ _ (call (Value.ref 195) _) _ _ _)
  | (with_reducible show wpAny _ _ (call (Value.ref 200) _) _ _ _)); refine Hold.out ?_))
local macro_rules | `(tactic| walk_at "call builtin:len") => `(tactic| (k_here; (with_reducible show wpAny _ _ (call (Value.builtin "len") [Value.ref _]) _ _ _); k_dflt (refine' len_led ?N ?m ?c ?b ?_; (case N => k_asm); (case m => k_mem); (case c => (simp only [List.size_toArray, List.length_append, List.length_cons, List.length_nil]; rfl)); (case b => omega))))
local macro_rules | `(tactic| walk_at "call builtin:list.append") => `(tactic| (k_here; (with_reducible show wpAny _ _ (call (Value.builtin _) [Value.ref _, _]) _ _ _); k_dflt (refine' append_led ?F ?N ?U ?z ?_; (case F => k_asm); (case N => k_asm); (case U => k_upd); (case z => ((try simp only [List.length_append, List.length_cons, List.length_nil]); omega))); (intro h' F' N'; (try dsimp only [List.nil_append, List.cons_append] at N'); (try k_sweep))))
local macro_rules | `(tactic| walk_at "subscriptTail") => `(tactic| (k_here; (with_reducible show wpAny _ _ (subscriptTail _ _ (Value.ref _) (Value.int _ _)) _ _ _); k_dflt (refine' item_led ?N ?m ?h0 ?hhi ?hx ?_ ?hs; (case N => k_asm); (case m => k_mem); (case h0 => first | decide | omega); (case hhi => first | decide | omega); (case hx => first | with_reducible assumption | rfl); (case hs => with_unfolding_all rfl))))
local macro_rules | `(tactic| k_mem) => `(tactic| with_reducible assumption)
local macro_rules | `(tactic| walk_at "call ref") => `(tactic| (k_here; (first
  | (with_reducible show wpAny _ _ (call (Value.ref 166) _) _ _ _)
  | (with_reducible show wpAny _ _ (call (Value.ref 121) _) _ _ _)
  | (with_reducible show wpAny _ _ (call (Value.ref 102) _) _ _ _)); refine Hold.out ?_))
local macro_rules | `(tactic| walk_at "CompSrc") => `(tactic| (k_here; k_dflt (refine LCg.CompSrc.ledger (by rfl) (by k_asm) (by k_asm) (by k_mem) (by rw [sizeLine_eq]; simp only [List.size_toArray]; omega) ?_; intro g'; (try dsimp only); refine Hold.out ?_)))
local macro_rules | `(tactic| ktr_room) => `(tactic| decide)
local macro_rules | `(tactic| ktr_units) => `(tactic| decide)
local macro_rules | `(tactic| walk_at "setAttr ref") => `(tactic| (k_here; refine Hold.out ?_))
local macro_rules | `(tactic| k_ne) => `(tactic| ((try dsimp only); first | exact NeH.h (by assumption) | exact Ne.symm (NeH.h (by assumption)) | (refine neN ?_; (try dsimp only); omega)))
local macro_rules | `(tactic| walk_at "getMethod ref") => `(tactic| (k_here; k_dflt (refine' method_inst ?k1 ?k2 ?k3 ?k4 ?k5 ?k6 ?k7 ?_; (case k1 => k_asm); (case k2 => k_asm); (case k3 => k_inst); (case k4 => k_is); (case k5 => k_is); (case k6 => k_is); (case k7 => k_get); k_whole)))
local macro_rules | `(tactic| k_in) => `(tactic| first | with_reducible assumption | exact Frag.In.keeps (by with_reducible assumption) (Fr.keep (by with_reducible assumption)))
section
structure LSt where
  dk : List (Addr × Obj)
  kl : List (Addr × Obj)
  wl : List (Addr × Obj)
  alt : Bool
  C : List Int
  O : List Int
  LV : List Int
def LJ (w : World) (D x Wd : Addr) (most : Int) (_ : Nat) (c : LSt) : Prop := DeckRep w c.dk D ∧ KeysRep w c.kl x most c.alt c.C c.O c.LV ∧ WorldRep w c.wl Wd c.alt c.C c.O c.LV ∧ Good most c.C c.O c.LV ∧ Apart c.dk c.kl ∧ Apart c.dk c.wl ∧ Apart c.kl c.wl
theorem law_holds : PySem.Challenge.rw_og0233_01.Holds := hd (by
  k_go0
  (all_goals try k_fold)
  rename ¬ ((63 : Nat) : Int) < _ => hc63
  k_steps
  refine Hold.mk ?_
  refine deck_spec (by k_asm) (by k_asm) (by k_asm) (by k_asm) (by k_asm) rfl (by ktr_room) (by decide) (by k_asm) (by k_asm) (by omega) ?_
  intro D h1 tk1 dk F1 N1 hD
  (try dsimp only)
  k_steps
  refine Hold.mk ?_
  refine draw_spec (dk := dk) (rest := []) (by k_asm) (by k_asm) (by k_asm) (News.less (by with_reducible assumption) (by kcf_all)) (by k_asm) rfl (by ktr_room) (by decide) hD (fun _ _ _ hq => nomatch hq) (by decide) (by decide) ?_
  intro m0 tm0 h2 tk2 dk2 F2 N2 hD2 ek2 hm0 hm1
  rw [List.append_nil] at N2
  (try dsimp only)
  k_steps
  refine Hold.mk ?_
  refine bits_spec (by k_asm) (by k_asm) (by k_asm) (by k_asm) (by k_asm) rfl (by ktr_room) (by decide) (by decide) (by decide) ?_
  intro b h3 tk3 F3 N3 hb3
  have ew : @Ne Nat _ b := hb3 _ List.mem_cons_self
  dsimp only at ew
  (try dsimp only)
  k_steps
  refine Hold.mk ?_
  refine bits_spec (by k_asm) (by k_asm) (by k_asm) (by k_asm) (by k_asm) rfl (by ktr_room) (by decide) (by decide) (by decide) ?_
  intro b2 h4 tk4 F4 N4 hb4
  have e02 : @Ne Nat _ b2 := hb4 _ List.mem_cons_self
  have ew2 : @Ne Nat _ b2 := hb4 _ (List.mem_cons_of_mem _ (List.mem_cons_of_mem _ List.mem_cons_self))
  dsimp only at e02 ew2
  (rename ∀ p ∈ dk2, p.1 < _ => hdl)
  rename Obj.IsDictOf _ _ [] => hd0
  have odk : OwnOff dk2 [_] := fun p hp q hq => by rw [List.mem_singleton.mp hq]; exact Nat.ne_of_lt (hdl p hp)
  (try dsimp only)
  k_steps
  refine Hold.mk ?_
  obtain ⟨wl, hW, hNw, apw⟩ := winit_end (T := dk2) (by assumption) (by assumption) (by assumption) (by assumption) (by assumption) (by assumption) (by assumption) hdl (fun p hp => hb3 p (List.mem_cons_of_mem _ hp)) (fun p hp => hb4 p ((show ∀ p ∈ dk2, p ∈ _ by kcf_all) p hp)) ew ew2 e02
  clear ew ew2 e02
  refine kinit_spec (rest := wl ++ dk2) (by k_asm) (by k_asm) (by k_asm) hNw (by k_asm) rfl (by ktr_room) (by ktr_units) (by omega) (by omega) ?_
  intro x h5 tk5 kl F5 N5 hK apk
  (try dsimp only)
  k_steps
  refine Hold.mk ?_
  refine draw_spec (dk := dk2) (rest := kl ++ wl) (by k_asm) (by k_asm) (by k_asm) (News.less (by with_reducible assumption) (by kcf_all)) (by k_asm) rfl (by ktr_room) (by decide) hD2 ((Apart.symm apk).less (by kcf_all) (fun _ h => h) |>.app (Apart.symm apw) |>.less (fun _ h => h) (by kcf_all)) (by decide) (by decide) ?_
  intro r9 tr9 h6 tk6 dk3 F6 N6 hD3 ek3 hr0 hr1
  (try dsimp only)
  k_steps
  refine Hold.mk ?_
  (rename IsRange _ _ _ _ _ _ _ _ => hR)
  have hW8 : WorldRep _ wl _ false [0] [0] [0, 0, 0, 0, 0, 0, 0, 0] := hW
  have hJ0 : LJ _ D x _ (1 + m0) 0 ⟨dk3, kl, wl, false, [0], [0], [0, 0, 0, 0, 0, 0, 0, 0]⟩ := ⟨hD3, hK, hW8, ⟨by omega, by omega, by simp, by simp; omega, by simp, by simp, by simp; omega, by simp, by simp⟩, (Apart.keys (Apart.symm (apk.less (fun _ h => h) (by kcf_all))) ek3), (Apart.keys (Apart.symm apw) ek3), apk.less (fun _ h => h) (by kcf_all)⟩
  refine' range_any (σ := LSt) [Str.ofString "place", Str.ofString "due"] (LJ _ D x _ (1 + m0)) (fun c' => c'.dk ++ (c'.kl ++ c'.wl)) ⟨dk3, kl, wl, false, [0], [0], [0, 0, 0, 0, 0, 0, 0, 0]⟩ ?hh hR ?hs ?hn ?F ?N hJ0 ?turn ?done
  (case hh => rfl)
  (case hs => exact small_one (by omega) (by omega) (by omega) (by omega))
  (case hn => exact rangeSize_nat _ _)
  (case F => k_asm)
  (case N => k_asm)
  (case turn =>
    intro i c' t' u' h' tk' I oI hi hJ' hI F' N'; (try dsimp only); (try k_fold)
    obtain ⟨dkL, klL, wlL, alt, C, O, LV⟩ := c'
    obtain ⟨j1, j2, j3, j4, j5, j6, j7⟩ := hJ'
    dsimp only at j1 j2 j3 j4 j5 j6 j7 N' hI
    k_steps
    refine Hold.mk ?_
    refine deed_spec (dk := dkL) (kl := klL) (wl := wlL) (rest := [(I, oI)]) (by k_asm) (by k_asm) (by k_asm) (News.less N' (by kcf_all)) (by k_asm) rfl (by ktr_room) (by decide) j1 j2 j3 j4 j5 j6 (Apart.one fun p hp => hI p (by simp [hp])) j7 (Apart.one fun p hp => hI p (by simp [hp])) (Apart.one fun p hp => hI p (by simp [hp])) ?_
    intro h7 tk7 dk7 kl7 wl7 C7 O7 LV7 F7 N7 q1 q2 q3 q4 q5 q6 q7 q8 q9 q10
    obtain ⟨sh, C8, O8, ⟨kl8, s8, dx, KL, St, cc, oo, t1, t2, t3, t4, tm, lv, vc, vo, k1, k2, k3, k4, K8⟩, W8, G8⟩ := orient q2 q3 q4
    clear q2 q3 q4 j1 j2 j3 j4 j5 j6 j7
    replace q5 : Apart dk7 kl8 := q5.less (fun _ h => h) s8
    replace q8 : Apart kl8 wl7 := q8.less s8 (fun _ h => h)
    replace q9 : Apart kl8 [(I, oI)] := q9.less s8 (fun _ h => h)
    replace N7 : News _ _ _ (dk7 ++ (kl8 ++ (wl7 ++ [(I, oI)]))) := News.less N7 fun p hp => by
      simp only [List.mem_append] at hp ⊢
      rcases hp with h | h | h
      · exact .inl h
      · exact .inr (.inl (s8 p h))
      · exact .inr (.inr h)
    clear s8
    obtain ⟨rfl, dis, hlv, hvc, hvo⟩ := K8
    obtain ⟨oW, Sc, Rc, Ro, WL, tsh, rc, ro, vl, u1, u2, u3, u4, bl, rfl, wdis, off, hdict, hrc, hro, hwl⟩ := W8
    have dis' := dis
    simp only [Dis, NeAll, and_true] at dis
    obtain ⟨⟨n1, n2, n3, n4, n5⟩, ⟨n6, n7, n8, n9⟩, ⟨n10, n11, n12⟩, ⟨n13, n14⟩, n15⟩ := dis
    replace n1 := NeH.mk n1; replace n2 := NeH.mk n2; replace n3 := NeH.mk n3; replace n4 := NeH.mk n4; replace n5 := NeH.mk n5; replace n6 := NeH.mk n6; replace n7 := NeH.mk n7; replace n8 := NeH.mk n8; replace n9 := NeH.mk n9; replace n10 := NeH.mk n10; replace n11 := NeH.mk n11; replace n12 := NeH.mk n12; replace n13 := NeH.mk n13; replace n14 := NeH.mk n14; replace n15 := NeH.mk n15
    obtain ⟨PC, fC, rfl⟩ := snoc_of G8.c0
    obtain ⟨PO, fO, rfl⟩ := snoc_of G8.o0
    obtain ⟨vcp, tC, rfl, hvcp⟩ := ints_snoc hvc
    obtain ⟨vop, tO, rfl, hvop⟩ := ints_snoc hvo
    have hlc := hvcp.length
    have hlo := hvop.length
    have hllv := hlv.length
    have hlwl := hwl.length
    have hrl := hrc.length
    have hrl2 := hro.length
    have g1 := G8.m1
    have g2 := G8.c1
    have g3 := G8.o1
    have g4 := G8.l
    simp only [List.length_append, List.length_cons, List.length_nil] at g2 g3 hrl hrl2
    cases sh
    · -- case false
      simp only [two, shI, Bool.false_eq_true, if_false, if_true] at *
      have e1 : NeH dx _ := ⟨q8 (dx, _) (List.mem_cons_of_mem _ List.mem_cons_self) _ List.mem_cons_self⟩
      have e2 : NeH dx Sc := ⟨q8 (dx, _) (List.mem_cons_of_mem _ List.mem_cons_self) (Sc, _) (List.mem_cons_of_mem _ List.mem_cons_self)⟩
      have e3 : NeH dx Rc := ⟨q8 (dx, _) (List.mem_cons_of_mem _ List.mem_cons_self) (Rc, _) (List.mem_cons_of_mem _ (List.mem_cons_of_mem _ List.mem_cons_self))⟩
      have e4 : NeH dx Ro := ⟨q8 (dx, _) (List.mem_cons_of_mem _ List.mem_cons_self) (Ro, _) (List.mem_cons_of_mem _ (List.mem_cons_of_mem _ (List.mem_cons_of_mem _ List.mem_cons_self)))⟩
      have e5 : NeH dx WL := ⟨q8 (dx, _) (List.mem_cons_of_mem _ List.mem_cons_self) (WL, _) (List.mem_cons_of_mem _ (List.mem_cons_of_mem _ (List.mem_cons_of_mem _ (List.mem_cons_of_mem _ List.mem_cons_self))))⟩
      have oX : OwnOff (bl ++ (dk7 ++ [(I, oI)])) [x, dx, KL, St, cc, oo] := OwnOff.app (OwnOff.lessL (q8.off (by simp)) (by kcf_all)) (OwnOff.app (q5.symm.off (by simp)) (q9.off (by simp)))
      replace N7 : News _ _ _ ((x, instObj 121 dx) :: (dx, dictOf (keysDict _ t1 t2 t3 t4 (1 + m0) tm KL alt St) 4) :: (KL, W.listOf lv.toArray k1) :: (St, W.listOf _ k2) :: (cc, W.listOf (vcp ++ [Value.int fC tC]).toArray k3) :: (oo, W.listOf (vop ++ [Value.int fO tO]).toArray k4) :: (_, oW) :: (Sc, W.listOf _ u1) :: (Rc, W.listOf rc.toArray u2) :: (Ro, W.listOf ro.toArray u3) :: (WL, W.listOf vl.toArray u4) :: (bl ++ (dk7 ++ [(I, oI)]))) := News.less N7 (by kcf_all)
      rw [stored2] at F7
      obtain ⟨T, eT⟩ : ∃ T, T = bl ++ (dk7 ++ [(I, oI)]) := ⟨_, rfl⟩
      rw [← eT] at N7 oX
      (try dsimp only)
      k_steps
      refine name_iter (fun Dt hDt => ?_)
      subst hDt
      refine iter_tupTurns (vs := [.int _ _, .int _ _]) (by rfl) (by k_asm) (by k_asm) List.mem_cons_self rfl rfl ?_
      intro I2 l2
      have l2r := l2
      k_lt l2
      refine ItemsRest.val (fun h9 tk9 F9 => ?_)
      refine AllObj.cons (fun o9 hc9 => ?_)
      refine AllObj.nil (fun N9 => ?_)
      simp only [List.cons_append, List.nil_append] at N9
      (try dsimp only)
      k_steps
      refine Hold.mk ?_
      refine seta_spec true (by k_asm) (by k_asm) (News.rot (by with_reducible assumption)) (by k_ne) ?_ (by rfl) ?_
      · repeat (refine off_one (by first | k_ne | exact Ne.symm (by k_ne)) ?_)
        exact fun p hp b hb => oX p hp b (by rw [List.mem_singleton.mp hb]; simp)
      intro h10 tk10 F10 N10
      (try dsimp only)
      k_steps
      refine Hold.mk ?_
      refine comp_acc (fun i ys => IntsAre ys ((PO ++ [fO]).take i)) .nil ?_ ?_
      · intro i ys v I9 oI9 C9 oC9 D9 m9 h tk E' hi9 hA hv hC hx F' N' off9 ne9
        obtain ⟨b9, f9, k9, r1, r2, r3⟩ := rows_get hro (i := i) (by rw [← hro.length]; simpa using hi9)
        have hb9 : v = .ref b9 := by
          have : _ = some v := hv
          rw [List.getElem?_toArray, r1] at this
          exact (Option.some.inj this).symm
        subst hb9
        have hf9 := G8.ov f9 (List.mem_of_getElem? r3)
        (try simp only [LCg.Off3, and_true] at off9)
        k_steps
        refine Hold.mk ?_
        refine' flags_spec (f := f9) (kb := k9) ?B ?F ?X ?N ?T rfl ?hdp ?hun ?hm hf9.1 hf9.2 ?_
        (case F => k_asm); (case N => k_asm); (case B => k_asm); (case X => k_asm); (case T => k_asm); (case hdp => ktr_room); (case hun => first | decide | (simp only [units_in1, units_deeper, units_caller]; done) | (simp only [units_in1, units_deeper, units_caller]; decide))
        (case hm => exact ((show ∀ p ∈ T, p ∈ _ by kcf_all) _ (by rw [eT]; exact List.mem_append_left _ r2)))
        intro t10 h11 tk11 F11 N11
        (try dsimp only)
        k_steps
        exact Hold.mk ⟨rfl, IntsAre.snoc hA r3⟩
      intro ys hA
      have hA2 : IntsAre ys (PO ++ [fO]) := by rwa [List.size_toArray, hro.length, List.take_length] at hA
      obtain ⟨yp, ty, rfl, hyp⟩ := ints_snoc hA2
      clear hA
      (try dsimp only)
      k_steps
      refine Hold.mk ?_
      refine' stack_spec (x := x) (dx := dx) (St := St) (c := oo) (o := cc) (alt := true) ?B ?F ?X ?N ?T rfl ?hdp ?hun ?m1 ?m2 ?m3 ?_
      (case F => k_asm); (case N => k_asm); (case B => k_asm); (case X => k_asm); (case T => k_asm); (case hdp => ktr_room); (case hun => first | decide | (simp only [units_in1, units_deeper, units_caller]; done) | (simp only [units_in1, units_deeper, units_caller]; decide))
      (case m1 => repeat (first | exact List.mem_cons_self | refine List.mem_cons_of_mem _ ?_)); (case m2 => repeat (first | exact List.mem_cons_self | refine List.mem_cons_of_mem _ ?_)); (case m3 => show (St, W.listOf #[Value.ref cc, Value.ref oo] k2) ∈ _; repeat (first | exact List.mem_cons_self | refine List.mem_cons_of_mem _ ?_))
      intro h12 tk12 F12 N12
      (try dsimp only)
      k_steps
      refine Hold.mk ?_
      refine' stack_spec (x := x) (dx := dx) (St := St) (c := oo) (o := cc) (alt := true) ?B ?F ?X ?N ?T rfl ?hdp ?hun ?m1 ?m2 ?m3 ?_
      (case F => k_asm); (case N => k_asm); (case B => k_asm); (case X => k_asm); (case T => k_asm); (case hdp => ktr_room); (case hun => first | decide | (simp only [units_in1, units_deeper, units_caller]; done) | (simp only [units_in1, units_deeper, units_caller]; decide))
      (case m1 => repeat (first | exact List.mem_cons_self | refine List.mem_cons_of_mem _ ?_)); (case m2 => repeat (first | exact List.mem_cons_self | refine List.mem_cons_of_mem _ ?_)); (case m3 => show (St, W.listOf #[Value.ref cc, Value.ref oo] k2) ∈ _; repeat (first | exact List.mem_cons_self | refine List.mem_cons_of_mem _ ?_))
      intro h13 tk13 F13 N13
      (try dsimp only)
      k_steps
      (rename Fr _ _ _ _ => kF); (rename News _ _ _ _ => kN)
      refine unr_end ((Dt, _) :: (x, instObj 121 dx) :: (dx, dictOf (keysDict _ t1 t2 t3 t4 (1 + m0) tm KL true St) 4) :: (KL, W.listOf lv.toArray k1) :: (St, W.listOf #[Value.ref cc, Value.ref oo] k2) :: (cc, W.listOf (vcp ++ [Value.int fC tC]).toArray k3) :: (oo, W.listOf (vop ++ [Value.int fO tO]).toArray k4) :: (_, oW) :: (Sc, W.listOf _ u1) :: (Rc, W.listOf rc.toArray u2) :: (Ro, W.listOf ro.toArray u3) :: (WL, W.listOf vl.toArray u4) :: T) kF (News.less kN (by kcf_all)) (fun p hp q hq => by rw [List.mem_singleton.mp hq]; exact Nat.ne_of_lt (lt_keys l2r (by rfl) p hp)) ⟨⟨List.mem_cons_self, trivial⟩, ?_⟩
      refine ItemsRest.val (fun h9 tk9 F9 => ?_)
      refine AllObj.cons (fun o9 hc9 => ?_)
      refine AllObj.nil (fun N9 => ?_)
      simp only [List.cons_append, List.nil_append] at N9
      (try dsimp only)
      k_steps
      refine Hold.mk ?_
      refine seta_spec false (by k_asm) (by k_asm) (News.rot (by with_reducible assumption)) (by k_ne) ?_ (by rfl) ?_
      · repeat (refine off_one (by first | k_ne | exact Ne.symm (by k_ne)) ?_)
        exact fun p hp b hb => oX p hp b (by rw [List.mem_singleton.mp hb]; simp)
      intro h10 tk10 F10 N10
      (try dsimp only)
      k_steps
      refine Hold.mk ?_
      refine comp_acc (fun i ys => IntsAre ys ((PC ++ [fC]).take i)) .nil ?_ ?_
      · intro i ys v I9 oI9 C9 oC9 D9 m9 h tk E' hi9 hA hv hC hx F' N' off9 ne9
        obtain ⟨b9, f9, k9, r1, r2, r3⟩ := rows_get hrc (i := i) (by rw [← hrc.length]; simpa using hi9)
        have hb9 : v = .ref b9 := by
          have : _ = some v := hv
          rw [List.getElem?_toArray, r1] at this
          exact (Option.some.inj this).symm
        subst hb9
        have hf9 := G8.cv f9 (List.mem_of_getElem? r3)
        (try simp only [LCg.Off3, and_true] at off9)
        k_steps
        refine Hold.mk ?_
        refine' flags_spec (f := f9) (kb := k9) ?B ?F ?X ?N ?T rfl ?hdp ?hun ?hm hf9.1 hf9.2 ?_
        (case F => k_asm); (case N => k_asm); (case B => k_asm); (case X => k_asm); (case T => k_asm); (case hdp => ktr_room); (case hun => first | decide | (simp only [units_in1, units_deeper, units_caller]; done) | (simp only [units_in1, units_deeper, units_caller]; decide))
        (case hm => exact ((show ∀ p ∈ T, p ∈ _ by kcf_all) _ (by rw [eT]; exact List.mem_append_left _ r2)))
        intro t10 h11 tk11 F11 N11
        (try dsimp only)
        k_steps
        exact Hold.mk ⟨rfl, IntsAre.snoc hA r3⟩
      intro ys hA
      have hA2 : IntsAre ys (PC ++ [fC]) := by rwa [List.size_toArray, hrc.length, List.take_length] at hA
      obtain ⟨yp, ty, rfl, hyp⟩ := ints_snoc hA2
      clear hA
      (try dsimp only)
      k_steps
      refine Hold.mk ?_
      refine' stack_spec (x := x) (dx := dx) (St := St) (c := cc) (o := oo) (alt := false) ?B ?F ?X ?N ?T rfl ?hdp ?hun ?m1 ?m2 ?m3 ?_
      (case F => k_asm); (case N => k_asm); (case B => k_asm); (case X => k_asm); (case T => k_asm); (case hdp => ktr_room); (case hun => first | decide | (simp only [units_in1, units_deeper, units_caller]; done) | (simp only [units_in1, units_deeper, units_caller]; decide))
      (case m1 => repeat (first | exact List.mem_cons_self | refine List.mem_cons_of_mem _ ?_)); (case m2 => repeat (first | exact List.mem_cons_self | refine List.mem_cons_of_mem _ ?_)); (case m3 => show (St, W.listOf #[Value.ref cc, Value.ref oo] k2) ∈ _; repeat (first | exact List.mem_cons_self | refine List.mem_cons_of_mem _ ?_))
      intro h12 tk12 F12 N12
      (try dsimp only)
      k_steps
      refine Hold.mk ?_
      refine' stack_spec (x := x) (dx := dx) (St := St) (c := cc) (o := oo) (alt := false) ?B ?F ?X ?N ?T rfl ?hdp ?hun ?m1 ?m2 ?m3 ?_
      (case F => k_asm); (case N => k_asm); (case B => k_asm); (case X => k_asm); (case T => k_asm); (case hdp => ktr_room); (case hun => first | decide | (simp only [units_in1, units_deeper, units_caller]; done) | (simp only [units_in1, units_deeper, units_caller]; decide))
      (case m1 => repeat (first | exact List.mem_cons_self | refine List.mem_cons_of_mem _ ?_)); (case m2 => repeat (first | exact List.mem_cons_self | refine List.mem_cons_of_mem _ ?_)); (case m3 => show (St, W.listOf #[Value.ref cc, Value.ref oo] k2) ∈ _; repeat (first | exact List.mem_cons_self | refine List.mem_cons_of_mem _ ?_))
      intro h13 tk13 F13 N13
      (try dsimp only)
      k_steps
      (rename Fr _ _ _ _ => kF); (rename News _ _ _ _ => kN)
      refine unr_end ((Dt, _) :: (x, instObj 121 dx) :: (dx, dictOf (keysDict _ t1 t2 t3 t4 (1 + m0) tm KL false St) 4) :: (KL, W.listOf lv.toArray k1) :: (St, W.listOf #[Value.ref cc, Value.ref oo] k2) :: (cc, W.listOf (vcp ++ [Value.int fC tC]).toArray k3) :: (oo, W.listOf (vop ++ [Value.int fO tO]).toArray k4) :: (_, oW) :: (Sc, W.listOf _ u1) :: (Rc, W.listOf rc.toArray u2) :: (Ro, W.listOf ro.toArray u3) :: (WL, W.listOf vl.toArray u4) :: T) kF (News.less kN (by kcf_all)) (fun p hp q hq => by rw [List.mem_singleton.mp hq]; exact Nat.ne_of_lt (lt_keys l2r (by rfl) p hp)) ⟨⟨List.mem_cons_self, trivial⟩, ?_⟩
      refine ItemsRest.zero (fun h14 tk14 F14 N14 => ?_)
      (try dsimp only)
      k_steps
      (rename Fr _ _ _ _ => kF2); (rename News _ _ _ _ => kN2)
      rw [eT] at kN2
      exact REnd.intro ⟨dk7, [(x, instObj 121 dx), (dx, dictOf (keysDict _ t1 t2 t3 t4 (1 + m0) tm KL false St) 4), (KL, W.listOf lv.toArray k1), (St, W.listOf #[Value.ref cc, Value.ref oo] k2), (cc, W.listOf (vcp ++ [Value.int fC tC]).toArray k3), (oo, W.listOf (vop ++ [Value.int fO tO]).toArray k4)], (_, oW) :: (Sc, W.listOf _ u1) :: (Rc, W.listOf rc.toArray u2) :: (Ro, W.listOf ro.toArray u3) :: (WL, W.listOf vl.toArray u4) :: bl, false, PC ++ [fC], PO ++ [fO], LV7⟩ kF2 (News.less kN2 (by kcf_all)) (ne_three q7 (Apart.keys q9 rfl) q10) (fun z h1 h2 => by
        obtain ⟨h3, h4⟩ := cont2 h2
        simp only [h1, h3, h4, if_false]) ⟨q1, (KeysRep.mk dx KL St cc oo t1 t2 t3 t4 tm lv _ _ k1 k2 k3 k4 ⟨rfl, dis', hlv, hvc, hvo⟩), (WorldRep.mk oW Sc Rc Ro WL tsh rc ro vl u1 u2 u3 u4 bl ⟨rfl, wdis, off, hdict, hrc, hro, hwl⟩), G8, Apart.keysR q5 rfl, q6, Apart.keys q8 rfl⟩
    · -- case true
      simp only [two, shI, Bool.false_eq_true, if_false, if_true] at *
      have e1 : NeH dx _ := ⟨q8 (dx, _) (List.mem_cons_of_mem _ List.mem_cons_self) _ List.mem_cons_self⟩
      have e2 : NeH dx Sc := ⟨q8 (dx, _) (List.mem_cons_of_mem _ List.mem_cons_self) (Sc, _) (List.mem_cons_of_mem _ List.mem_cons_self)⟩
      have e3 : NeH dx Rc := ⟨q8 (dx, _) (List.mem_cons_of_mem _ List.mem_cons_self) (Rc, _) (List.mem_cons_of_mem _ (List.mem_cons_of_mem _ List.mem_cons_self))⟩
      have e4 : NeH dx Ro := ⟨q8 (dx, _) (List.mem_cons_of_mem _ List.mem_cons_self) (Ro, _) (List.mem_cons_of_mem _ (List.mem_cons_of_mem _ (List.mem_cons_of_mem _ List.mem_cons_self)))⟩
      have e5 : NeH dx WL := ⟨q8 (dx, _) (List.mem_cons_of_mem _ List.mem_cons_self) (WL, _) (List.mem_cons_of_mem _ (List.mem_cons_of_mem _ (List.mem_cons_of_mem _ (List.mem_cons_of_mem _ List.mem_cons_self))))⟩
      have oX : OwnOff (bl ++ (dk7 ++ [(I, oI)])) [x, dx, KL, St, cc, oo] := OwnOff.app (OwnOff.lessL (q8.off (by simp)) (by kcf_all)) (OwnOff.app (q5.symm.off (by simp)) (q9.off (by simp)))
      replace N7 : News _ _ _ ((x, instObj 121 dx) :: (dx, dictOf (keysDict _ t1 t2 t3 t4 (1 + m0) tm KL alt St) 4) :: (KL, W.listOf lv.toArray k1) :: (St, W.listOf _ k2) :: (cc, W.listOf (vcp ++ [Value.int fC tC]).toArray k3) :: (oo, W.listOf (vop ++ [Value.int fO tO]).toArray k4) :: (_, oW) :: (Sc, W.listOf _ u1) :: (Rc, W.listOf rc.toArray u2) :: (Ro, W.listOf ro.toArray u3) :: (WL, W.listOf vl.toArray u4) :: (bl ++ (dk7 ++ [(I, oI)]))) := News.less N7 (by kcf_all)
      rw [stored2] at F7
      obtain ⟨T, eT⟩ : ∃ T, T = bl ++ (dk7 ++ [(I, oI)]) := ⟨_, rfl⟩
      rw [← eT] at N7 oX
      (try dsimp only)
      k_steps
      refine name_iter (fun Dt hDt => ?_)
      subst hDt
      refine iter_tupTurns (vs := [.int _ _, .int _ _]) (by rfl) (by k_asm) (by k_asm) List.mem_cons_self rfl rfl ?_
      intro I2 l2
      have l2r := l2
      k_lt l2
      refine ItemsRest.val (fun h9 tk9 F9 => ?_)
      refine AllObj.cons (fun o9 hc9 => ?_)
      refine AllObj.nil (fun N9 => ?_)
      simp only [List.cons_append, List.nil_append] at N9
      (try dsimp only)
      k_steps
      refine Hold.mk ?_
      refine seta_spec false (by k_asm) (by k_asm) (News.rot (by with_reducible assumption)) (by k_ne) ?_ (by rfl) ?_
      · repeat (refine off_one (by first | k_ne | exact Ne.symm (by k_ne)) ?_)
        exact fun p hp b hb => oX p hp b (by rw [List.mem_singleton.mp hb]; simp)
      intro h10 tk10 F10 N10
      (try dsimp only)
      k_steps
      refine Hold.mk ?_
      refine comp_acc (fun i ys => IntsAre ys ((PO ++ [fO]).take i)) .nil ?_ ?_
      · intro i ys v I9 oI9 C9 oC9 D9 m9 h tk E' hi9 hA hv hC hx F' N' off9 ne9
        obtain ⟨b9, f9, k9, r1, r2, r3⟩ := rows_get hro (i := i) (by rw [← hro.length]; simpa using hi9)
        have hb9 : v = .ref b9 := by
          have : _ = some v := hv
          rw [List.getElem?_toArray, r1] at this
          exact (Option.some.inj this).symm
        subst hb9
        have hf9 := G8.ov f9 (List.mem_of_getElem? r3)
        (try simp only [LCg.Off3, and_true] at off9)
        k_steps
        refine Hold.mk ?_
        refine' flags_spec (f := f9) (kb := k9) ?B ?F ?X ?N ?T rfl ?hdp ?hun ?hm hf9.1 hf9.2 ?_
        (case F => k_asm); (case N => k_asm); (case B => k_asm); (case X => k_asm); (case T => k_asm); (case hdp => ktr_room); (case hun => first | decide | (simp only [units_in1, units_deeper, units_caller]; done) | (simp only [units_in1, units_deeper, units_caller]; decide))
        (case hm => exact ((show ∀ p ∈ T, p ∈ _ by kcf_all) _ (by rw [eT]; exact List.mem_append_left _ r2)))
        intro t10 h11 tk11 F11 N11
        (try dsimp only)
        k_steps
        exact Hold.mk ⟨rfl, IntsAre.snoc hA r3⟩
      intro ys hA
      have hA2 : IntsAre ys (PO ++ [fO]) := by rwa [List.size_toArray, hro.length, List.take_length] at hA
      obtain ⟨yp, ty, rfl, hyp⟩ := ints_snoc hA2
      clear hA
      (try dsimp only)
      k_steps
      refine Hold.mk ?_
      refine' stack_spec (x := x) (dx := dx) (St := St) (c := oo) (o := cc) (alt := false) ?B ?F ?X ?N ?T rfl ?hdp ?hun ?m1 ?m2 ?m3 ?_
      (case F => k_asm); (case N => k_asm); (case B => k_asm); (case X => k_asm); (case T => k_asm); (case hdp => ktr_room); (case hun => first | decide | (simp only [units_in1, units_deeper, units_caller]; done) | (simp only [units_in1, units_deeper, units_caller]; decide))
      (case m1 => repeat (first | exact List.mem_cons_self | refine List.mem_cons_of_mem _ ?_)); (case m2 => repeat (first | exact List.mem_cons_self | refine List.mem_cons_of_mem _ ?_)); (case m3 => show (St, W.listOf #[Value.ref oo, Value.ref cc] k2) ∈ _; repeat (first | exact List.mem_cons_self | refine List.mem_cons_of_mem _ ?_))
      intro h12 tk12 F12 N12
      (try dsimp only)
      k_steps
      refine Hold.mk ?_
      refine' stack_spec (x := x) (dx := dx) (St := St) (c := oo) (o := cc) (alt := false) ?B ?F ?X ?N ?T rfl ?hdp ?hun ?m1 ?m2 ?m3 ?_
      (case F => k_asm); (case N => k_asm); (case B => k_asm); (case X => k_asm); (case T => k_asm); (case hdp => ktr_room); (case hun => first | decide | (simp only [units_in1, units_deeper, units_caller]; done) | (simp only [units_in1, units_deeper, units_caller]; decide))
      (case m1 => repeat (first | exact List.mem_cons_self | refine List.mem_cons_of_mem _ ?_)); (case m2 => repeat (first | exact List.mem_cons_self | refine List.mem_cons_of_mem _ ?_)); (case m3 => show (St, W.listOf #[Value.ref oo, Value.ref cc] k2) ∈ _; repeat (first | exact List.mem_cons_self | refine List.mem_cons_of_mem _ ?_))
      intro h13 tk13 F13 N13
      (try dsimp only)
      k_steps
      (rename Fr _ _ _ _ => kF); (rename News _ _ _ _ => kN)
      refine unr_end ((Dt, _) :: (x, instObj 121 dx) :: (dx, dictOf (keysDict _ t1 t2 t3 t4 (1 + m0) tm KL false St) 4) :: (KL, W.listOf lv.toArray k1) :: (St, W.listOf #[Value.ref oo, Value.ref cc] k2) :: (cc, W.listOf (vcp ++ [Value.int fC tC]).toArray k3) :: (oo, W.listOf (vop ++ [Value.int fO tO]).toArray k4) :: (_, oW) :: (Sc, W.listOf _ u1) :: (Rc, W.listOf rc.toArray u2) :: (Ro, W.listOf ro.toArray u3) :: (WL, W.listOf vl.toArray u4) :: T) kF (News.less kN (by kcf_all)) (fun p hp q hq => by rw [List.mem_singleton.mp hq]; exact Nat.ne_of_lt (lt_keys l2r (by rfl) p hp)) ⟨⟨List.mem_cons_self, trivial⟩, ?_⟩
      refine ItemsRest.val (fun h9 tk9 F9 => ?_)
      refine AllObj.cons (fun o9 hc9 => ?_)
      refine AllObj.nil (fun N9 => ?_)
      simp only [List.cons_append, List.nil_append] at N9
      (try dsimp only)
      k_steps
      refine Hold.mk ?_
      refine seta_spec true (by k_asm) (by k_asm) (News.rot (by with_reducible assumption)) (by k_ne) ?_ (by rfl) ?_
      · repeat (refine off_one (by first | k_ne | exact Ne.symm (by k_ne)) ?_)
        exact fun p hp b hb => oX p hp b (by rw [List.mem_singleton.mp hb]; simp)
      intro h10 tk10 F10 N10
      (try dsimp only)
      k_steps
      refine Hold.mk ?_
      refine comp_acc (fun i ys => IntsAre ys ((PC ++ [fC]).take i)) .nil ?_ ?_
      · intro i ys v I9 oI9 C9 oC9 D9 m9 h tk E' hi9 hA hv hC hx F' N' off9 ne9
        obtain ⟨b9, f9, k9, r1, r2, r3⟩ := rows_get hrc (i := i) (by rw [← hrc.length]; simpa using hi9)
        have hb9 : v = .ref b9 := by
          have : _ = some v := hv
          rw [List.getElem?_toArray, r1] at this
          exact (Option.some.inj this).symm
        subst hb9
        have hf9 := G8.cv f9 (List.mem_of_getElem? r3)
        (try simp only [LCg.Off3, and_true] at off9)
        k_steps
        refine Hold.mk ?_
        refine' flags_spec (f := f9) (kb := k9) ?B ?F ?X ?N ?T rfl ?hdp ?hun ?hm hf9.1 hf9.2 ?_
        (case F => k_asm); (case N => k_asm); (case B => k_asm); (case X => k_asm); (case T => k_asm); (case hdp => ktr_room); (case hun => first | decide | (simp only [units_in1, units_deeper, units_caller]; done) | (simp only [units_in1, units_deeper, units_caller]; decide))
        (case hm => exact ((show ∀ p ∈ T, p ∈ _ by kcf_all) _ (by rw [eT]; exact List.mem_append_left _ r2)))
        intro t10 h11 tk11 F11 N11
        (try dsimp only)
        k_steps
        exact Hold.mk ⟨rfl, IntsAre.snoc hA r3⟩
      intro ys hA
      have hA2 : IntsAre ys (PC ++ [fC]) := by rwa [List.size_toArray, hrc.length, List.take_length] at hA
      obtain ⟨yp, ty, rfl, hyp⟩ := ints_snoc hA2
      clear hA
      (try dsimp only)
      k_steps
      refine Hold.mk ?_
      refine' stack_spec (x := x) (dx := dx) (St := St) (c := cc) (o := oo) (alt := true) ?B ?F ?X ?N ?T rfl ?hdp ?hun ?m1 ?m2 ?m3 ?_
      (case F => k_asm); (case N => k_asm); (case B => k_asm); (case X => k_asm); (case T => k_asm); (case hdp => ktr_room); (case hun => first | decide | (simp only [units_in1, units_deeper, units_caller]; done) | (simp only [units_in1, units_deeper, units_caller]; decide))
      (case m1 => repeat (first | exact List.mem_cons_self | refine List.mem_cons_of_mem _ ?_)); (case m2 => repeat (first | exact List.mem_cons_self | refine List.mem_cons_of_mem _ ?_)); (case m3 => show (St, W.listOf #[Value.ref oo, Value.ref cc] k2) ∈ _; repeat (first | exact List.mem_cons_self | refine List.mem_cons_of_mem _ ?_))
      intro h12 tk12 F12 N12
      (try dsimp only)
      k_steps
      refine Hold.mk ?_
      refine' stack_spec (x := x) (dx := dx) (St := St) (c := cc) (o := oo) (alt := true) ?B ?F ?X ?N ?T rfl ?hdp ?hun ?m1 ?m2 ?m3 ?_
      (case F => k_asm); (case N => k_asm); (case B => k_asm); (case X => k_asm); (case T => k_asm); (case hdp => ktr_room); (case hun => first | decide | (simp only [units_in1, units_deeper, units_caller]; done) | (simp only [units_in1, units_deeper, units_caller]; decide))
      (case m1 => repeat (first | exact List.mem_cons_self | refine List.mem_cons_of_mem _ ?_)); (case m2 => repeat (first | exact List.mem_cons_self | refine List.mem_cons_of_mem _ ?_)); (case m3 => show (St, W.listOf #[Value.ref oo, Value.ref cc] k2) ∈ _; repeat (first | exact List.mem_cons_self | refine List.mem_cons_of_mem _ ?_))
      intro h13 tk13 F13 N13
      (try dsimp only)
      k_steps
      (rename Fr _ _ _ _ => kF); (rename News _ _ _ _ => kN)
      refine unr_end ((Dt, _) :: (x, instObj 121 dx) :: (dx, dictOf (keysDict _ t1 t2 t3 t4 (1 + m0) tm KL true St) 4) :: (KL, W.listOf lv.toArray k1) :: (St, W.listOf #[Value.ref oo, Value.ref cc] k2) :: (cc, W.listOf (vcp ++ [Value.int fC tC]).toArray k3) :: (oo, W.listOf (vop ++ [Value.int fO tO]).toArray k4) :: (_, oW) :: (Sc, W.listOf _ u1) :: (Rc, W.listOf rc.toArray u2) :: (Ro, W.listOf ro.toArray u3) :: (WL, W.listOf vl.toArray u4) :: T) kF (News.less kN (by kcf_all)) (fun p hp q hq => by rw [List.mem_singleton.mp hq]; exact Nat.ne_of_lt (lt_keys l2r (by rfl) p hp)) ⟨⟨List.mem_cons_self, trivial⟩, ?_⟩
      refine ItemsRest.zero (fun h14 tk14 F14 N14 => ?_)
      (try dsimp only)
      k_steps
      (rename Fr _ _ _ _ => kF2); (rename News _ _ _ _ => kN2)
      rw [eT] at kN2
      exact REnd.intro ⟨dk7, [(x, instObj 121 dx), (dx, dictOf (keysDict _ t1 t2 t3 t4 (1 + m0) tm KL true St) 4), (KL, W.listOf lv.toArray k1), (St, W.listOf #[Value.ref oo, Value.ref cc] k2), (cc, W.listOf (vcp ++ [Value.int fC tC]).toArray k3), (oo, W.listOf (vop ++ [Value.int fO tO]).toArray k4)], (_, oW) :: (Sc, W.listOf _ u1) :: (Rc, W.listOf rc.toArray u2) :: (Ro, W.listOf ro.toArray u3) :: (WL, W.listOf vl.toArray u4) :: bl, true, PC ++ [fC], PO ++ [fO], LV7⟩ kF2 (News.less kN2 (by kcf_all)) (ne_three q7 (Apart.keys q9 rfl) q10) (fun z h1 h2 => by
        obtain ⟨h3, h4⟩ := cont2 h2
        simp only [h1, h3, h4, if_false]) ⟨q1, (KeysRep.mk dx KL St cc oo t1 t2 t3 t4 tm lv _ _ k1 k2 k3 k4 ⟨rfl, dis', hlv, hvc, hvo⟩), (WorldRep.mk oW Sc Rc Ro WL tsh rc ro vl u1 u2 u3 u4 bl ⟨rfl, wdis, off, hdict, hrc, hro, hwl⟩), G8, Apart.keysR q5 rfl, q6, Apart.keys q8 rfl⟩
      )
  (case done =>
    intro c' u' h' tk' hJ' F' N'; (try dsimp only); (try k_fold)
    obtain ⟨dkL, klL, wlL, alt, C, O, LV⟩ := c'
    obtain ⟨j1, j2, j3, j4, j5, j6, j7⟩ := hJ'
    dsimp only at j1 j2 j3 j4 j5 j6 j7 N'
    k_steps
    refine Hold.mk ?_
    refine soft_spec (dk := dkL) (rest := klL ++ wlL) (by k_asm) (by k_asm) (by k_asm) (News.less N' (by kcf_all)) (by k_asm) rfl (by ktr_room) (by decide) j1 (Apart.app j5 j6) ?_
    intro h7 tk7 F7
    (try dsimp only)
    k_steps))
end
end
end
end Mine
theorem PySem.Challenge.cw_og0233_01_holds : PySem.Challenge.rw_og0233_01.Holds := by
  exact Mine.law_holds
