import PyProof.Rows.All
import Wide.All
import OpenK.AllK
import Wide.FinOn
import Lean
import PySem.Challenge.RW_og0280_01
open PySem PySem.W PyProof.Rows
set_option Elab.async false
set_option linter.all false
set_option maxRecDepth 100000
set_option maxHeartbeats 8000000
namespace Mine
section
local macro_rules | `(tactic| o_head $_) => `(tactic| skip)
theorem frag (h : PySem.Challenge.rw_og0280_01.row.Holds) : PySem.Challenge.rw_og0280_01.row.Holds := by
  k_head
  exact h
end
end Mine
namespace Mine
noncomputable def Stop (p : Prop) : Prop := p
theorem stop_in {p : Prop} (h : Stop p) : p := h
noncomputable abbrev Led := List (Addr × Obj)
noncomputable abbrev tupO (vs : List Value) (n : Nat) : Obj := { cls := .type "tuple", data := .seq vs.toArray n }
noncomputable def PenV (l : Led) (pv : Value) (bg : Int) : Prop :=
  (pv = .ref 22 ∧ bg = -1) ∨ ∃ pa t0 t1 t2 t3 t4 n, pv = .ref pa ∧ (pa, tupO [.int 0 t0, .int (-1) t1, .int bg t2, .int (-1) t3, .int 0 t4] n) ∈ l
structure Cell where
  codes : List Int
  w : Int
inductive CellV (l : Led) (bg : Int) (v : Value) (c : Cell) : Prop
  | mk (x cx : Addr) (vs : List Value) (pv : Value) (t n n' : Nat) (p1 : v = .ref x) (p2 : (x, tupO [.ref cx, .int c.w t, pv, .bool false] n) ∈ l) (p3 : (cx, tupO vs n') ∈ l) (p4 : IntsAre vs c.codes) (p5 : PenV l pv bg) : CellV l bg v c
inductive CellsV (l : Led) (bg : Int) : List Value → List Cell → Prop
  | nil : CellsV l bg [] []
  | cons {v : Value} {vs : List Value} {c : Cell} {cs : List Cell} : CellV l bg v c → CellsV l bg vs cs → CellsV l bg (v :: vs) (c :: cs)
theorem PenV.mono {l l' : Led} {pv : Value} {bg : Int} (h : PenV l pv bg) (hs : ∀ p ∈ l, p ∈ l') : PenV l' pv bg := by
  rcases h with h | ⟨pa, t0, t1, t2, t3, t4, n, e, hm⟩
  · exact .inl h
  · exact .inr ⟨pa, t0, t1, t2, t3, t4, n, e, hs _ hm⟩
theorem CellV.mono {l l' : Led} {bg : Int} {v : Value} {c : Cell} (h : CellV l bg v c) (hs : ∀ p ∈ l, p ∈ l') : CellV l' bg v c := by
  obtain ⟨x, cx, vs, pv, t, n, n', e, h1, h2, h3, h4⟩ := h
  exact ⟨x, cx, vs, pv, t, n, n', e, hs _ h1, hs _ h2, h3, h4.mono hs⟩
theorem CellsV.mono {l l' : Led} {bg : Int} {vs : List Value} {cs : List Cell} (h : CellsV l bg vs cs) (hs : ∀ p ∈ l, p ∈ l') : CellsV l' bg vs cs := by
  induction h with
  | nil => exact .nil
  | cons h _ ih => exact .cons (h.mono hs) ih
theorem CellsV.length {l : Led} {bg : Int} {vs : List Value} {cs : List Cell} (h : CellsV l bg vs cs) : vs.length = cs.length := by
  induction h with
  | nil => rfl
  | cons _ _ ih => rw [List.length_cons, List.length_cons, ih]
theorem CellsV.append {l : Led} {bg : Int} {vs vs' : List Value} {cs cs' : List Cell} (h : CellsV l bg vs cs) (h' : CellsV l bg vs' cs') : CellsV l bg (vs ++ vs') (cs ++ cs') := by
  induction h with
  | nil => exact h'
  | cons a _ ih => exact .cons a ih
theorem CellsV.take {l : Led} {bg : Int} {vs : List Value} {cs : List Cell} (h : CellsV l bg vs cs) (k : Nat) : CellsV l bg (vs.take k) (cs.take k) := by
  induction h generalizing k with
  | nil => simpa using .nil
  | cons a _ ih => cases k with
    | zero => exact .nil
    | succ k => exact .cons a (ih k)
theorem CellsV.drop {l : Led} {bg : Int} {vs : List Value} {cs : List Cell} (h : CellsV l bg vs cs) (k : Nat) : CellsV l bg (vs.drop k) (cs.drop k) := by
  induction h generalizing k with
  | nil => simpa using .nil
  | cons a h ih => cases k with
    | zero => exact .cons a h
    | succ k => exact ih k
theorem CellsV.get {l : Led} {bg : Int} {vs : List Value} {cs : List Cell} (h : CellsV l bg vs cs) {k : Nat} {c : Cell} (hk : cs[k]? = some c) : ∃ v, vs[k]? = some v ∧ CellV l bg v c := by
  induction h generalizing k with
  | nil => cases hk
  | cons a h ih => cases k with
    | zero => cases hk; exact ⟨_, rfl, a⟩
    | succ k => exact ih hk
noncomputable def Above (tl news : Led) : Prop := ∀ p ∈ tl, ∀ q ∈ news, q.1 < p.1
theorem above_nil {news : Led} : Above [] news := fun _ h => nomatch h
theorem lt_of_all {d : Addr} : ∀ {l : Led}, AllLt d l → ∀ p ∈ l, p.1 < d
  | [], _, _, hp => (nomatch hp)
  | q :: r, h, p, hp => by
    rcases List.mem_cons.mp hp with rfl | hp
    · exact h.1
    · exact lt_of_all h.2 p hp
theorem above_cons {x : Addr} {o : Obj} {tl news : Led} (h : AllLt x news) (k : Above tl news) : Above ((x, o) :: tl) news := by
  intro p hp
  rcases List.mem_cons.mp hp with rfl | hp
  · exact lt_of_all h
  · exact k p hp
theorem above_ne {tl news : Led} {l : Addr} {o : Obj} (h : Above tl news) (hm : (l, o) ∈ news) : ∀ p ∈ tl, p.1 ≠ l := fun p hp => Nat.ne_of_gt (h p hp _ hm)
theorem news_sub {h₀ h : Heap} {L : Addr} {l l' : Led} (N : News h₀ L h l) (hs : ∀ p ∈ l', p ∈ l) : News h₀ L h l' := fun p hp => N p (hs p hp)
theorem news_tl {h₀ h : Heap} {L : Addr} {q : Addr × Obj} {l : Led} (N : News h₀ L h (q :: l)) : News h₀ L h l := fun p hp => N p (.tail _ hp)
inductive TabV (l : Led) (t : Addr) : Prop
  | mk (d lw tw lm tm lj : Addr) (h1 h2 h3 : Int) (k1 k2 k3 n n1 n2 n3 n4 t1 t2 t3 t4 : Nat) (p1 : (t, instObj 542 d) ∈ l)
  (p2 : (d, dictOf [⟨h1, .str (Str.ofString "wide") k1, .ref lw⟩, ⟨h2, .str (Str.ofString "marks") k2, .ref lm⟩, ⟨h3, .str (Str.ofString "joiners") k3, .ref lj⟩] n) ∈ l)
  (p3 : (lw, listOf [Value.ref tw].toArray n1) ∈ l) (p4 : (tw, tupO [.int 19968 t1, .int 20000 t2] n2) ∈ l) (p5 : (lm, listOf [Value.ref tm].toArray n3) ∈ l) (p6 : (tm, tupO [.int 768 t3, .int 879 t4] n4) ∈ l) : TabV l t
theorem TabV.mono {l l' : Led} {t : Addr} (h : TabV l t) (hs : ∀ p ∈ l, p ∈ l') : TabV l' t := by
  obtain ⟨d, lw, tw, lm, tm, lj, h1, h2, h3, k1, k2, k3, n, n1, n2, n3, n4, t1, t2, t3, t4, a, b, c, e, f, g⟩ := h
  exact ⟨d, lw, tw, lm, tm, lj, h1, h2, h3, k1, k2, k3, n, n1, n2, n3, n4, t1, t2, t3, t4, hs _ a, hs _ b, hs _ c, hs _ e, hs _ f, hs _ g⟩
noncomputable def wOf (c : Int) : Int := if 768 ≤ c ∧ c ≤ 879 then 0 else if 19968 ≤ c ∧ c ≤ 20000 then 2 else 1
theorem news_mv {h₀ h : Heap} {L : Addr} {x : Addr × Obj} {tl : Led} (pre : Led) (N : News h₀ L h (pre ++ x :: tl)) : News h₀ L h (x :: (pre ++ tl)) := fun q hq => N q (by
  rcases List.mem_cons.mp hq with rfl | hq
  · exact List.mem_append.mpr (.inr (.head _))
  · rcases List.mem_append.mp hq with hq | hq
    · exact List.mem_append.mpr (.inl hq)
    · exact List.mem_append.mpr (.inr (.tail _ hq)))
theorem allLt_cons {x l : Addr} {o : Obj} {tl : Led} (h : l < x) (k : AllLt x tl) : AllLt x ((l, o) :: tl) := And.intro h k
theorem led_set {prog : Program} {w : World} {A : Around} {E : Value → Shared → Prop} {s : Shared} {h₀ : Heap} {L D : Addr} {m : Str → Option Value} {news news' : Led} {vs q : List Value} {n : Nat} {k : Int} {t : Tok} {v : Value} {Q : Unit → Shared → Prop}
    (F : Fr h₀ L s.heap m) (N : News h₀ L s.heap news) (h0 : 0 ≤ k) (hfit : k < 2 ^ 63) (h1 : k < (vs.length : Int)) (hq : vs.set k.toNat v = q) (U : Upd D (listOf vs.toArray n) (listOf q.toArray n) news news')
    (h : ∀ h', Fr h₀ L h' m → News h₀ L h' news' → Q () { s with heap := h' }) : wpAny (model prog w) A (setItem (.ref D) (.int k t) v) Q E s := by
  obtain ⟨pre, post, rfl, rfl, a, b⟩ := U.split
  have z := N (D, listOf vs.toArray n) (List.mem_append.mpr (.inr (.head _)))
  have hs : vs.toArray.size = vs.length := by simp
  subst hq
  refine ki_setAt z.1 h0 hfit (by lia) (h _ (F.change (Heap.SameBut.update ..) z.2.1 z.2.2) (ki_turn _ N a b ?_ ?_))
  · show vs.toArray.setIfInBounds k.toNat v = (vs.set k.toNat v).toArray
    apply Array.toList_inj.mp
    simp
  · simp
theorem led_setNeg {prog : Program} {w : World} {A : Around} {E : Value → Shared → Prop} {s : Shared} {h₀ : Heap} {L D : Addr} {m : Str → Option Value} {news news' : Led} {vs q : List Value} {n : Nat} {k : Int} {t : Tok} {v : Value} {Q : Unit → Shared → Prop}
    (F : Fr h₀ L s.heap m) (N : News h₀ L s.heap news) (h0 : k < 0) (hfit : -(2 ^ 63) ≤ k) (h1 : -(vs.length : Int) ≤ k) (hq : vs.set (k + vs.length).toNat v = q) (U : Upd D (listOf vs.toArray n) (listOf q.toArray n) news news')
    (h : ∀ h', Fr h₀ L h' m → News h₀ L h' news' → Q () { s with heap := h' }) : wpAny (model prog w) A (setItem (.ref D) (.int k t) v) Q E s := by
  obtain ⟨pre, post, rfl, rfl, a, b⟩ := U.split
  have z := N (D, listOf vs.toArray n) (List.mem_append.mpr (.inr (.head _)))
  have hs : vs.toArray.size = vs.length := by simp
  subst hq
  refine ki_setBack z.1 h0 (by lia) hfit (h _ (F.change (Heap.SameBut.update ..) z.2.1 z.2.2) (ki_turn _ N a b ?_ ?_))
  · show vs.toArray.setIfInBounds (k + vs.toArray.size).toNat v = (vs.set (k + vs.length).toNat v).toArray
    apply Array.toList_inj.mp
    simp
  · simp
theorem idx_last {r : List Value} {u1 : Value} : (r ++ [u1])[((↑(r ++ [u1]).length : Int) - 1).toNat]? = some u1 := by
  have e : ((↑(r ++ [u1]).length : Int) - 1).toNat = r.length := by simp only [List.length_append, List.length_cons, List.length_nil]; lia
  rw [e, List.getElem?_append_right (by lia)]; simp
theorem idx_last2 {r : List Value} {u0 u1 : Value} : (r ++ [u0, u1])[((↑(r ++ [u0, u1]).length : Int) - 1).toNat]? = some u1 := by
  have e : ((↑(r ++ [u0, u1]).length : Int) - 1).toNat = r.length + 1 := by simp only [List.length_append, List.length_cons, List.length_nil]; lia
  rw [e, List.getElem?_append_right (by lia)]; simp
theorem idx_prev {r : List Value} {u0 u1 : Value} : (r ++ [u0, u1])[((↑(r ++ [u0, u1]).length : Int) - 1 - 1).toNat]? = some u0 := by
  have e : ((↑(r ++ [u0, u1]).length : Int) - 1 - 1).toNat = r.length := by simp only [List.length_append, List.length_cons, List.length_nil]; lia
  rw [e, List.getElem?_append_right (by lia)]; simp
theorem set_last {r : List Value} {u1 v : Value} : (r ++ [u1]).set ((↑(r ++ [u1]).length : Int) - 1).toNat v = r ++ [v] := by
  have e : ((↑(r ++ [u1]).length : Int) - 1).toNat = r.length := by simp only [List.length_append, List.length_cons, List.length_nil]; lia
  rw [e, List.set_append_right _ _ (by lia)]; simp
theorem set_prev {r : List Value} {u0 u1 v : Value} : (r ++ [u0, u1]).set ((↑(r ++ [u0, u1]).length : Int) - 1 - 1).toNat v = r ++ [v, u1] := by
  have e : ((↑(r ++ [u0, u1]).length : Int) - 1 - 1).toNat = r.length := by simp only [List.length_append, List.length_cons, List.length_nil]; lia
  rw [e, List.set_append_right _ _ (by lia)]; simp
theorem upd_app {d : Addr} {o o' : Obj} {tl r r' : Led} (h : ∀ p ∈ tl, p.1 ≠ d) (u : Upd d o o' r r') : Upd d o o' (tl ++ r) (tl ++ r') := by
  induction tl with
  | nil => exact u
  | cons p tl ih => exact .tail (h p (.head _)) (ih fun q hq => h q (.tail _ hq))

noncomputable def frm (x : Str) (v : Value) (stored : List Str) (m₀ u : Str → Option Value) : Str → Option Value := fun y => if y = x then some v else if stored.contains y then u y else m₀ y
noncomputable def frmO (x : Str) (stored : List Str) (m₀ u : Str → Option Value) : Str → Option Value := fun y => if y = x then u y else if stored.contains y then u y else m₀ y
theorem frmO_of {x : Str} {stored : List Str} {m₀ m : Str → Option Value} (h : ∀ z, z ≠ x → stored.contains z = false → m z = m₀ z) : m = frmO x stored m₀ m := by
  funext y
  unfold frmO
  by_cases h1 : y = x
  · rw [if_pos h1]
  · rw [if_neg h1]
    cases h2 : stored.contains y with
    | true => rfl
    | false => exact h y h1 h2
inductive LoopNext (h₀ : Heap) (L : Addr) (x : Str) (stored : List Str) (m₀ : Str → Option Value) (l : Addr) (o : Obj) (T : Led) (tl : Led) (I' : Obj → Led → Prop) (s₁ s₂ : Shared) : Prop
  | mk (h' : Heap) (tk' : Nat) (m' : Str → Option Value) (o' : Obj) (tl' : Led) (p1 : s₂ = { s₁ with heap := h', toks := tk' }) (p2 : Fr h₀ L h' m') (p3 : ∀ z, z ≠ x → stored.contains z = false → m' z = m₀ z) (p4 : News h₀ L h' ((l, o') :: (tl' ++ T))) (p5 : Above tl' ((l, o) :: T)) (p6 : I' o' (tl' ++ tl)) : LoopNext h₀ L x stored m₀ l o T tl I' s₁ s₂
noncomputable def LoopOut (h₀ : Heap) (L : Addr) (x : Str) (stored : List Str) (m₀ : Str → Option Value) (l : Addr) (o : Obj) (T : Led) (tl : Led) (I' : Obj → Led → Prop) (Q : Flow → Shared → Prop) (s₁ : Shared) (f : Flow) (s₂ : Shared) : Prop :=
  match f with
  | .ret v => Q (.ret v) s₂
  | .brk => Q .next s₂
  | _ => LoopNext h₀ L x stored m₀ l o T tl I' s₁ s₂
inductive LmInv (x : Str) (stored : List Str) (m₀ : Str → Option Value) (l : Addr) (T₀ : Led) (I : Nat → Obj → Led → Prop) (i : Nat) (m : Str → Option Value) (nx : Led) : Prop
  | mk (o : Obj) (tl : Led) (p1 : nx = (l, o) :: (tl ++ T₀)) (p2 : ∀ p ∈ tl ++ T₀, p.1 ≠ l) (p3 : I i o tl) (p4 : ∀ z, z ≠ x → stored.contains z = false → m z = m₀ z) : LmInv x stored m₀ l T₀ I i m nx
theorem loop_mut {prog : Program} {w : World} {A : Around} {E : Value → Shared → Prop} {s : Shared} {env : Env} {h₀ : Heap} {x : Str} {body : List Stmt} {Q : Flow → Shared → Prop}
    {l lc : Addr} {cvs : List Value} {nc : Nat} {m₀ : Str → Option Value} {o₀ : Obj} {T₀ : Led} (stored : List Str) (I : Nat → Obj → Led → Prop)
    (hh : A.handled = none) (hlc : (lc, listOf cvs.toArray nc) ∈ T₀) (F : Fr h₀ env.locals s.heap m₀) (N : News h₀ env.locals s.heap ((l, o₀) :: T₀)) (hoff : ∀ p ∈ T₀, p.1 ≠ l) (h0 : I 0 o₀ [])
    (turn : ∀ i v o tl u h tk own, cvs[i]? = some v → (∀ p ∈ tl ++ (T₀ ++ own), p.1 ≠ l) → I i o tl → Fr h₀ env.locals h (frm x v stored m₀ u) → News h₀ env.locals h ((l, o) :: (tl ++ (T₀ ++ own))) →
      wpAny (model prog w) A (execs body env) (LoopOut h₀ env.locals x stored m₀ l o (tl ++ (T₀ ++ own)) tl (I (i + 1)) Q { s with heap := h, toks := tk }) E { s with heap := h, toks := tk })
    (done : ∀ o tl h tk u, (∀ p ∈ tl ++ T₀, p.1 ≠ l) → I cvs.length o tl → Fr h₀ env.locals h (frmO x stored m₀ u) → News h₀ env.locals h ((l, o) :: (tl ++ T₀)) → Q .next { s with heap := h, toks := tk }) :
    wpAny (model prog w) A (pyIter (.ref lc)) (fun it s₂ => LoopAtV prog w A h₀ env x body Q E it s₂) E s := by
  refine kdl_iter (l := lc) (vs := cvs) (nn := nc) (m₀ := m₀) (news := (l, o₀) :: T₀) (LmInv x stored m₀ l T₀ I) hh (.tail _ hlc) F N ⟨o₀, [], rfl, hoff, h0, fun _ _ _ => rfl⟩ ?_ ?_
  · rintro i v m₁ nx h tk own hv hown hl₁ ⟨o, tl, rfl, ho, hI, hm⟩ F₁ N₁
    have em : (fun y => if y = x then some v else m₁ y) = frm x v stored m₀ m₁ := by
      funext y
      unfold frm
      by_cases h1 : y = x
      · rw [if_pos h1, if_pos h1]
      · rw [if_neg h1, if_neg h1]
        cases h2 : stored.contains y with
        | true => rfl
        | false => exact hm y h1 h2
    rw [em] at F₁
    have hall : ∀ p ∈ tl ++ (T₀ ++ own), p.1 ≠ l := by
      intro p hp
      rcases List.mem_append.mp hp with hp | hp
      · exact ho p (List.mem_append.mpr (.inl hp))
      · rcases List.mem_append.mp hp with hp | hp
        · exact ho p (List.mem_append.mpr (.inr hp))
        · exact hown p hp l (.head _)
    have e : (l, o) :: (tl ++ T₀) ++ own = (l, o) :: (tl ++ (T₀ ++ own)) := by rw [List.cons_append, List.append_assoc]
    rw [e] at N₁
    refine wpAny_mono (turn i v o tl m₁ h tk own hv hall hI F₁ N₁) (fun f s₂ p => ?_) fun _ _ q => q
    have up : LoopNext h₀ env.locals x stored m₀ l o (tl ++ (T₀ ++ own)) tl (I (i + 1)) { s with heap := h, toks := tk } s₂ → InvEndG h₀ env.locals (fun m' nx => (lc, listOf cvs.toArray nc) ∈ nx ∧ LmInv x stored m₀ l T₀ I (i + 1) m' nx) own { s with heap := h, toks := tk } s₂ := by
      rintro ⟨h', tk', m', o', tl', rfl, F', hm', N', hab, hI'⟩
      refine ⟨h', tk', m', _, (l, o') :: ((tl' ++ tl) ++ T₀), rfl, F', N', ?_, ?_, ?_, ?_, o', tl' ++ tl, rfl, ?_, hI', hm'⟩
      · intro p hp
        simp only [List.mem_cons, List.mem_append] at hp ⊢
        rcases hp with hp | (hp | hp) | hp
        · exact .inl hp
        · exact .inr (.inl hp)
        · exact .inr (.inr (.inl hp))
        · exact .inr (.inr (.inr (.inl hp)))
      · intro p hp
        simp only [List.mem_cons, List.mem_append]
        exact .inr (.inr (.inr (.inr hp)))
      · intro p hp b hb
        obtain ⟨q, hq, rfl⟩ := List.mem_map.mp hb
        simp only [List.mem_cons, List.mem_append] at hq
        rcases hq with rfl | (hq | hq) | hq
        · exact hown p hp l (.head _)
        · exact Nat.ne_of_lt (hab q hq p (by simp only [List.mem_cons, List.mem_append]; exact .inr (.inr (.inr hp))))
        · exact hown p hp q.1 (List.mem_map.mpr ⟨q, by simp only [List.mem_cons, List.mem_append]; exact .inr (.inl hq), rfl⟩)
        · exact hown p hp q.1 (List.mem_map.mpr ⟨q, by simp only [List.mem_cons, List.mem_append]; exact .inr (.inr hq), rfl⟩)
      · exact List.mem_cons.mpr (.inr (List.mem_append.mpr (.inr hlc)))
      · intro p hp
        simp only [List.mem_append] at hp
        rcases hp with (hp | hp) | hp
        · exact Nat.ne_of_gt (hab p hp (l, o) (.head _))
        · exact ho p (List.mem_append.mpr (.inl hp))
        · exact ho p (List.mem_append.mpr (.inr hp))
    cases f with
    | ret v => exact p
    | brk => exact p
    | next => exact up p
    | cont => exact up p
  · rintro m₁ nx h tk ⟨o, tl, rfl, ho, hI, hm⟩ F₁ N₁
    rw [frmO_of hm] at F₁
    exact done o tl h tk m₁ ho hI F₁ N₁
end Mine
namespace Mine
theorem fill : (PySem.Challenge.rw_og0280_01 = PySem.Challenge.rw_og0280_01) ∧ (Mine.frag.heap_1 = Mine.frag.heap_1) := by
  k_fill
  exact ⟨rfl, rfl⟩
local macro_rules | `(tactic| k_room) => `(tactic| ((simp only [depth_under_make, depth_under_kw, depth_in1, depth_deeper, depth_caller]); omega))
local macro_rules | `(tactic| k_mem) => `(tactic| first | with_reducible assumption | assumption)
section
variable {prog : Program} {w : World} {p : Program} {loose : List Str} {mean : ExcName → Option Value} {mg mb : Str → Option Value}
 {dp un : Nat} {gd : Option (List Code)} {cn : Str} {cs : Scope} {a : Addr} {ccd : Value} {cl : List (Str × Addr)} {outer : List Env} {A₀ : Around} {base h₀ : Heap} {L : Addr} {m : Str → Option Value} {s : Shared} {Q E : Value → Shared → Prop}

theorem blank_cell_ok {news : Led} {pv : Value} {bg : Int} (B : Below A₀ base outer h₀) (F : Fr h₀ L s.heap m) (X : (Mine.frag.heap_1 w.params).In h₀) (N : News h₀ L s.heap news) (T : Top p loose mean mg mb h₀) (hk : cs.kind = .function)
   (hd : dp + 2 < recursionLimit) (hu : un + 16 < cLine)
   (hp : PenV news pv bg)
   (hret : ∀ v tl h' tk', Fr h₀ L h' m → News h₀ L h' (tl ++ news) → Above tl news → CellV tl bg v ⟨[], 1⟩ → Q v { s with heap := h', toks := tk' }) :
   wpAny (model prog w) (ktrTop dp un gd cn cs L a ccd cl outer) (call (.ref 116) [pv]) Q E s := by
  rcases hp with ⟨rfl, rfl⟩ | ⟨pa, t0, t1, t2, t3, t4, n, rfl, hp⟩
  · refine wpAny_call ?_
    k_dflt ktr_enter
    k_steps
    (repeat (rename _ ∧ _ => hAnd; cases hAnd))
    refine' hret _ [_, _, _] _ _ ?_ ?_ ?_ ?_
    rotate_left 3
    · assumption
    · assumption
    · exact above_cons (by assumption) (above_cons (by assumption) (above_cons (allLt_of (by assumption)) above_nil))
    · exact ⟨_, _, _, _, _, _, _, rfl, List.Mem.head _, List.Mem.tail _ (List.Mem.tail _ (List.Mem.head _)), IntsAre.nil, .inr ⟨_, _, _, _, _, _, _, rfl, List.Mem.tail _ (List.Mem.head _)⟩⟩
  · refine wpAny_call ?_
    k_dflt ktr_enter
    k_steps
    (repeat (rename _ ∧ _ => hAnd; cases hAnd))
    refine' hret _ [_, _, _] _ _ ?_ ?_ ?_ ?_
    rotate_left 3
    · assumption
    · assumption
    · exact above_cons (by assumption) (above_cons (by assumption) (above_cons (allLt_of (by assumption)) above_nil))
    · exact ⟨_, _, _, _, _, _, _, rfl, List.Mem.head _, List.Mem.tail _ (List.Mem.tail _ (List.Mem.head _)), IntsAre.nil, .inr ⟨_, _, _, _, _, _, _, rfl, List.Mem.tail _ (List.Mem.head _)⟩⟩
end
end Mine
namespace Mine
theorem gen_toks {α : Type} {M : Model} {A : Around} {t : Sem α} {Q : α → Shared → Prop} {E : Value → Shared → Prop} {h g d tk o} (H : ∀ tk, wpAny M A t Q E ⟨h, g, d, tk, o⟩) : wpAny M A t Q E ⟨h, g, d, tk, o⟩ := H tk
theorem rm0 {a b k : Nat} (h : a + b < k) : a < k := by lia
theorem rm1 {a b k x : Nat} (h : a + b < k) (hc : x ≤ b) : a + x < k := by lia
theorem rm2 {a b k x y : Nat} (h : a + b < k) (hc : x + y ≤ b) : a + x + y < k := by lia
theorem rm3 {a b k x y z : Nat} (h : a + b < k) (hc : x + y + z ≤ b) : a + x + y + z < k := by lia
theorem om_le {n c d : Nat} (h : n ≤ c) (hc : Nat.ble c d = true) : n ≤ d := Nat.le_trans h (Nat.le_of_ble_eq_true hc)
theorem om_add {n c d x : Nat} (h : n ≤ c) (hc : Nat.ble (c + x) d = true) : n + x ≤ d := Nat.le_trans (Nat.add_le_add_right h x) (Nat.le_of_ble_eq_true hc)
theorem om_eqle {n m c d : Nat} (e : n = m) (h : m ≤ c) (hc : Nat.ble c d = true) : n ≤ d := e ▸ Nat.le_trans h (Nat.le_of_ble_eq_true hc)
theorem om_lt {n c d : Nat} (h : n ≤ c) (hc : Nat.ble (c + 1) d = true) : n < d := Nat.lt_of_le_of_lt h (Nat.le_of_ble_eq_true hc)
theorem om_63 {n c : Nat} (h : n ≤ c) (hc : Nat.ble (c + 1) 9223372036854775808 = true) : (n : Int) < 2 ^ 63 := by have := Nat.le_of_ble_eq_true hc; lia
theorem om_eq63 {n m c : Nat} (e : n = m) (h : m ≤ c) (hc : Nat.ble (c + 1) 9223372036854775808 = true) : (n : Int) < 2 ^ 63 := om_63 (e ▸ h) hc
theorem om_le2 {n m c d : Nat} (h : n ≤ m) (h2 : m ≤ c) (hc : Nat.ble c d = true) : n ≤ d := Nat.le_trans h (om_le h2 hc)
theorem om_le2s {n m c d : Nat} (h : n + 1 ≤ m) (h2 : m ≤ c) (hc : Nat.ble c d = true) : n ≤ d := Nat.le_trans (Nat.le_of_succ_le h) (om_le h2 hc)
theorem om_le2_63 {n m c : Nat} (h : n ≤ m) (h2 : m ≤ c) (hc : Nat.ble (c + 1) 9223372036854775808 = true) : (n : Int) < 2 ^ 63 := om_63 (Nat.le_trans h h2) hc
theorem om_le2s_63 {n m c : Nat} (h : n + 1 ≤ m) (h2 : m ≤ c) (hc : Nat.ble (c + 1) 9223372036854775808 = true) : (n : Int) < 2 ^ 63 := om_63 (Nat.le_trans (Nat.le_of_succ_le h) h2) hc
theorem om_z62 {k : Nat} {c d : Int} (h : (k : Int) < c) (hc : decide (c ≤ d) = true) : (k : Int) < d := Int.lt_of_lt_of_le h (of_decide_eq_true hc)
theorem om_zn62 {k : Nat} : -(2 ^ 62) ≤ (k : Int) := by have := Int.natCast_nonneg k; lia
theorem om_kle {k d : Nat} {c : Int} (h : (k : Int) < c) (hc : decide (c ≤ (d : Int)) = true) : k ≤ d := by have := of_decide_eq_true hc; lia
theorem om_neg1 {n : Nat} : -((n + 1 : Nat) : Int) ≤ -1 := by lia
theorem om_pos {n : Nat} : (0 : Int) < ((n + 1 : Nat) : Int) := by lia
theorem om_at {n j : Nat} {a k : Int} (h : (n : Int) = a) (hk : k = (j : Int)) : a + k = (n : Int) + (j : Int) := by rw [h, hk]
theorem om_at0 {n : Nat} {a : Int} (h : (n : Int) = a) : a = (n : Int) + ((0 : Nat) : Int) := by lia
theorem om_add63 {n c x : Nat} (h : n ≤ c) (hc : Nat.ble (c + x + 1) 9223372036854775808 = true) : ((n + x : Nat) : Int) < 2 ^ 63 := om_63 (Nat.add_le_add_right h x) hc
theorem om_ne {a b c : Int} (h : a = b) (hc : ¬ b = c) : ¬ a = c := h ▸ hc
theorem fill_J : (PySem.Challenge.rw_og0280_01 = PySem.Challenge.rw_og0280_01) ∧ (Mine.frag.heap_1 = Mine.frag.heap_1) := by
  k_fill
  exact ⟨rfl, rfl⟩
local macro_rules | `(tactic| k_all) => `(tactic| k_extra "k_all")
local macro_rules | `(tactic| k_mem) => `(tactic| k_extra "k_mem")
local macro_rules | `(tactic| k_ne) => `(tactic| k_extra "k_ne")
local macro_rules | `(tactic| k_room) => `(tactic| k_extra "k_room")
local macro_rules | `(tactic| k_upd) => `(tactic| k_extra "k_upd")
local macro_rules | `(tactic| ktr_room) => `(tactic| k_extra "ktr_room")
local macro_rules | `(tactic| omega) => `(tactic| k_extra "omega")
local macro_rules | `(tactic| walk_at $s:str) => `(tactic| k_extra $s)
section
theorem rg1 : True := by
  k_with_none
  k_with "omega" => (first | decide | (with_reducible first | exact Int.natCast_nonneg _ | exact rm1 ‹_› (by decide) | exact rm2 ‹_› (by decide) | exact rm3 ‹_› (by decide) | exact om_le ‹_› (by decide) | exact om_63 ‹_› (by decide) | exact om_eqle ‹_› ‹_› (by decide) | exact om_eq63 ‹_› ‹_› (by decide) | exact om_add ‹_› (by decide) | exact om_ne ‹_› (by decide) | exact om_le2 ‹_› ‹_› (by decide) | exact om_le2s ‹_› ‹_› (by decide) | exact om_le2_63 ‹_› ‹_› (by decide) | exact om_le2s_63 ‹_› ‹_› (by decide) | exact om_z62 ‹_› (by decide) | exact om_zn62 | exact om_kle ‹_› (by decide) | exact om_neg1 | exact om_pos | exact om_at ‹_› (by decide) | exact om_at0 ‹_› | exact om_add63 ‹_› (by decide) | exact Nat.ne_of_gt (by k_extra "pick") | exact Nat.ne_of_lt (by k_extra "pick")))
  k_with "ktr_room" => (first | exact rm0 (by assumption) | exact rm1 (by assumption) (Nat.le_of_ble_eq_true rfl))
  k_with "k_ne" => ((refine neN ?_; (try dsimp only); first | exact Nat.ne_of_gt (by assumption) | exact Nat.ne_of_lt (by assumption) | exact Nat.ne_of_gt (And.left (by assumption)) | exact Nat.ne_of_lt (And.left (by assumption)) | exact Nat.ne_of_gt (And.left (And.right (by assumption))) | exact Nat.ne_of_lt (And.left (And.right (by assumption))) | exact Nat.ne_of_gt (And.right (by assumption)) | exact Nat.ne_of_lt (And.right (by assumption)) | exact Nat.ne_of_gt (And.left (And.right (And.right (by assumption)))) | exact Nat.ne_of_lt (And.left (And.right (And.right (by assumption)))) | exact Nat.ne_of_gt (And.right (And.right (by assumption))) | exact Nat.ne_of_lt (And.right (And.right (by assumption)))))
  k_with "pick" => (with_reducible first | assumption | exact And.left ‹_› | exact And.left (And.right ‹_›) | exact And.left (And.right (And.right ‹_›)) | exact And.left (And.right (And.right (And.right ‹_›))) | exact And.left (And.right (And.right (And.right (And.right ‹_›)))) | exact And.left (And.right (And.right (And.right (And.right (And.right ‹_›))))) | exact And.left (And.right (And.right (And.right (And.right (And.right (And.right ‹_›)))))) | exact And.left (And.right (And.right (And.right (And.right (And.right (And.right (And.right ‹_›))))))) | exact And.left (And.right (And.right (And.right (And.right (And.right (And.right (And.right (And.right ‹_›)))))))) | exact And.left (And.right (And.right (And.right (And.right (And.right (And.right (And.right (And.right (And.right ‹_›))))))))) | exact And.left (And.right (And.right (And.right (And.right (And.right (And.right (And.right (And.right (And.right (And.right ‹_›)))))))))) | exact (And.right ‹_›) | exact (And.right (And.right ‹_›)) | exact (And.right (And.right (And.right ‹_›))) | exact (And.right (And.right (And.right (And.right ‹_›)))) | exact (And.right (And.right (And.right (And.right (And.right ‹_›))))) | exact (And.right (And.right (And.right (And.right (And.right (And.right ‹_›)))))) | exact (And.right (And.right (And.right (And.right (And.right (And.right (And.right ‹_›))))))) | exact (And.right (And.right (And.right (And.right (And.right (And.right (And.right (And.right ‹_›)))))))) | exact (And.right (And.right (And.right (And.right (And.right (And.right (And.right (And.right (And.right ‹_›))))))))) | exact (And.right (And.right (And.right (And.right (And.right (And.right (And.right (And.right (And.right (And.right ‹_›)))))))))))
  k_with "k_room" => (((simp only [depth_under_make, depth_under_kw, depth_in1, depth_deeper, depth_caller]); omega))
  k_with "k_all" => (assumption)
  k_with "eval Name" => (k_here; dsimp only)
  k_with "eval Call" => (k_here; dsimp only)
  k_with "eval Constant int" => (k_here; dsimp only)
  k_with "eval Attribute Name" => (k_here; dsimp only)
  k_with "eval BinOp" => (k_here; dsimp only)
  k_with "storeName" => (k_here; dsimp only)
  k_with "setAttr ref" => (k_here; dsimp only)
  k_with "eval Compare" => (k_here; dsimp only)
  k_with "isTrue Compare" => (k_here; dsimp only)
  k_with "eval Subscript" => (k_here; dsimp only)
  k_with "execs cons" => (k_here; first | (with_reducible rename News _ _ _ _ => nZ9; dsimp only at nZ9) | dsimp only | ((with_reducible show wpAny _ _ _ _ _ (Shared.mk _ _ _ (HAdd.hAdd _ _) _)); refine gen_toks ?_; intro _))
  k_with "eval Name" => (k_here; (fail_if_success (with_reducible show wpAny _ _ (eval _ (compEnvC _ _ _ _)) _ _ _)); (try dsimp only); k_dflt (first | (refine' nameX_L ?q9F ?q9v ?_ ?q9a ?q9b; (case q9F => k_asm); (case q9a => rfl); (case q9b => rfl); (case q9v => rfl); k_whole) | (refine' nameX_K ?q9F ?q9X ?q9T ?q9e ?_ ?q9a ?q9b; (case q9F => k_asm); (case q9X => k_asm); (case q9T => k_asm); (case q9a => rfl); (case q9b => rfl); (case q9e => k_is); k_whole) | (refine' nameX_B ?q9F ?q9X ?q9T ?q9e ?q9v ?q9n ?_ ?q9a ?q9b; (case q9F => k_asm); (case q9X => k_asm); (case q9T => k_asm); (case q9a => rfl); (case q9b => rfl); (case q9e => k_is); (case q9v => boot_fast); (case q9n => decide); k_whole)))
  k_with "execs cons" => (k_here; (try (with_reducible rename News _ _ _ _ => nZ9; dsimp only at nZ9)); (try dsimp only); (try ((with_reducible show wpAny _ _ _ _ _ (Shared.mk _ _ _ (HAdd.hAdd _ _) _)); refine gen_toks ?_; intro _)); (with_reducible refine wpAny_execs_cons ?_); (try dsimp only))
  k_with "eval Constant int" => (k_here; (try dsimp only); refine wpAny_Constant_int ?_)
  k_with "spliced" => (k_here; (fail_if_success (with_reducible show wpAny _ _ (spliced (backTo _ (starEach (PySem.Expr.Starred _ _ :: _) _))) _ _ _)); k_dflt (first | refine args_cons ?_ | (refine args_nil ?_; try simp only [List.cons_append, List.nil_append])))
  k_with "subscriptTail" => (k_here; (with_reducible show wpAny _ _ (subscriptTail _ _ (Value.ref _) (Value.int _ _)) _ _ _); k_dflt (refine' item_tupleT ?q9t ?q9a ?q9b ?q9c ?q9d ?_; (case q9t => exact News.isTup (by k_asm) (by k_mem)); (case q9a => decide); (case q9b => decide); (case q9c => rfl); (case q9d => rfl); k_whole))
  k_with "storeName" => (k_here; (fail_if_success (with_reducible show wpAny _ _ (storeName _ _ (compEnvC _ _ _ _)) _ _ _)); (try dsimp only); k_dflt (refine' storeX_L ?q9F ?q9N ?_ ?q9a ?q9b; (case q9F => k_asm); (case q9N => k_asm); (case q9a => rfl); (case q9b => rfl); k_whole; intro z9h z9F z9N; (try k_sweep)))
  k_with "callWith ref" => (k_here; k_dflt (first | (refine' callWith_K ?q9a ?q9b ?_; (case q9a => k_asm); (case q9b => k_is); k_whole) | (refine' callWith_K0 ?q9a ?q9b ?_; (case q9a => k_in); (case q9b => k_is); k_whole) | (refine' callWith_M0 ?q9a ?q9b ?_; (case q9a => k_meth); (case q9b => k_is); k_whole; try dsimp only [List.nil_append, List.cons_append]) | (refine' callWith_M ?q9a ?q9b ?q9c ?q9d ?_; (case q9a => k_asm); (case q9b => k_asm); (case q9c => k_mem); (case q9d => k_is); k_whole)))
  k_with "truthy bool" => (with_reducible refine wpAny_truthy_bool ?_)
  k_with "k_mem" => first | with_reducible assumption | assumption
  k_with "subscriptTail" => (k_here; (with_reducible show wpAny _ _ (subscriptTail _ _ (Value.ref _) (Value.int _ _)) _ _ _); (with_unfolding_all refine' item_litK ?q9k1 ?q9k2 ?q9k3 ?q9k4 ?_ ?q9k6; (case q9k1 => exact News.isList (by k_asm) (by k_mem)); (case q9k2 => decide); (case q9k3 => decide); (case q9k4 => rfl); (case q9k6 => with_unfolding_all rfl); k_whole))
  k_with "callWith" => ((with_reducible show wpAny _ _ (callWith _ (Value.builtin _) (_ :: _) (backTo _ (starEach (_ :: _) _)) []) _ _ _); k_dflt (refine callWith_method1 ?_))
  trivial
section
variable {prog : Program} {w : World} {p : Program} {loose : List Str} {mean : ExcName → Option Value} {mg mb : Str → Option Value}
 {dp un : Nat} {gd : Option (List Code)} {cn : Str} {cs : Scope} {a : Addr} {ccd : Value} {cl : List (Str × Addr)} {outer : List Env} {A₀ : Around} {base h₀ : Heap} {L : Addr} {m : Str → Option Value} {s : Shared} {Q E : Value → Shared → Prop}
theorem width_in_ranges_ok {news : Led} {lr tr : Addr} {lo hi code : Int} {t0 t1 t2 n1 n2 : Nat} (B : Below A₀ base outer h₀) (F : Fr h₀ L s.heap m) (X : (Mine.frag.heap_1 w.params).In h₀) (N : News h₀ L s.heap news) (T : Top p loose mean mg mb h₀) (hk : cs.kind = .function)
   (hd : dp + 1 < recursionLimit) (hu : un + 8 < cLine)
   (hm1 : (lr, listOf [Value.ref tr].toArray n1) ∈ news) (hm2 : (tr, tupO [.int lo t0, .int hi t1] n2) ∈ news)
   (hret : ∀ h' tk', Fr h₀ L h' m → News h₀ L h' news → Q (.bool (decide (lo ≤ code ∧ code ≤ hi))) { s with heap := h', toks := tk' }) :
   wpAny (model prog w) (ktrTop dp un gd cn cs L a ccd cl outer) (call (.ref 504) [.ref lr, .int code t2]) Q E s := by
  have key : ∀ (b : Bool) h' tk', b = decide (lo ≤ code ∧ code ≤ hi) → Fr h₀ L h' m → News h₀ L h' news → Q (.bool b) { s with heap := h', toks := tk' } := fun b h' tk' e F N => e ▸ hret _ _ F N
  have z : ((0 : Int) + 1).fdiv 2 = 0 := by decide
  refine wpAny_call ?_
  k_dflt ktr_enter
  k_steps
  · refine' key _ _ _ ?_ ?_ ?_
    · rw [decide_eq_decide]; omega
    · assumption
    · exact news_tl (by assumption)
  · refine' key _ _ _ ?_ ?_ ?_
    · rw [decide_eq_decide]; omega
    · assumption
    · exact news_tl (by assumption)
theorem rg2 : True := by
  k_with "call ref" => ((with_reducible show wpAny _ _ (call (Value.ref 504) _) _ _ _); k_dflt (refine' width_in_ranges_ok ?q9B ?q9F ?q9X ?q9N ?q9T ?q9hk ?q9hd ?q9hu ?q9m1 ?q9m2 ?_; (case q9B => k_asm); (case q9F => k_asm); (case q9X => k_asm); (case q9N => k_asm); (case q9T => k_asm); (case q9hk => exact rfl); (case q9m1 => k_mem); (case q9m2 => k_mem); (case q9hd => (first | exact rm2 (by assumption) (Nat.le_of_ble_eq_true rfl) | exact rm1 (by assumption) (Nat.le_of_ble_eq_true rfl) | (first | exact rm2 (by assumption) (Nat.le_of_ble_eq_true rfl) | exact rm1 (by assumption) (Nat.le_of_ble_eq_true rfl) | (show _ + _ < _; simp only [depth_deeper]; omega)))); (case q9hu => (first | exact rm2 (by assumption) (Nat.le_of_ble_eq_true rfl) | exact rm1 (by assumption) (Nat.le_of_ble_eq_true rfl) | (first | exact rm2 (by assumption) (Nat.le_of_ble_eq_true rfl) | exact rm1 (by assumption) (Nat.le_of_ble_eq_true rfl) | (show _ + _ < _; simp only [units_deeper]; omega))))); intro _ _ _ _)
  trivial
theorem width_of_ok {news : Led} {t : Addr} {code : Int} {tk0 : Nat} (B : Below A₀ base outer h₀) (F : Fr h₀ L s.heap m) (X : (Mine.frag.heap_1 w.params).In h₀) (N : News h₀ L s.heap news) (T : Top p loose mean mg mb h₀) (hk : cs.kind = .function)
   (hd : dp + 2 < recursionLimit) (hu : un + 16 < cLine)
   (hT : TabV news t)
   (hret : ∀ h' tk' t', Fr h₀ L h' m → News h₀ L h' news → Q (.int (wOf code) t') { s with heap := h', toks := tk' }) :
   wpAny (model prog w) (ktrTop dp un gd cn cs L a ccd cl outer) (call (.ref 532) [.ref t, .int code tk0]) Q E s := by
  have key : ∀ (b : Int) h' tk' t', b = wOf code → Fr h₀ L h' m → News h₀ L h' news → Q (.int b t') { s with heap := h', toks := tk' } := fun b h' tk' t' e F N => e ▸ hret _ _ _ F N
  obtain ⟨d, lw, tw, lm, tm, lj, h1, h2, h3, k1, k2, k3, n, n1, n2, n3, n4, t1, t2, t3, t4, m1, m2, m3, m4, m5, m6⟩ := hT
  refine wpAny_call ?_
  k_dflt ktr_enter
  k_steps
  all_goals (refine' key _ _ _ _ ?_ ?_ ?_)
  all_goals first | assumption | (unfold wOf; (repeat' split) <;> first | rfl | (exfalso; omega))

end
end
section
theorem rg3 : True := by
  k_with_none
  k_with "omega" => (first | decide | (with_reducible first | exact Int.natCast_nonneg _ | exact rm1 ‹_› (by decide) | exact rm2 ‹_› (by decide) | exact rm3 ‹_› (by decide) | exact om_le ‹_› (by decide) | exact om_63 ‹_› (by decide) | exact om_eqle ‹_› ‹_› (by decide) | exact om_eq63 ‹_› ‹_› (by decide) | exact om_add ‹_› (by decide) | exact om_ne ‹_› (by decide) | exact om_le2 ‹_› ‹_› (by decide) | exact om_le2s ‹_› ‹_› (by decide) | exact om_le2_63 ‹_› ‹_› (by decide) | exact om_le2s_63 ‹_› ‹_› (by decide) | exact om_z62 ‹_› (by decide) | exact om_zn62 | exact om_kle ‹_› (by decide) | exact om_neg1 | exact om_pos | exact om_at ‹_› (by decide) | exact om_at0 ‹_› | exact om_add63 ‹_› (by decide) | exact Nat.ne_of_gt (by k_extra "pick") | exact Nat.ne_of_lt (by k_extra "pick")))
  k_with "ktr_room" => (first | exact rm0 (by assumption) | exact rm1 (by assumption) (Nat.le_of_ble_eq_true rfl))
  k_with "k_ne" => ((refine neN ?_; (try dsimp only); first | exact Nat.ne_of_gt (by assumption) | exact Nat.ne_of_lt (by assumption) | exact Nat.ne_of_gt (And.left (by assumption)) | exact Nat.ne_of_lt (And.left (by assumption)) | exact Nat.ne_of_gt (And.left (And.right (by assumption))) | exact Nat.ne_of_lt (And.left (And.right (by assumption))) | exact Nat.ne_of_gt (And.right (by assumption)) | exact Nat.ne_of_lt (And.right (by assumption)) | exact Nat.ne_of_gt (And.left (And.right (And.right (by assumption)))) | exact Nat.ne_of_lt (And.left (And.right (And.right (by assumption)))) | exact Nat.ne_of_gt (And.right (And.right (by assumption))) | exact Nat.ne_of_lt (And.right (And.right (by assumption)))))
  k_with "pick" => (with_reducible first | assumption | exact And.left ‹_› | exact And.left (And.right ‹_›) | exact And.left (And.right (And.right ‹_›)) | exact And.left (And.right (And.right (And.right ‹_›))) | exact And.left (And.right (And.right (And.right (And.right ‹_›)))) | exact And.left (And.right (And.right (And.right (And.right (And.right ‹_›))))) | exact And.left (And.right (And.right (And.right (And.right (And.right (And.right ‹_›)))))) | exact And.left (And.right (And.right (And.right (And.right (And.right (And.right (And.right ‹_›))))))) | exact And.left (And.right (And.right (And.right (And.right (And.right (And.right (And.right (And.right ‹_›)))))))) | exact And.left (And.right (And.right (And.right (And.right (And.right (And.right (And.right (And.right (And.right ‹_›))))))))) | exact And.left (And.right (And.right (And.right (And.right (And.right (And.right (And.right (And.right (And.right (And.right ‹_›)))))))))) | exact (And.right ‹_›) | exact (And.right (And.right ‹_›)) | exact (And.right (And.right (And.right ‹_›))) | exact (And.right (And.right (And.right (And.right ‹_›)))) | exact (And.right (And.right (And.right (And.right (And.right ‹_›))))) | exact (And.right (And.right (And.right (And.right (And.right (And.right ‹_›)))))) | exact (And.right (And.right (And.right (And.right (And.right (And.right (And.right ‹_›))))))) | exact (And.right (And.right (And.right (And.right (And.right (And.right (And.right (And.right ‹_›)))))))) | exact (And.right (And.right (And.right (And.right (And.right (And.right (And.right (And.right (And.right ‹_›))))))))) | exact (And.right (And.right (And.right (And.right (And.right (And.right (And.right (And.right (And.right (And.right ‹_›)))))))))))
  k_with "k_room" => (((simp only [depth_under_make, depth_under_kw, depth_in1, depth_deeper, depth_caller]); omega))
  k_with "k_all" => (assumption)
  k_with "eval Name" => (k_here; dsimp only)
  k_with "eval Call" => (k_here; dsimp only)
  k_with "eval Constant int" => (k_here; dsimp only)
  k_with "eval Attribute Name" => (k_here; dsimp only)
  k_with "eval BinOp" => (k_here; dsimp only)
  k_with "storeName" => (k_here; dsimp only)
  k_with "setAttr ref" => (k_here; dsimp only)
  k_with "eval Compare" => (k_here; dsimp only)
  k_with "isTrue Compare" => (k_here; dsimp only)
  k_with "eval Subscript" => (k_here; dsimp only)
  k_with "execs cons" => (k_here; first | (with_reducible rename News _ _ _ _ => nZ9; dsimp only at nZ9) | dsimp only | ((with_reducible show wpAny _ _ _ _ _ (Shared.mk _ _ _ (HAdd.hAdd _ _) _)); refine gen_toks ?_; intro _))
  k_with "eval Name" => (k_here; (fail_if_success (with_reducible show wpAny _ _ (eval _ (compEnvC _ _ _ _)) _ _ _)); (try dsimp only); k_dflt (first | (refine' nameX_L ?q9F ?q9v ?_ ?q9a ?q9b; (case q9F => k_asm); (case q9a => rfl); (case q9b => rfl); (case q9v => rfl); k_whole) | (refine' nameX_K ?q9F ?q9X ?q9T ?q9e ?_ ?q9a ?q9b; (case q9F => k_asm); (case q9X => k_asm); (case q9T => k_asm); (case q9a => rfl); (case q9b => rfl); (case q9e => k_is); k_whole) | (refine' nameX_B ?q9F ?q9X ?q9T ?q9e ?q9v ?q9n ?_ ?q9a ?q9b; (case q9F => k_asm); (case q9X => k_asm); (case q9T => k_asm); (case q9a => rfl); (case q9b => rfl); (case q9e => k_is); (case q9v => boot_fast); (case q9n => decide); k_whole)))
  k_with "execs cons" => (k_here; (try (with_reducible rename News _ _ _ _ => nZ9; dsimp only at nZ9)); (try dsimp only); (try ((with_reducible show wpAny _ _ _ _ _ (Shared.mk _ _ _ (HAdd.hAdd _ _) _)); refine gen_toks ?_; intro _)); (with_reducible refine wpAny_execs_cons ?_); (try dsimp only))
  k_with "eval Constant int" => (k_here; (try dsimp only); refine wpAny_Constant_int ?_)
  k_with "spliced" => (k_here; (fail_if_success (with_reducible show wpAny _ _ (spliced (backTo _ (starEach (PySem.Expr.Starred _ _ :: _) _))) _ _ _)); k_dflt (first | refine args_cons ?_ | (refine args_nil ?_; try simp only [List.cons_append, List.nil_append])))
  k_with "subscriptTail" => (k_here; (with_reducible show wpAny _ _ (subscriptTail _ _ (Value.ref _) (Value.int _ _)) _ _ _); k_dflt (refine' item_tupleT ?q9t ?q9a ?q9b ?q9c ?q9d ?_; (case q9t => exact News.isTup (by k_asm) (by k_mem)); (case q9a => decide); (case q9b => decide); (case q9c => rfl); (case q9d => rfl); k_whole))
  k_with "storeName" => (k_here; (fail_if_success (with_reducible show wpAny _ _ (storeName _ _ (compEnvC _ _ _ _)) _ _ _)); (try dsimp only); k_dflt (refine' storeX_L ?q9F ?q9N ?_ ?q9a ?q9b; (case q9F => k_asm); (case q9N => k_asm); (case q9a => rfl); (case q9b => rfl); k_whole; intro z9h z9F z9N; (try k_sweep)))
  k_with "callWith ref" => (k_here; k_dflt (first | (refine' callWith_K ?q9a ?q9b ?_; (case q9a => k_asm); (case q9b => k_is); k_whole) | (refine' callWith_K0 ?q9a ?q9b ?_; (case q9a => k_in); (case q9b => k_is); k_whole) | (refine' callWith_M0 ?q9a ?q9b ?_; (case q9a => k_meth); (case q9b => k_is); k_whole; try dsimp only [List.nil_append, List.cons_append]) | (refine' callWith_M ?q9a ?q9b ?q9c ?q9d ?_; (case q9a => k_asm); (case q9b => k_asm); (case q9c => k_mem); (case q9d => k_is); k_whole)))
  k_with "truthy bool" => (with_reducible refine wpAny_truthy_bool ?_)
  k_with "k_mem" => first | with_reducible assumption | assumption
  k_with "subscriptTail" => (k_here; (with_reducible show wpAny _ _ (subscriptTail _ _ (Value.ref _) (Value.int _ _)) _ _ _); (with_unfolding_all refine' item_litK ?q9k1 ?q9k2 ?q9k3 ?q9k4 ?_ ?q9k6; (case q9k1 => exact News.isList (by k_asm) (by k_mem)); (case q9k2 => decide); (case q9k3 => decide); (case q9k4 => rfl); (case q9k6 => with_unfolding_all rfl); k_whole))
  k_with "callWith" => ((with_reducible show wpAny _ _ (callWith _ (Value.builtin _) (_ :: _) (backTo _ (starEach (_ :: _) _)) []) _ _ _); k_dflt (refine callWith_method1 ?_))
  trivial
section
variable {prog : Program} {w : World} {p : Program} {loose : List Str} {mean : ExcName → Option Value} {mg mb : Str → Option Value}
 {dp un : Nat} {gd : Option (List Code)} {cn : Str} {cs : Scope} {a : Addr} {ccd : Value} {cl : List (Str × Addr)} {outer : List Env} {A₀ : Around} {base h₀ : Heap} {L : Addr} {m : Str → Option Value} {s : Shared} {Q E : Value → Shared → Prop}
theorem rg4 : True := by
  k_with "call ref" => ((with_reducible show wpAny _ _ (call (Value.ref 532) _) _ _ _); k_dflt (refine' width_of_ok ?q9B ?q9F ?q9X ?q9N ?q9T ?q9hk ?q9hd ?q9hu ?q9m1 ?_; (case q9B => k_asm); (case q9F => k_asm); (case q9X => k_asm); (case q9N => k_asm); (case q9T => k_asm); (case q9hk => exact rfl); (case q9m1 => first | assumption | (refine TabV.mono (by assumption) ?_; (intro _ z9hq; (repeat (first | exact z9hq | (refine List.Mem.tail _ ?_)))))); (case q9hd => (first | exact rm2 (by assumption) (Nat.le_of_ble_eq_true rfl) | exact rm1 (by assumption) (Nat.le_of_ble_eq_true rfl) | (first | exact rm2 (by assumption) (Nat.le_of_ble_eq_true rfl) | exact rm1 (by assumption) (Nat.le_of_ble_eq_true rfl) | (show _ + _ < _; simp only [depth_deeper]; omega)))); (case q9hu => (first | exact rm2 (by assumption) (Nat.le_of_ble_eq_true rfl) | exact rm1 (by assumption) (Nat.le_of_ble_eq_true rfl) | (first | exact rm2 (by assumption) (Nat.le_of_ble_eq_true rfl) | exact rm1 (by assumption) (Nat.le_of_ble_eq_true rfl) | (show _ + _ < _; simp only [units_deeper]; omega))))); intro _ _ _ _ _)
  k_with "ite" => first | (refine ite_pos (by first | omega | (simp only [beq_iff_eq, decide_eq_true_eq]; omega)) ?_; walk_say "BY OMEGA") | (refine ite_neg (by first | omega | (simp only [beq_iff_eq, decide_eq_true_eq]; omega)) ?_; walk_say "BY OMEGA")
  trivial
noncomputable def markC (cs : List Cell) (code : Int) : List Cell :=
  let at0 := cs.length - 1
  let at1 := if (cs[at0]?.map Cell.w) = some 0 then at0 - 1 else at0
  cs.set at1 ⟨((cs[at1]?).getD ⟨[], 1⟩).codes ++ [code], ((cs[at1]?).getD ⟨[], 1⟩).w⟩
noncomputable def isCtl (code : Int) : Prop := code < 32 ∨ code = 127
noncomputable def isNar (code : Int) : Prop := 32 ≤ code ∧ code < 127
noncomputable def isWid (code : Int) : Prop := 19968 ≤ code ∧ code ≤ 20000
noncomputable def putC (cs : List Cell) (code : Int) : List Cell :=
  if code < 32 ∨ code = 127 then cs
  else if code = 768 then markC cs code
  else if 19968 ≤ code then cs ++ [⟨[code], 2⟩, ⟨[], 0⟩]
  else cs ++ [⟨[code], 1⟩]
theorem putC_nar {cs : List Cell} {code : Int} (h : isNar code) : putC cs code = cs ++ [⟨[code], 1⟩] := by
  unfold isNar at h; unfold putC; rw [if_neg (by (first | lia | omega)), if_neg (by (first | lia | omega)), if_neg (by (first | lia | omega))]
theorem putC_wid {cs : List Cell} {code : Int} (h : isWid code) : putC cs code = cs ++ [⟨[code], 2⟩, ⟨[], 0⟩] := by
  unfold isWid at h; unfold putC; rw [if_neg (by (first | lia | omega)), if_neg (by (first | lia | omega)), if_pos (by (first | lia | omega))]
theorem status_put_ctl {tl : Led} {l t : Addr} {code : Int} {tk0 : Nat} {pv : Value} {news : Led} (B : Below A₀ base outer h₀) (F : Fr h₀ L s.heap m) (X : (Mine.frag.heap_1 w.params).In h₀) (N : News h₀ L s.heap news) (T : Top p loose mean mg mb h₀) (hk : cs.kind = .function)
   (hd : dp + 3 < recursionLimit) (hu : un + 24 < cLine) (hc : isCtl code)
   (hret : ∀ h' tk', Fr h₀ L h' m → News h₀ L h' news → Q .none { s with heap := h', toks := tk' }) :
   wpAny (model prog w) (ktrTop dp un gd cn cs L a ccd cl outer) (call (.ref 408) [.ref l, .int code tk0, pv, .ref t]) Q E s := by
  unfold isCtl at hc
  refine wpAny_call ?_
  k_dflt ktr_enter
  k_steps
  all_goals first | (exfalso; omega) | (refine' hret _ _ ?_ ?_ <;> assumption)
theorem status_put_nar {tl TT : Led} {l t : Addr} {vs : List Value} {n : Nat} {code bg : Int} {tk0 : Nat} {pv : Value} {cs' : List Cell} (B : Below A₀ base outer h₀) (F : Fr h₀ L s.heap m) (X : (Mine.frag.heap_1 w.params).In h₀) (N : News h₀ L s.heap ((l, listOf vs.toArray n) :: tl)) (T : Top p loose mean mg mb h₀) (hk : cs.kind = .function)
   (hd : dp + 3 < recursionLimit) (hu : un + 24 < cLine)
   (hsub : ∀ p ∈ TT, p ∈ tl) (hoff : ∀ p ∈ tl, p.1 ≠ l) (hcs : CellsV TT bg vs cs') (hp : PenV TT pv bg) (hT : TabV TT t) (hlen : vs.length ≤ 1000)
   (hc : isNar code)
   (hret : ∀ vs' n' tl' h' tk', Fr h₀ L h' m → News h₀ L h' ((l, listOf vs'.toArray n') :: (tl' ++ tl)) → Above tl' ((l, listOf vs.toArray n) :: tl) → CellsV (tl' ++ TT) bg vs' (putC cs' code) → Q .none { s with heap := h', toks := tk' }) :
   wpAny (model prog w) (ktrTop dp un gd cn cs L a ccd cl outer) (call (.ref 408) [.ref l, .int code tk0, pv, .ref t]) Q E s := by
  have hT0 := hT.mono hsub
  replace hT := hT0
  rw [putC_nar hc] at hret
  unfold isNar at hc
  have hw : wOf code = 1 := by unfold wOf; rw [if_neg (by omega), if_neg (by omega)]
  obtain ⟨d, lw, tw, lm, tm, lj, h1, h2, h3, k1, k2, k3, n9, n1, n2, n3, n4, t1, t2, t3, t4, m1, m2, m3, m4, m5, m6⟩ := hT
  refine wpAny_call ?_
  k_dflt ktr_enter
  k_steps
  · rename News _ _ _ _ => kN
    simp only [List.push_toArray, hw] at kN
    have kN2 := news_mv [_, _] kN
    refine hret _ _ _ _ _ ?_ kN2 ?_ ?_
    · assumption
    · exact above_cons (allLt_cons (by k_extra "pick") (by k_extra "pick")) (above_cons (allLt_cons (by k_extra "pick") (by k_extra "pick")) above_nil)
    · refine (hcs.mono (fun q hq => List.mem_append.mpr (.inr hq))).append (.cons ⟨_, _, _, _, _, _, _, rfl, List.Mem.head _, List.Mem.tail _ (List.Mem.head _), IntsAre.cons _ _ IntsAre.nil, hp.mono (fun q hq => List.mem_append.mpr (.inr hq))⟩ .nil)
theorem status_put_wid {tl TT : Led} {l t : Addr} {vs : List Value} {n : Nat} {code bg : Int} {tk0 : Nat} {pv : Value} {cs' : List Cell} (B : Below A₀ base outer h₀) (F : Fr h₀ L s.heap m) (X : (Mine.frag.heap_1 w.params).In h₀) (N : News h₀ L s.heap ((l, listOf vs.toArray n) :: tl)) (T : Top p loose mean mg mb h₀) (hk : cs.kind = .function)
   (hd : dp + 3 < recursionLimit) (hu : un + 24 < cLine)
   (hsub : ∀ p ∈ TT, p ∈ tl) (hoff : ∀ p ∈ tl, p.1 ≠ l) (hcs : CellsV TT bg vs cs') (hp : PenV TT pv bg) (hT : TabV TT t) (hlen : vs.length ≤ 1000)
   (hc : isWid code)
   (hret : ∀ vs' n' tl' h' tk', Fr h₀ L h' m → News h₀ L h' ((l, listOf vs'.toArray n') :: (tl' ++ tl)) → Above tl' ((l, listOf vs.toArray n) :: tl) → CellsV (tl' ++ TT) bg vs' (putC cs' code) → Q .none { s with heap := h', toks := tk' }) :
   wpAny (model prog w) (ktrTop dp un gd cn cs L a ccd cl outer) (call (.ref 408) [.ref l, .int code tk0, pv, .ref t]) Q E s := by
  have hT0 := hT.mono hsub
  replace hT := hT0
  rw [putC_wid hc] at hret
  unfold isWid at hc
  have hw : wOf code = 2 := by unfold wOf; rw [if_neg (by omega), if_pos (by omega)]
  obtain ⟨d, lw, tw, lm, tm, lj, h1, h2, h3, k1, k2, k3, n9, n1, n2, n3, n4, t1, t2, t3, t4, m1, m2, m3, m4, m5, m6⟩ := hT
  refine wpAny_call ?_
  k_dflt ktr_enter
  k_steps
  · rename News _ _ _ _ => kN
    simp only [List.push_toArray, hw, List.append_assoc, List.cons_append, List.nil_append] at kN
    have kN2 := news_mv [_, _, _, _] kN
    refine hret _ _ _ _ _ ?_ kN2 ?_ ?_
    · assumption
    · exact above_cons (allLt_cons (by k_extra "pick") (by k_extra "pick")) (above_cons (allLt_cons (by k_extra "pick") (by k_extra "pick")) (above_cons (allLt_cons (by k_extra "pick") (by k_extra "pick")) (above_cons (allLt_cons (by k_extra "pick") (by k_extra "pick")) above_nil)))
    · refine (hcs.mono (fun q hq => List.mem_append.mpr (.inr hq))).append (.cons ⟨_, _, _, _, _, _, _, rfl, List.Mem.tail _ (List.Mem.tail _ (List.Mem.head _)), List.Mem.tail _ (List.Mem.tail _ (List.Mem.tail _ (List.Mem.head _))), IntsAre.cons _ _ IntsAre.nil, hp.mono (fun q hq => List.mem_append.mpr (.inr hq))⟩ (.cons ⟨_, _, _, _, _, _, _, rfl, List.Mem.head _, List.Mem.tail _ (List.Mem.head _), IntsAre.nil, hp.mono (fun q hq => List.mem_append.mpr (.inr hq))⟩ .nil))

end
end
section
theorem rg5 : True := by
  k_with_none
  k_with "omega" => (first | decide | (with_reducible first | exact Int.natCast_nonneg _ | exact rm1 ‹_› (by decide) | exact rm2 ‹_› (by decide) | exact rm3 ‹_› (by decide) | exact om_le ‹_› (by decide) | exact om_63 ‹_› (by decide) | exact om_eqle ‹_› ‹_› (by decide) | exact om_eq63 ‹_› ‹_› (by decide) | exact om_add ‹_› (by decide) | exact om_ne ‹_› (by decide) | exact om_le2 ‹_› ‹_› (by decide) | exact om_le2s ‹_› ‹_› (by decide) | exact om_le2_63 ‹_› ‹_› (by decide) | exact om_le2s_63 ‹_› ‹_› (by decide) | exact om_z62 ‹_› (by decide) | exact om_zn62 | exact om_kle ‹_› (by decide) | exact om_neg1 | exact om_pos | exact om_at ‹_› (by decide) | exact om_at0 ‹_› | exact om_add63 ‹_› (by decide) | exact Nat.ne_of_gt (by k_extra "pick") | exact Nat.ne_of_lt (by k_extra "pick")))
  k_with "ktr_room" => (first | exact rm0 (by assumption) | exact rm1 (by assumption) (Nat.le_of_ble_eq_true rfl))
  k_with "k_ne" => ((refine neN ?_; (try dsimp only); first | exact Nat.ne_of_gt (by assumption) | exact Nat.ne_of_lt (by assumption) | exact Nat.ne_of_gt (And.left (by assumption)) | exact Nat.ne_of_lt (And.left (by assumption)) | exact Nat.ne_of_gt (And.left (And.right (by assumption))) | exact Nat.ne_of_lt (And.left (And.right (by assumption))) | exact Nat.ne_of_gt (And.right (by assumption)) | exact Nat.ne_of_lt (And.right (by assumption)) | exact Nat.ne_of_gt (And.left (And.right (And.right (by assumption)))) | exact Nat.ne_of_lt (And.left (And.right (And.right (by assumption)))) | exact Nat.ne_of_gt (And.right (And.right (by assumption))) | exact Nat.ne_of_lt (And.right (And.right (by assumption)))))
  k_with "pick" => (with_reducible first | assumption | exact And.left ‹_› | exact And.left (And.right ‹_›) | exact And.left (And.right (And.right ‹_›)) | exact And.left (And.right (And.right (And.right ‹_›))) | exact And.left (And.right (And.right (And.right (And.right ‹_›)))) | exact And.left (And.right (And.right (And.right (And.right (And.right ‹_›))))) | exact And.left (And.right (And.right (And.right (And.right (And.right (And.right ‹_›)))))) | exact And.left (And.right (And.right (And.right (And.right (And.right (And.right (And.right ‹_›))))))) | exact And.left (And.right (And.right (And.right (And.right (And.right (And.right (And.right (And.right ‹_›)))))))) | exact And.left (And.right (And.right (And.right (And.right (And.right (And.right (And.right (And.right (And.right ‹_›))))))))) | exact And.left (And.right (And.right (And.right (And.right (And.right (And.right (And.right (And.right (And.right (And.right ‹_›)))))))))) | exact (And.right ‹_›) | exact (And.right (And.right ‹_›)) | exact (And.right (And.right (And.right ‹_›))) | exact (And.right (And.right (And.right (And.right ‹_›)))) | exact (And.right (And.right (And.right (And.right (And.right ‹_›))))) | exact (And.right (And.right (And.right (And.right (And.right (And.right ‹_›)))))) | exact (And.right (And.right (And.right (And.right (And.right (And.right (And.right ‹_›))))))) | exact (And.right (And.right (And.right (And.right (And.right (And.right (And.right (And.right ‹_›)))))))) | exact (And.right (And.right (And.right (And.right (And.right (And.right (And.right (And.right (And.right ‹_›))))))))) | exact (And.right (And.right (And.right (And.right (And.right (And.right (And.right (And.right (And.right (And.right ‹_›)))))))))))
  k_with "k_room" => (((simp only [depth_under_make, depth_under_kw, depth_in1, depth_deeper, depth_caller]); omega))
  k_with "k_all" => (assumption)
  k_with "eval Name" => (k_here; dsimp only)
  k_with "eval Call" => (k_here; dsimp only)
  k_with "eval Constant int" => (k_here; dsimp only)
  k_with "eval Attribute Name" => (k_here; dsimp only)
  k_with "eval BinOp" => (k_here; dsimp only)
  k_with "storeName" => (k_here; dsimp only)
  k_with "setAttr ref" => (k_here; dsimp only)
  k_with "eval Compare" => (k_here; dsimp only)
  k_with "isTrue Compare" => (k_here; dsimp only)
  k_with "eval Subscript" => (k_here; dsimp only)
  k_with "execs cons" => (k_here; first | (with_reducible rename News _ _ _ _ => nZ9; dsimp only at nZ9) | dsimp only | ((with_reducible show wpAny _ _ _ _ _ (Shared.mk _ _ _ (HAdd.hAdd _ _) _)); refine gen_toks ?_; intro _))
  k_with "eval Name" => (k_here; (fail_if_success (with_reducible show wpAny _ _ (eval _ (compEnvC _ _ _ _)) _ _ _)); (try dsimp only); k_dflt (first | (refine' nameX_L ?q9F ?q9v ?_ ?q9a ?q9b; (case q9F => k_asm); (case q9a => rfl); (case q9b => rfl); (case q9v => rfl); k_whole) | (refine' nameX_K ?q9F ?q9X ?q9T ?q9e ?_ ?q9a ?q9b; (case q9F => k_asm); (case q9X => k_asm); (case q9T => k_asm); (case q9a => rfl); (case q9b => rfl); (case q9e => k_is); k_whole) | (refine' nameX_B ?q9F ?q9X ?q9T ?q9e ?q9v ?q9n ?_ ?q9a ?q9b; (case q9F => k_asm); (case q9X => k_asm); (case q9T => k_asm); (case q9a => rfl); (case q9b => rfl); (case q9e => k_is); (case q9v => boot_fast); (case q9n => decide); k_whole)))
  k_with "execs cons" => (k_here; (try (with_reducible rename News _ _ _ _ => nZ9; dsimp only at nZ9)); (try dsimp only); (try ((with_reducible show wpAny _ _ _ _ _ (Shared.mk _ _ _ (HAdd.hAdd _ _) _)); refine gen_toks ?_; intro _)); (with_reducible refine wpAny_execs_cons ?_); (try dsimp only))
  k_with "eval Constant int" => (k_here; (try dsimp only); refine wpAny_Constant_int ?_)
  k_with "spliced" => (k_here; (fail_if_success (with_reducible show wpAny _ _ (spliced (backTo _ (starEach (PySem.Expr.Starred _ _ :: _) _))) _ _ _)); k_dflt (first | refine args_cons ?_ | (refine args_nil ?_; try simp only [List.cons_append, List.nil_append])))
  k_with "subscriptTail" => (k_here; (with_reducible show wpAny _ _ (subscriptTail _ _ (Value.ref _) (Value.int _ _)) _ _ _); k_dflt (refine' item_tupleT ?q9t ?q9a ?q9b ?q9c ?q9d ?_; (case q9t => exact News.isTup (by k_asm) (by k_mem)); (case q9a => decide); (case q9b => decide); (case q9c => rfl); (case q9d => rfl); k_whole))
  k_with "storeName" => (k_here; (fail_if_success (with_reducible show wpAny _ _ (storeName _ _ (compEnvC _ _ _ _)) _ _ _)); (try dsimp only); k_dflt (refine' storeX_L ?q9F ?q9N ?_ ?q9a ?q9b; (case q9F => k_asm); (case q9N => k_asm); (case q9a => rfl); (case q9b => rfl); k_whole; intro z9h z9F z9N; (try k_sweep)))
  k_with "callWith ref" => (k_here; k_dflt (first | (refine' callWith_K ?q9a ?q9b ?_; (case q9a => k_asm); (case q9b => k_is); k_whole) | (refine' callWith_K0 ?q9a ?q9b ?_; (case q9a => k_in); (case q9b => k_is); k_whole) | (refine' callWith_M0 ?q9a ?q9b ?_; (case q9a => k_meth); (case q9b => k_is); k_whole; try dsimp only [List.nil_append, List.cons_append]) | (refine' callWith_M ?q9a ?q9b ?q9c ?q9d ?_; (case q9a => k_asm); (case q9b => k_asm); (case q9c => k_mem); (case q9d => k_is); k_whole)))
  k_with "truthy bool" => (with_reducible refine wpAny_truthy_bool ?_)
  k_with "k_mem" => first | with_reducible assumption | assumption
  k_with "subscriptTail" => (k_here; (with_reducible show wpAny _ _ (subscriptTail _ _ (Value.ref _) (Value.int _ _)) _ _ _); (with_unfolding_all refine' item_litK ?q9k1 ?q9k2 ?q9k3 ?q9k4 ?_ ?q9k6; (case q9k1 => exact News.isList (by k_asm) (by k_mem)); (case q9k2 => decide); (case q9k3 => decide); (case q9k4 => rfl); (case q9k6 => with_unfolding_all rfl); k_whole))
  k_with "callWith" => ((with_reducible show wpAny _ _ (callWith _ (Value.builtin _) (_ :: _) (backTo _ (starEach (_ :: _) _)) []) _ _ _); k_dflt (refine callWith_method1 ?_))
  trivial
section
variable {prog : Program} {w : World} {p : Program} {loose : List Str} {mean : ExcName → Option Value} {mg mb : Str → Option Value}
 {dp un : Nat} {gd : Option (List Code)} {cn : Str} {cs : Scope} {a : Addr} {ccd : Value} {cl : List (Str × Addr)} {outer : List Env} {A₀ : Around} {base h₀ : Heap} {L : Addr} {m : Str → Option Value} {s : Shared} {Q E : Value → Shared → Prop}
theorem rg6 : True := by
  k_with "call ref" => ((with_reducible show wpAny _ _ (call (Value.ref 532) _) _ _ _); k_dflt (refine' width_of_ok ?q9B ?q9F ?q9X ?q9N ?q9T ?q9hk ?q9hd ?q9hu ?q9m1 ?_; (case q9B => k_asm); (case q9F => k_asm); (case q9X => k_asm); (case q9N => k_asm); (case q9T => k_asm); (case q9hk => exact rfl); (case q9m1 => first | assumption | (refine TabV.mono (by assumption) ?_; (intro _ z9hq; (repeat (first | exact z9hq | (refine List.Mem.tail _ ?_)))))); (case q9hd => (first | exact rm2 (by assumption) (Nat.le_of_ble_eq_true rfl) | exact rm1 (by assumption) (Nat.le_of_ble_eq_true rfl) | (first | exact rm2 (by assumption) (Nat.le_of_ble_eq_true rfl) | exact rm1 (by assumption) (Nat.le_of_ble_eq_true rfl) | (show _ + _ < _; simp only [depth_deeper]; omega)))); (case q9hu => (first | exact rm2 (by assumption) (Nat.le_of_ble_eq_true rfl) | exact rm1 (by assumption) (Nat.le_of_ble_eq_true rfl) | (first | exact rm2 (by assumption) (Nat.le_of_ble_eq_true rfl) | exact rm1 (by assumption) (Nat.le_of_ble_eq_true rfl) | (show _ + _ < _; simp only [units_deeper]; omega))))); intro _ _ _ _ _)
  k_with "call builtin:len" => (k_here; (with_reducible show wpAny _ _ (call (Value.builtin "len") [Value.ref _]) _ _ _); k_dflt (refine' kst_len ?q9k1 ?q9k2 rfl ?q9k4 ?_; (case q9k1 => k_asm); (case q9k2 => k_mem); (case q9k4 => ((try simp only [List.length_append, List.length_cons, List.length_nil]); omega)); k_whole))
  k_with "ite" => first | (refine ite_pos (by first | omega | (simp only [beq_iff_eq, decide_eq_true_eq]; omega)) ?_; walk_say "BY OMEGA") | (refine ite_neg (by first | omega | (simp only [beq_iff_eq, decide_eq_true_eq]; omega)) ?_; walk_say "BY OMEGA")
  k_with "subscriptTail" => (k_here; (with_reducible show wpAny _ _ (subscriptTail _ _ (Value.ref _) (Value.int (_ - 1) _)) _ _ _); (with_unfolding_all refine' item_litK ?q9k1 ?q9k2 ?q9k3 ?q9k4 ?_ ?q9k6; (case q9k1 => exact News.isList (by k_asm) (by k_mem)); (case q9k2 => ((simp only [List.length_append, List.length_cons, List.length_nil]); omega)); (case q9k3 => ((simp only [List.length_append, List.length_cons, List.length_nil]); omega)); (case q9k4 => first | exact idx_last | exact idx_last2 | exact idx_prev); (case q9k6 => with_unfolding_all rfl); k_whole))
  k_with "binaryOp Add ref ref" => (k_here; k_dflt (refine' kde_addT ?q9k1 ?q9k2 ?q9k3 ?q9k4 ?q9k5 ?q9k6 ?q9k7 ?q9k8 ?_; (case q9k1 => k_asm); (case q9k2 => k_asm); (case q9k3 => exact News.isTup (by k_asm) (by k_mem)); (case q9k4 => exact News.isTup (by k_asm) (by k_mem)); (case q9k5 => assumption); (case q9k6 => exact List.cons_ne_nil _ _); (case q9k7 => ((simp only [List.length_cons, List.length_nil]); omega)); (case q9k8 => exact rfl); k_whole); intro _ _ _ _ z9l1; (try k_lt z9l1); (try k_sweep))
  k_with "setItem ref int" => (k_here; k_dflt (refine' led_set ?q9F ?q9N ?q9a ?q9b ?q9c ?q9e ?q9U ?_; (case q9F => k_asm); (case q9N => k_asm); (case q9U => k_upd); (case q9e => first | exact set_last | exact set_prev); (case q9a => ((simp only [List.length_append, List.length_cons, List.length_nil]); omega)); (case q9b => ((simp only [List.length_append, List.length_cons, List.length_nil]); omega)); (case q9c => ((simp only [List.length_append, List.length_cons, List.length_nil]); omega))); intro _ _ _)
  trivial
theorem status_put_mark0 {tl TT : Led} {l t : Addr} {r : List Value} {u0 u1 : Value} {n : Nat} {code bg : Int} {tk0 : Nat} {pv : Value} {c0 c1 : Cell} (B : Below A₀ base outer h₀) (F : Fr h₀ L s.heap m) (X : (Mine.frag.heap_1 w.params).In h₀) (N : News h₀ L s.heap ((l, listOf (r ++ [u0, u1]).toArray n) :: tl)) (T : Top p loose mean mg mb h₀) (hk : cs.kind = .function)
   (hd : dp + 3 < recursionLimit) (hu : un + 24 < cLine)
   (hsub : ∀ p ∈ TT, p ∈ tl) (hoff : ∀ p ∈ tl, p.1 ≠ l) (hu0 : CellV TT bg u0 c0) (hu1 : CellV TT bg u1 c1) (hT : TabV TT t) (hlen : r.length ≤ 1000)
   (hc : code = 768) (hz : c1.w = 0) (hne : c0.codes ≠ []) (hcl : c0.codes.length ≤ 100)
   (hret : ∀ u n' tl' h' tk', Fr h₀ L h' m → News h₀ L h' ((l, listOf (r ++ [u, u1]).toArray n') :: (tl' ++ tl)) → Above tl' ((l, listOf (r ++ [u0, u1]).toArray n) :: tl) → CellV (tl' ++ TT) bg u ⟨c0.codes ++ [768], c0.w⟩ → Q .none { s with heap := h', toks := tk' }) :
   wpAny (model prog w) (ktrTop dp un gd cn cs L a ccd cl outer) (call (.ref 408) [.ref l, .int code tk0, pv, .ref t]) Q E s := by
  subst hc
  have hT0 := hT.mono hsub
  replace hT := hT0
  obtain ⟨d, lw, tw, lm, tm, lj, h1, h2, h3, k1, k2, k3, n9, n11, n12, n13, n14, t1, t2, t3, t4, m1, m2, m3, m4, m5, m6⟩ := hT
  have hw : wOf 768 = 0 := by decide
  obtain ⟨x0, y0, vs0, pv0, ti0, n0, n0', rfl, hx0, hy0, hi0, hp0⟩ := hu0
  replace hx0 := hsub _ hx0
  replace hy0 := hsub _ hy0
  obtain ⟨x1, y1, vs1, pv1, ti1, n1, n1', rfl, hx1, hy1, hi1, hp1⟩ := hu1
  replace hx1 := hsub _ hx1
  replace hy1 := hsub _ hy1
  have hl0 := hi0.length
  have hv0 : vs0.toArray.toList ≠ [] := by
    intro e
    have e2 : vs0 = [] := by simpa using e
    rw [e2] at hl0
    exact hne (List.eq_nil_of_length_eq_zero hl0.symm)
  have hL : ((r ++ [Value.ref x0, Value.ref x1]).length : Int) = (r.length : Int) + 2 := by simp
  refine wpAny_call ?_
  k_dflt ktr_enter
  k_steps
  rename News _ _ _ _ => kN
  simp only [List.toList_toArray] at kN
  have kN2 := news_mv [_, _, _] kN
  refine hret _ _ _ _ _ ?_ kN2 ?_ ?_
  · assumption
  · exact above_cons (allLt_cons (by k_extra "pick") (by k_extra "pick")) (above_cons (allLt_cons (by k_extra "pick") (by k_extra "pick")) (above_cons (allLt_cons (by k_extra "pick") (by k_extra "pick")) above_nil))
  · exact ⟨_, _, _, _, _, _, _, rfl, List.Mem.head _, List.Mem.tail _ (List.Mem.head _), hi0.append (IntsAre.cons _ _ IntsAre.nil), hp0.mono (fun q hq => List.mem_append.mpr (.inr hq))⟩
theorem status_put_mark1 {tl TT : Led} {l t : Addr} {r : List Value} {u1 : Value} {n : Nat} {code bg : Int} {tk0 : Nat} {pv : Value} {c1 : Cell} (B : Below A₀ base outer h₀) (F : Fr h₀ L s.heap m) (X : (Mine.frag.heap_1 w.params).In h₀) (N : News h₀ L s.heap ((l, listOf (r ++ [u1]).toArray n) :: tl)) (T : Top p loose mean mg mb h₀) (hk : cs.kind = .function)
   (hd : dp + 3 < recursionLimit) (hu : un + 24 < cLine)
   (hsub : ∀ p ∈ TT, p ∈ tl) (hoff : ∀ p ∈ tl, p.1 ≠ l) (hu1 : CellV TT bg u1 c1) (hT : TabV TT t) (hlen : r.length ≤ 1000)
   (hc : code = 768) (hz : ¬ c1.w = 0) (hne : c1.codes ≠ []) (hcl : c1.codes.length ≤ 100)
   (hret : ∀ u n' tl' h' tk', Fr h₀ L h' m → News h₀ L h' ((l, listOf (r ++ [u]).toArray n') :: (tl' ++ tl)) → Above tl' ((l, listOf (r ++ [u1]).toArray n) :: tl) → CellV (tl' ++ TT) bg u ⟨c1.codes ++ [768], c1.w⟩ → Q .none { s with heap := h', toks := tk' }) :
   wpAny (model prog w) (ktrTop dp un gd cn cs L a ccd cl outer) (call (.ref 408) [.ref l, .int code tk0, pv, .ref t]) Q E s := by
  subst hc
  have hT0 := hT.mono hsub
  replace hT := hT0
  obtain ⟨d, lw, tw, lm, tm, lj, h1, h2, h3, k1, k2, k3, n9, n11, n12, n13, n14, t1, t2, t3, t4, m1, m2, m3, m4, m5, m6⟩ := hT
  have hw : wOf 768 = 0 := by decide
  obtain ⟨x1, y1, vs1, pv1, ti1, n1, n1', rfl, hx1, hy1, hi1, hp1⟩ := hu1
  replace hx1 := hsub _ hx1
  replace hy1 := hsub _ hy1
  have hl1 := hi1.length
  have hv1 : vs1.toArray.toList ≠ [] := by
    intro e
    have e2 : vs1 = [] := by simpa using e
    rw [e2] at hl1
    exact hne (List.eq_nil_of_length_eq_zero hl1.symm)
  have hL : ((r ++ [Value.ref x1]).length : Int) = (r.length : Int) + 1 := by simp
  refine wpAny_call ?_
  k_dflt ktr_enter
  k_steps
  rename News _ _ _ _ => kN
  simp only [List.toList_toArray] at kN
  have kN2 := news_mv [_, _, _] kN
  refine hret _ _ _ _ _ ?_ kN2 ?_ ?_
  · assumption
  · exact above_cons (allLt_cons (by k_extra "pick") (by k_extra "pick")) (above_cons (allLt_cons (by k_extra "pick") (by k_extra "pick")) (above_cons (allLt_cons (by k_extra "pick") (by k_extra "pick")) above_nil))
  · exact ⟨_, _, _, _, _, _, _, rfl, List.Mem.head _, List.Mem.tail _ (List.Mem.head _), hi1.append (IntsAre.cons _ _ IntsAre.nil), hp1.mono (fun q hq => List.mem_append.mpr (.inr hq))⟩
theorem status_put_markE {tl : Led} {l t : Addr} {n : Nat} {code : Int} {tk0 : Nat} {pv : Value} (B : Below A₀ base outer h₀) (F : Fr h₀ L s.heap m) (X : (Mine.frag.heap_1 w.params).In h₀) (N : News h₀ L s.heap ((l, listOf ([] : List Value).toArray n) :: tl)) (T : Top p loose mean mg mb h₀) (hk : cs.kind = .function)
   (hd : dp + 3 < recursionLimit) (hu : un + 24 < cLine)
   (hT : TabV tl t)
   (hc : code = 768)
   (hret : ∀ h' tk', Fr h₀ L h' m → News h₀ L h' ((l, listOf ([] : List Value).toArray n) :: tl) → Q .none { s with heap := h', toks := tk' }) :
   wpAny (model prog w) (ktrTop dp un gd cn cs L a ccd cl outer) (call (.ref 408) [.ref l, .int code tk0, pv, .ref t]) Q E s := by
  subst hc
  have hT0 := hT
  obtain ⟨d, lw, tw, lm, tm, lj, h1, h2, h3, k1, k2, k3, n9, n11, n12, n13, n14, t1, t2, t3, t4, m1, m2, m3, m4, m5, m6⟩ := hT
  have hw : wOf 768 = 0 := by decide
  have hL : (([] : List Value).length : Int) = 0 := by simp
  refine wpAny_call ?_
  k_dflt ktr_enter
  k_steps
  refine' hret _ _ ?_ ?_ <;> assumption

end
end
section
theorem rg7 : True := by
  k_with_none
  k_with "omega" => (first | decide | (with_reducible first | exact Int.natCast_nonneg _ | exact rm1 ‹_› (by decide) | exact rm2 ‹_› (by decide) | exact rm3 ‹_› (by decide) | exact om_le ‹_› (by decide) | exact om_63 ‹_› (by decide) | exact om_eqle ‹_› ‹_› (by decide) | exact om_eq63 ‹_› ‹_› (by decide) | exact om_add ‹_› (by decide) | exact om_ne ‹_› (by decide) | exact om_le2 ‹_› ‹_› (by decide) | exact om_le2s ‹_› ‹_› (by decide) | exact om_le2_63 ‹_› ‹_› (by decide) | exact om_le2s_63 ‹_› ‹_› (by decide) | exact om_z62 ‹_› (by decide) | exact om_zn62 | exact om_kle ‹_› (by decide) | exact om_neg1 | exact om_pos | exact om_at ‹_› (by decide) | exact om_at0 ‹_› | exact om_add63 ‹_› (by decide) | exact Nat.ne_of_gt (by k_extra "pick") | exact Nat.ne_of_lt (by k_extra "pick")))
  k_with "ktr_room" => (first | exact rm0 (by assumption) | exact rm1 (by assumption) (Nat.le_of_ble_eq_true rfl))
  k_with "k_ne" => ((refine neN ?_; (try dsimp only); first | exact Nat.ne_of_gt (by assumption) | exact Nat.ne_of_lt (by assumption) | exact Nat.ne_of_gt (And.left (by assumption)) | exact Nat.ne_of_lt (And.left (by assumption)) | exact Nat.ne_of_gt (And.left (And.right (by assumption))) | exact Nat.ne_of_lt (And.left (And.right (by assumption))) | exact Nat.ne_of_gt (And.right (by assumption)) | exact Nat.ne_of_lt (And.right (by assumption)) | exact Nat.ne_of_gt (And.left (And.right (And.right (by assumption)))) | exact Nat.ne_of_lt (And.left (And.right (And.right (by assumption)))) | exact Nat.ne_of_gt (And.right (And.right (by assumption))) | exact Nat.ne_of_lt (And.right (And.right (by assumption)))))
  k_with "pick" => (with_reducible first | assumption | exact And.left ‹_› | exact And.left (And.right ‹_›) | exact And.left (And.right (And.right ‹_›)) | exact And.left (And.right (And.right (And.right ‹_›))) | exact And.left (And.right (And.right (And.right (And.right ‹_›)))) | exact And.left (And.right (And.right (And.right (And.right (And.right ‹_›))))) | exact And.left (And.right (And.right (And.right (And.right (And.right (And.right ‹_›)))))) | exact And.left (And.right (And.right (And.right (And.right (And.right (And.right (And.right ‹_›))))))) | exact And.left (And.right (And.right (And.right (And.right (And.right (And.right (And.right (And.right ‹_›)))))))) | exact And.left (And.right (And.right (And.right (And.right (And.right (And.right (And.right (And.right (And.right ‹_›))))))))) | exact And.left (And.right (And.right (And.right (And.right (And.right (And.right (And.right (And.right (And.right (And.right ‹_›)))))))))) | exact (And.right ‹_›) | exact (And.right (And.right ‹_›)) | exact (And.right (And.right (And.right ‹_›))) | exact (And.right (And.right (And.right (And.right ‹_›)))) | exact (And.right (And.right (And.right (And.right (And.right ‹_›))))) | exact (And.right (And.right (And.right (And.right (And.right (And.right ‹_›)))))) | exact (And.right (And.right (And.right (And.right (And.right (And.right (And.right ‹_›))))))) | exact (And.right (And.right (And.right (And.right (And.right (And.right (And.right (And.right ‹_›)))))))) | exact (And.right (And.right (And.right (And.right (And.right (And.right (And.right (And.right (And.right ‹_›))))))))) | exact (And.right (And.right (And.right (And.right (And.right (And.right (And.right (And.right (And.right (And.right ‹_›)))))))))))
  k_with "k_room" => (((simp only [depth_under_make, depth_under_kw, depth_in1, depth_deeper, depth_caller]); omega))
  k_with "k_all" => (assumption)
  k_with "eval Name" => (k_here; dsimp only)
  k_with "eval Call" => (k_here; dsimp only)
  k_with "eval Constant int" => (k_here; dsimp only)
  k_with "eval Attribute Name" => (k_here; dsimp only)
  k_with "eval BinOp" => (k_here; dsimp only)
  k_with "storeName" => (k_here; dsimp only)
  k_with "setAttr ref" => (k_here; dsimp only)
  k_with "eval Compare" => (k_here; dsimp only)
  k_with "isTrue Compare" => (k_here; dsimp only)
  k_with "eval Subscript" => (k_here; dsimp only)
  k_with "execs cons" => (k_here; first | (with_reducible rename News _ _ _ _ => nZ9; dsimp only at nZ9) | dsimp only | ((with_reducible show wpAny _ _ _ _ _ (Shared.mk _ _ _ (HAdd.hAdd _ _) _)); refine gen_toks ?_; intro _))
  k_with "eval Name" => (k_here; (fail_if_success (with_reducible show wpAny _ _ (eval _ (compEnvC _ _ _ _)) _ _ _)); (try dsimp only); k_dflt (first | (refine' nameX_L ?q9F ?q9v ?_ ?q9a ?q9b; (case q9F => k_asm); (case q9a => rfl); (case q9b => rfl); (case q9v => rfl); k_whole) | (refine' nameX_K ?q9F ?q9X ?q9T ?q9e ?_ ?q9a ?q9b; (case q9F => k_asm); (case q9X => k_asm); (case q9T => k_asm); (case q9a => rfl); (case q9b => rfl); (case q9e => k_is); k_whole) | (refine' nameX_B ?q9F ?q9X ?q9T ?q9e ?q9v ?q9n ?_ ?q9a ?q9b; (case q9F => k_asm); (case q9X => k_asm); (case q9T => k_asm); (case q9a => rfl); (case q9b => rfl); (case q9e => k_is); (case q9v => boot_fast); (case q9n => decide); k_whole)))
  k_with "execs cons" => (k_here; (try (with_reducible rename News _ _ _ _ => nZ9; dsimp only at nZ9)); (try dsimp only); (try ((with_reducible show wpAny _ _ _ _ _ (Shared.mk _ _ _ (HAdd.hAdd _ _) _)); refine gen_toks ?_; intro _)); (with_reducible refine wpAny_execs_cons ?_); (try dsimp only))
  k_with "eval Constant int" => (k_here; (try dsimp only); refine wpAny_Constant_int ?_)
  k_with "spliced" => (k_here; (fail_if_success (with_reducible show wpAny _ _ (spliced (backTo _ (starEach (PySem.Expr.Starred _ _ :: _) _))) _ _ _)); k_dflt (first | refine args_cons ?_ | (refine args_nil ?_; try simp only [List.cons_append, List.nil_append])))
  k_with "subscriptTail" => (k_here; (with_reducible show wpAny _ _ (subscriptTail _ _ (Value.ref _) (Value.int _ _)) _ _ _); k_dflt (refine' item_tupleT ?q9t ?q9a ?q9b ?q9c ?q9d ?_; (case q9t => exact News.isTup (by k_asm) (by k_mem)); (case q9a => decide); (case q9b => decide); (case q9c => rfl); (case q9d => rfl); k_whole))
  k_with "storeName" => (k_here; (fail_if_success (with_reducible show wpAny _ _ (storeName _ _ (compEnvC _ _ _ _)) _ _ _)); (try dsimp only); k_dflt (refine' storeX_L ?q9F ?q9N ?_ ?q9a ?q9b; (case q9F => k_asm); (case q9N => k_asm); (case q9a => rfl); (case q9b => rfl); k_whole; intro z9h z9F z9N; (try k_sweep)))
  k_with "callWith ref" => (k_here; k_dflt (first | (refine' callWith_K ?q9a ?q9b ?_; (case q9a => k_asm); (case q9b => k_is); k_whole) | (refine' callWith_K0 ?q9a ?q9b ?_; (case q9a => k_in); (case q9b => k_is); k_whole) | (refine' callWith_M0 ?q9a ?q9b ?_; (case q9a => k_meth); (case q9b => k_is); k_whole; try dsimp only [List.nil_append, List.cons_append]) | (refine' callWith_M ?q9a ?q9b ?q9c ?q9d ?_; (case q9a => k_asm); (case q9b => k_asm); (case q9c => k_mem); (case q9d => k_is); k_whole)))
  k_with "truthy bool" => (with_reducible refine wpAny_truthy_bool ?_)
  k_with "k_mem" => first | with_reducible assumption | assumption
  k_with "subscriptTail" => (k_here; (with_reducible show wpAny _ _ (subscriptTail _ _ (Value.ref _) (Value.int _ _)) _ _ _); (with_unfolding_all refine' item_litK ?q9k1 ?q9k2 ?q9k3 ?q9k4 ?_ ?q9k6; (case q9k1 => exact News.isList (by k_asm) (by k_mem)); (case q9k2 => decide); (case q9k3 => decide); (case q9k4 => rfl); (case q9k6 => with_unfolding_all rfl); k_whole))
  k_with "callWith" => ((with_reducible show wpAny _ _ (callWith _ (Value.builtin _) (_ :: _) (backTo _ (starEach (_ :: _) _)) []) _ _ _); k_dflt (refine callWith_method1 ?_))
  trivial
section
variable {prog : Program} {w : World} {p : Program} {loose : List Str} {mean : ExcName → Option Value} {mg mb : Str → Option Value}
 {dp un : Nat} {gd : Option (List Code)} {cn : Str} {cs : Scope} {a : Addr} {ccd : Value} {cl : List (Str × Addr)} {outer : List Env} {A₀ : Around} {base h₀ : Heap} {L : Addr} {m : Str → Option Value} {s : Shared} {Q E : Value → Shared → Prop}
noncomputable abbrev Glyph := List Int × Bool
noncomputable def cellsG (g : Glyph) : List Cell := if g.2 then [⟨g.1, 2⟩, ⟨[], 0⟩] else [⟨g.1, 1⟩]
noncomputable def cellsOf (gs : List Glyph) : List Cell := gs.flatMap cellsG
noncomputable def markLast : List Glyph → List Glyph
  | [] => []
  | [g] => [(g.1 ++ [768], g.2)]
  | g :: h :: r => g :: markLast (h :: r)
noncomputable def putG (gs : List Glyph) (code : Int) : List Glyph :=
  if code < 32 ∨ code = 127 then gs
  else if code = 768 then markLast gs
  else gs ++ [([code], decide (19968 ≤ code))]
noncomputable def OkCode (c : Int) : Prop := (0 ≤ c ∧ c < 32) ∨ c = 127 ∨ (32 ≤ c ∧ c < 127) ∨ c = 768 ∨ (19968 ≤ c ∧ c ≤ 20000)
noncomputable def GoodG (k : Nat) (gs : List Glyph) : Prop := gs.length ≤ k ∧ ∀ g ∈ gs, g.1 ≠ [] ∧ g.1.length ≤ k
theorem markLast_snoc (gs : List Glyph) (g : Glyph) : markLast (gs ++ [g]) = gs ++ [(g.1 ++ [768], g.2)] := by
  induction gs with
  | nil => rfl
  | cons a r ih => cases r with
    | nil => rfl
    | cons b r => show a :: markLast (b :: r ++ [g]) = _; rw [ih]; rfl
theorem cellsOf_append (a b : List Glyph) : cellsOf (a ++ b) = cellsOf a ++ cellsOf b := by simp [cellsOf]
theorem cellsOf_len (gs : List Glyph) : (cellsOf gs).length ≤ 2 * gs.length := by
  induction gs with
  | nil => simp [cellsOf]
  | cons g r ih =>
    have e : cellsOf (g :: r) = cellsG g ++ cellsOf r := rfl
    have e2 : (cellsG g).length ≤ 2 := by unfold cellsG; split <;> simp
    rw [e, List.length_append, List.length_cons]; (first | lia | omega)
theorem GoodG.put {k : Nat} {gs : List Glyph} {code : Int} (h : GoodG k gs) : GoodG (k + 1) (putG gs code) := by
  have up : GoodG (k + 1) gs := ⟨Nat.le_succ_of_le h.1, fun g hg => ⟨(h.2 g hg).1, Nat.le_succ_of_le (h.2 g hg).2⟩⟩
  unfold putG
  split
  · exact up
  · split
    · rcases List.eq_nil_or_concat gs with rfl | ⟨r, g, rfl⟩
      · exact up
      · rw [List.concat_eq_append, markLast_snoc]
        rw [List.concat_eq_append] at h up
        refine ⟨by have := up.1; simp at this ⊢; (first | lia | omega), fun g' hg' => ?_⟩
        rcases List.mem_append.mp hg' with hg' | hg'
        · exact up.2 g' (List.mem_append.mpr (.inl hg'))
        · rw [List.mem_singleton.mp hg']
          refine ⟨by simp, ?_⟩
          have := (h.2 g (List.mem_append.mpr (.inr (List.mem_singleton.mpr rfl)))).2
          simp; (first | lia | omega)
    · refine ⟨by have := h.1; simp; (first | lia | omega), fun g' hg' => ?_⟩
      rcases List.mem_append.mp hg' with hg' | hg'
      · exact up.2 g' hg'
      · rw [List.mem_singleton.mp hg']; exact ⟨by simp, by simp⟩
theorem CellsV.split {l : Led} {bg : Int} : ∀ {a b : List Cell} {vs : List Value}, CellsV l bg vs (a ++ b) → ∃ x y, vs = x ++ y ∧ CellsV l bg x a ∧ CellsV l bg y b
  | [], _, vs, h => ⟨[], vs, rfl, .nil, h⟩
  | c :: a, b, _, .cons h r => by
    obtain ⟨x, y, rfl, hx, hy⟩ := CellsV.split r
    exact ⟨_ :: x, y, rfl, .cons h hx, hy⟩
theorem status_put_ok {tl TT : Led} {l t : Addr} {vs : List Value} {n k : Nat} {code bg : Int} {tk0 : Nat} {pv : Value} {gs : List Glyph} (B : Below A₀ base outer h₀) (F : Fr h₀ L s.heap m) (X : (Mine.frag.heap_1 w.params).In h₀) (N : News h₀ L s.heap ((l, listOf vs.toArray n) :: tl)) (T : Top p loose mean mg mb h₀) (hk : cs.kind = .function)
   (hd : dp + 3 < recursionLimit) (hu : un + 24 < cLine)
   (hsub : ∀ p ∈ TT, p ∈ tl) (hoff : ∀ p ∈ tl, p.1 ≠ l) (hcs : CellsV TT bg vs (cellsOf gs)) (hp : PenV TT pv bg) (hT : TabV TT t) (hg : GoodG k gs) (hk90 : k ≤ 90) (hc : OkCode code)
   (hret : ∀ vs' n' tl' h' tk', Fr h₀ L h' m → News h₀ L h' ((l, listOf vs'.toArray n') :: (tl' ++ tl)) → Above tl' ((l, listOf vs.toArray n) :: tl) → CellsV (tl' ++ TT) bg vs' (cellsOf (putG gs code)) → Q .none { s with heap := h', toks := tk' }) :
   wpAny (model prog w) (ktrTop dp un gd cn cs L a ccd cl outer) (call (.ref 408) [.ref l, .int code tk0, pv, .ref t]) Q E s := by
  have hlen : vs.length ≤ 1000 := by have := hcs.length; have := cellsOf_len gs; have := hg.1; (first | lia | omega)
  rcases hc with hc | hc | hc | hc | hc
  · have e : putG gs code = gs := if_pos (.inl hc.2)
    rw [e] at hret
    exact status_put_ctl (tl := tl) B F X N T hk hd hu (.inl hc.2) (fun h' tk' F N => hret vs n [] h' tk' F N above_nil hcs)
  · have e : putG gs code = gs := if_pos (.inr hc)
    rw [e] at hret
    exact status_put_ctl (tl := tl) B F X N T hk hd hu (.inr hc) (fun h' tk' F N => hret vs n [] h' tk' F N above_nil hcs)
  · have e : putG gs code = gs ++ [([code], false)] := by unfold putG; rw [if_neg (by (first | lia | omega)), if_neg (by (first | lia | omega)), decide_eq_false (by (first | lia | omega))]
    rw [e] at hret
    refine status_put_nar B F X N T hk hd hu hsub hoff hcs hp hT hlen hc (fun vs' n' tl' h' tk' F N A C => hret vs' n' tl' h' tk' F N A ?_)
    rw [putC_nar hc] at C
    rw [cellsOf_append]; exact C
  · rcases List.eq_nil_or_concat gs with rfl | ⟨r, g, rfl⟩
    · cases hcs
      exact status_put_markE B F X N T hk hd hu (hT.mono hsub) hc (fun h' tk' F N => hret [] n [] h' tk' F N above_nil (by subst hc; exact .nil))
    · rw [List.concat_eq_append] at hcs hret hg
      have e : putG (r ++ [g]) code = r ++ [(g.1 ++ [768], g.2)] := by unfold putG; rw [if_neg (by (first | lia | omega)), if_pos hc, markLast_snoc]
      rw [e] at hret
      rw [cellsOf_append] at hcs
      obtain ⟨x, y, rfl, hx, hy⟩ := hcs.split
      have hg1 := hg.2 g (List.mem_append.mpr (.inr (List.mem_singleton.mpr rfl)))
      obtain ⟨gc, gw⟩ := g
      have hxl : x.length ≤ 1000 := by simp at hlen; (first | lia | omega)
      cases gw with
      | true =>
        cases hy with
        | cons h0 hy => cases hy with
          | cons h1 hy =>
            cases hy
            refine status_put_mark0 B F X N T hk hd hu hsub hoff h0 h1 hT hxl hc rfl hg1.1 (Nat.le_trans hg1.2 (by (first | lia | omega))) (fun u n' tl' h' tk' F N A C => hret _ n' tl' h' tk' F N A ?_)
            rw [cellsOf_append]
            exact (hx.mono (fun q hq => List.mem_append.mpr (.inr hq))).append (.cons C (.cons (h1.mono (fun q hq => List.mem_append.mpr (.inr hq))) .nil))
      | false =>
        cases hy with
        | cons h1 hy =>
          cases hy
          refine status_put_mark1 B F X N T hk hd hu hsub hoff h1 hT hxl hc (by simp) hg1.1 (Nat.le_trans hg1.2 (by (first | lia | omega))) (fun u n' tl' h' tk' F N A C => hret _ n' tl' h' tk' F N A ?_)
          rw [cellsOf_append]
          exact (hx.mono (fun q hq => List.mem_append.mpr (.inr hq))).append (.cons C .nil)
  · have e : putG gs code = gs ++ [([code], true)] := by unfold putG; rw [if_neg (by (first | lia | omega)), if_neg (by (first | lia | omega)), decide_eq_true (by (first | lia | omega))]
    rw [e] at hret
    refine status_put_wid B F X N T hk hd hu hsub hoff hcs hp hT hlen hc (fun vs' n' tl' h' tk' F N A C => hret vs' n' tl' h' tk' F N A ?_)
    rw [putC_wid hc] at C
    rw [cellsOf_append]; exact C

end
end
section
theorem rg8 : True := by
  k_with_none
  k_with "omega" => (first | decide | (with_reducible first | exact Int.natCast_nonneg _ | exact rm1 ‹_› (by decide) | exact rm2 ‹_› (by decide) | exact rm3 ‹_› (by decide) | exact om_le ‹_› (by decide) | exact om_63 ‹_› (by decide) | exact om_eqle ‹_› ‹_› (by decide) | exact om_eq63 ‹_› ‹_› (by decide) | exact om_add ‹_› (by decide) | exact om_ne ‹_› (by decide) | exact om_le2 ‹_› ‹_› (by decide) | exact om_le2s ‹_› ‹_› (by decide) | exact om_le2_63 ‹_› ‹_› (by decide) | exact om_le2s_63 ‹_› ‹_› (by decide) | exact om_z62 ‹_› (by decide) | exact om_zn62 | exact om_kle ‹_› (by decide) | exact om_neg1 | exact om_pos | exact om_at ‹_› (by decide) | exact om_at0 ‹_› | exact om_add63 ‹_› (by decide) | exact Nat.ne_of_gt (by k_extra "pick") | exact Nat.ne_of_lt (by k_extra "pick")))
  k_with "ktr_room" => (first | exact rm0 (by assumption) | exact rm1 (by assumption) (Nat.le_of_ble_eq_true rfl))
  k_with "k_ne" => ((refine neN ?_; (try dsimp only); first | exact Nat.ne_of_gt (by assumption) | exact Nat.ne_of_lt (by assumption) | exact Nat.ne_of_gt (And.left (by assumption)) | exact Nat.ne_of_lt (And.left (by assumption)) | exact Nat.ne_of_gt (And.left (And.right (by assumption))) | exact Nat.ne_of_lt (And.left (And.right (by assumption))) | exact Nat.ne_of_gt (And.right (by assumption)) | exact Nat.ne_of_lt (And.right (by assumption)) | exact Nat.ne_of_gt (And.left (And.right (And.right (by assumption)))) | exact Nat.ne_of_lt (And.left (And.right (And.right (by assumption)))) | exact Nat.ne_of_gt (And.right (And.right (by assumption))) | exact Nat.ne_of_lt (And.right (And.right (by assumption)))))
  k_with "pick" => (with_reducible first | assumption | exact And.left ‹_› | exact And.left (And.right ‹_›) | exact And.left (And.right (And.right ‹_›)) | exact And.left (And.right (And.right (And.right ‹_›))) | exact And.left (And.right (And.right (And.right (And.right ‹_›)))) | exact And.left (And.right (And.right (And.right (And.right (And.right ‹_›))))) | exact And.left (And.right (And.right (And.right (And.right (And.right (And.right ‹_›)))))) | exact And.left (And.right (And.right (And.right (And.right (And.right (And.right (And.right ‹_›))))))) | exact And.left (And.right (And.right (And.right (And.right (And.right (And.right (And.right (And.right ‹_›)))))))) | exact And.left (And.right (And.right (And.right (And.right (And.right (And.right (And.right (And.right (And.right ‹_›))))))))) | exact And.left (And.right (And.right (And.right (And.right (And.right (And.right (And.right (And.right (And.right (And.right ‹_›)))))))))) | exact (And.right ‹_›) | exact (And.right (And.right ‹_›)) | exact (And.right (And.right (And.right ‹_›))) | exact (And.right (And.right (And.right (And.right ‹_›)))) | exact (And.right (And.right (And.right (And.right (And.right ‹_›))))) | exact (And.right (And.right (And.right (And.right (And.right (And.right ‹_›)))))) | exact (And.right (And.right (And.right (And.right (And.right (And.right (And.right ‹_›))))))) | exact (And.right (And.right (And.right (And.right (And.right (And.right (And.right (And.right ‹_›)))))))) | exact (And.right (And.right (And.right (And.right (And.right (And.right (And.right (And.right (And.right ‹_›))))))))) | exact (And.right (And.right (And.right (And.right (And.right (And.right (And.right (And.right (And.right (And.right ‹_›)))))))))))
  k_with "k_room" => (((simp only [depth_under_make, depth_under_kw, depth_in1, depth_deeper, depth_caller]); omega))
  k_with "k_all" => (assumption)
  k_with "eval Name" => (k_here; dsimp only)
  k_with "eval Call" => (k_here; dsimp only)
  k_with "eval Constant int" => (k_here; dsimp only)
  k_with "eval Attribute Name" => (k_here; dsimp only)
  k_with "eval BinOp" => (k_here; dsimp only)
  k_with "storeName" => (k_here; dsimp only)
  k_with "setAttr ref" => (k_here; dsimp only)
  k_with "eval Compare" => (k_here; dsimp only)
  k_with "isTrue Compare" => (k_here; dsimp only)
  k_with "eval Subscript" => (k_here; dsimp only)
  k_with "execs cons" => (k_here; first | (with_reducible rename News _ _ _ _ => nZ9; dsimp only at nZ9) | dsimp only | ((with_reducible show wpAny _ _ _ _ _ (Shared.mk _ _ _ (HAdd.hAdd _ _) _)); refine gen_toks ?_; intro _))
  k_with "eval Name" => (k_here; (fail_if_success (with_reducible show wpAny _ _ (eval _ (compEnvC _ _ _ _)) _ _ _)); (try dsimp only); k_dflt (first | (refine' nameX_L ?q9F ?q9v ?_ ?q9a ?q9b; (case q9F => k_asm); (case q9a => rfl); (case q9b => rfl); (case q9v => rfl); k_whole) | (refine' nameX_K ?q9F ?q9X ?q9T ?q9e ?_ ?q9a ?q9b; (case q9F => k_asm); (case q9X => k_asm); (case q9T => k_asm); (case q9a => rfl); (case q9b => rfl); (case q9e => k_is); k_whole) | (refine' nameX_B ?q9F ?q9X ?q9T ?q9e ?q9v ?q9n ?_ ?q9a ?q9b; (case q9F => k_asm); (case q9X => k_asm); (case q9T => k_asm); (case q9a => rfl); (case q9b => rfl); (case q9e => k_is); (case q9v => boot_fast); (case q9n => decide); k_whole)))
  k_with "execs cons" => (k_here; (try (with_reducible rename News _ _ _ _ => nZ9; dsimp only at nZ9)); (try dsimp only); (try ((with_reducible show wpAny _ _ _ _ _ (Shared.mk _ _ _ (HAdd.hAdd _ _) _)); refine gen_toks ?_; intro _)); (with_reducible refine wpAny_execs_cons ?_); (try dsimp only))
  k_with "eval Constant int" => (k_here; (try dsimp only); refine wpAny_Constant_int ?_)
  k_with "spliced" => (k_here; (fail_if_success (with_reducible show wpAny _ _ (spliced (backTo _ (starEach (PySem.Expr.Starred _ _ :: _) _))) _ _ _)); k_dflt (first | refine args_cons ?_ | (refine args_nil ?_; try simp only [List.cons_append, List.nil_append])))
  k_with "subscriptTail" => (k_here; (with_reducible show wpAny _ _ (subscriptTail _ _ (Value.ref _) (Value.int _ _)) _ _ _); k_dflt (refine' item_tupleT ?q9t ?q9a ?q9b ?q9c ?q9d ?_; (case q9t => exact News.isTup (by k_asm) (by k_mem)); (case q9a => decide); (case q9b => decide); (case q9c => rfl); (case q9d => rfl); k_whole))
  k_with "storeName" => (k_here; (fail_if_success (with_reducible show wpAny _ _ (storeName _ _ (compEnvC _ _ _ _)) _ _ _)); (try dsimp only); k_dflt (refine' storeX_L ?q9F ?q9N ?_ ?q9a ?q9b; (case q9F => k_asm); (case q9N => k_asm); (case q9a => rfl); (case q9b => rfl); k_whole; intro z9h z9F z9N; (try k_sweep)))
  k_with "callWith ref" => (k_here; k_dflt (first | (refine' callWith_K ?q9a ?q9b ?_; (case q9a => k_asm); (case q9b => k_is); k_whole) | (refine' callWith_K0 ?q9a ?q9b ?_; (case q9a => k_in); (case q9b => k_is); k_whole) | (refine' callWith_M0 ?q9a ?q9b ?_; (case q9a => k_meth); (case q9b => k_is); k_whole; try dsimp only [List.nil_append, List.cons_append]) | (refine' callWith_M ?q9a ?q9b ?q9c ?q9d ?_; (case q9a => k_asm); (case q9b => k_asm); (case q9c => k_mem); (case q9d => k_is); k_whole)))
  k_with "truthy bool" => (with_reducible refine wpAny_truthy_bool ?_)
  k_with "k_mem" => first | with_reducible assumption | assumption
  k_with "subscriptTail" => (k_here; (with_reducible show wpAny _ _ (subscriptTail _ _ (Value.ref _) (Value.int _ _)) _ _ _); (with_unfolding_all refine' item_litK ?q9k1 ?q9k2 ?q9k3 ?q9k4 ?_ ?q9k6; (case q9k1 => exact News.isList (by k_asm) (by k_mem)); (case q9k2 => decide); (case q9k3 => decide); (case q9k4 => rfl); (case q9k6 => with_unfolding_all rfl); k_whole))
  k_with "callWith" => ((with_reducible show wpAny _ _ (callWith _ (Value.builtin _) (_ :: _) (backTo _ (starEach (_ :: _) _)) []) _ _ _); k_dflt (refine callWith_method1 ?_))
  trivial
section
variable {prog : Program} {w : World} {p : Program} {loose : List Str} {mean : ExcName → Option Value} {mg mb : Str → Option Value}
 {dp un : Nat} {gd : Option (List Code)} {cn : Str} {cs : Scope} {a : Addr} {ccd : Value} {cl : List (Str × Addr)} {outer : List Env} {A₀ : Around} {base h₀ : Heap} {L : Addr} {m : Str → Option Value} {s : Shared} {Q E : Value → Shared → Prop}
theorem rg9 : True := by
  k_with "exec For Name Name cons nil" => (k_here; (rename Fr _ _ _ _ => z9lF'); (with_unfolding_all refine' For_invVF z9lF' ?q9k1 ?q9k2 ?_; (case q9k1 => exact rfl); (case q9k2 => exact rfl); k_whole))
  k_with "pyIter ref" => (refine stop_in ?_)
  k_with "call ref" => ((with_reducible show wpAny _ _ (call (Value.ref 408) _) _ _ _); k_dflt (refine' status_put_ok ?q9B ?q9F ?q9X ?q9N ?q9T ?q9hk ?q9hd ?q9hu ?q9m1 ?q9m2 ?q9m3 ?q9m4 ?q9m5 ?q9m6 ?q9m7 ?q9m8 ?_; (case q9B => k_asm); (case q9F => k_asm); (case q9X => k_asm); (case q9N => k_asm); (case q9T => k_asm); (case q9hk => exact rfl); (case q9m1 => assumption); (case q9m2 => assumption); (case q9m3 => assumption); (case q9m4 => assumption); (case q9m5 => assumption); (case q9m6 => assumption); (case q9m7 => first | assumption | omega); (case q9m8 => assumption); (case q9hd => (first | exact rm2 (by assumption) (Nat.le_of_ble_eq_true rfl) | exact rm1 (by assumption) (Nat.le_of_ble_eq_true rfl) | (first | exact rm2 (by assumption) (Nat.le_of_ble_eq_true rfl) | exact rm1 (by assumption) (Nat.le_of_ble_eq_true rfl) | (show _ + _ < _; simp only [depth_deeper]; omega)))); (case q9hu => (first | exact rm2 (by assumption) (Nat.le_of_ble_eq_true rfl) | exact rm1 (by assumption) (Nat.le_of_ble_eq_true rfl) | (first | exact rm2 (by assumption) (Nat.le_of_ble_eq_true rfl) | exact rm1 (by assumption) (Nat.le_of_ble_eq_true rfl) | (show _ + _ < _; simp only [units_deeper]; omega))))); intro _ _ _ _ _ _ _ _ _)
  trivial
noncomputable def putAll (codes : List Int) : List Glyph := codes.foldl putG []
theorem putAll_take {codes : List Int} {i : Nat} {c : Int} (h : codes[i]? = some c) : putAll (codes.take (i + 1)) = putG (putAll (codes.take i)) c := by
  unfold putAll; rw [List.take_add_one, h]; simp
theorem putAll_good : ∀ (codes : List Int) (k : Nat) (gs : List Glyph), GoodG k gs → GoodG (k + codes.length) (codes.foldl putG gs)
  | [], k, gs, h => h
  | c :: r, k, gs, h => by
    have := putAll_good r (k + 1) (putG gs c) h.put
    rw [List.foldl_cons, List.length_cons]
    rw [show k + (r.length + 1) = k + 1 + r.length by (first | lia | omega)]
    exact this
theorem putAll_good0 (codes : List Int) : GoodG codes.length (putAll codes) := by
  have := putAll_good codes 0 [] ⟨Nat.zero_le _, fun _ h => nomatch h⟩
  rwa [Nat.zero_add] at this
theorem status_cells_ok {news : Led} {lc t : Addr} {cvs : List Value} {codes : List Int} {nc : Nat} {bg : Int} {pv : Value} (B : Below A₀ base outer h₀) (F : Fr h₀ L s.heap m) (X : (Mine.frag.heap_1 w.params).In h₀) (N : News h₀ L s.heap news) (T : Top p loose mean mg mb h₀) (hk : cs.kind = .function)
   (hd : dp + 4 < recursionLimit) (hu : un + 32 < cLine)
   (hlc : (lc, listOf cvs.toArray nc) ∈ news) (hi : IntsAre cvs codes) (hok : ∀ c ∈ codes, OkCode c) (hl8 : codes.length ≤ 80) (hp : PenV news pv bg) (hT : TabV news t)
   (hret : ∀ l vs n tl h' tk', Fr h₀ L h' m → News h₀ L h' ((l, listOf vs.toArray n) :: (tl ++ news)) → (∀ q ∈ news, q.1 < l) → (∀ p ∈ tl ++ news, p.1 ≠ l) → CellsV (tl ++ news) bg vs (cellsOf (putAll codes)) → Q (.ref l) { s with heap := h', toks := tk' }) :
   wpAny (model prog w) (ktrTop dp un gd cn cs L a ccd cl outer) (call (.ref 415) [.ref lc, pv, .ref t]) Q E s := by
  refine wpAny_call ?_
  k_dflt ktr_enter
  k_steps
  rename Fr _ _ _ _ => F1
  rename News _ _ _ _ => N1
  rename ∀ p : Addr × Obj, p ∈ news → _ => hlt
  refine loop_mut [] (fun i o tl => ∃ vs n, o = listOf vs.toArray n ∧ CellsV (tl ++ news) bg vs (cellsOf (putAll (codes.take i)))) (by rfl) hlc F1 N1 (fun p hp => Nat.ne_of_lt (hlt p hp)) ⟨[], 0, rfl, .nil⟩ ?_ ?_
  · rintro i v o tl u h tk own hv hne ⟨vs, n, rfl, hC⟩ F2 N2
    have hil : i < codes.length := by rw [← hi.length]; exact (List.getElem?_eq_some_iff.mp hv).1
    obtain ⟨t0, hx⟩ := hi.get i (codes[i]'hil) (List.getElem?_eq_getElem hil)
    have ev : v = .int (codes[i]'hil) t0 := by rw [hx] at hv; exact (Option.some.inj hv).symm
    subst ev
    have hok' : OkCode (codes[i]'hil) := hok _ (List.getElem_mem hil)
    have hsub : ∀ p ∈ tl ++ news, p ∈ tl ++ (news ++ own) := fun p hp => (List.mem_append.mp hp).elim (fun h => List.mem_append.mpr (.inl h)) fun h => List.mem_append.mpr (.inr (List.mem_append.mpr (.inl h)))
    have hp' : PenV (tl ++ news) pv bg := hp.mono fun q hq => List.mem_append.mpr (.inr hq)
    have hT' : TabV (tl ++ news) t := hT.mono fun q hq => List.mem_append.mpr (.inr hq)
    have hg := putAll_good0 (codes.take i)
    have hgl : (codes.take i).length ≤ 90 := by rw [List.length_take]; omega
    k_steps
    rename Above _ _ => hab
    rename CellsV _ _ _ _ => hC2
    refine ⟨_, _, _, _, _, rfl, by assumption, ?_, by assumption, hab, _, _, rfl, ?_⟩
    · intro z h1 h2; unfold frm; rw [if_neg h1]; simp
    · rw [putAll_take (List.getElem?_eq_getElem hil), List.append_assoc]; exact hC2
  · rintro o tl h tk u hne ⟨vs, n, rfl, hC⟩ F2 N2
    rw [hi.length, List.take_length] at hC
    k_steps
    rename News _ _ _ _ => kN
    exact hret _ _ _ _ _ _ (by assumption) kN hlt hne hC

end
end
section
theorem rg10 : True := by
  k_with_none
  k_with "omega" => (first | decide | (with_reducible first | exact Int.natCast_nonneg _ | exact rm1 ‹_› (by decide) | exact rm2 ‹_› (by decide) | exact rm3 ‹_› (by decide) | exact om_le ‹_› (by decide) | exact om_63 ‹_› (by decide) | exact om_eqle ‹_› ‹_› (by decide) | exact om_eq63 ‹_› ‹_› (by decide) | exact om_add ‹_› (by decide) | exact om_ne ‹_› (by decide) | exact om_le2 ‹_› ‹_› (by decide) | exact om_le2s ‹_› ‹_› (by decide) | exact om_le2_63 ‹_› ‹_› (by decide) | exact om_le2s_63 ‹_› ‹_› (by decide) | exact om_z62 ‹_› (by decide) | exact om_zn62 | exact om_kle ‹_› (by decide) | exact om_neg1 | exact om_pos | exact om_at ‹_› (by decide) | exact om_at0 ‹_› | exact om_add63 ‹_› (by decide) | exact Nat.ne_of_gt (by k_extra "pick") | exact Nat.ne_of_lt (by k_extra "pick")))
  k_with "ktr_room" => (first | exact rm0 (by assumption) | exact rm1 (by assumption) (Nat.le_of_ble_eq_true rfl))
  k_with "k_ne" => ((refine neN ?_; (try dsimp only); first | exact Nat.ne_of_gt (by assumption) | exact Nat.ne_of_lt (by assumption) | exact Nat.ne_of_gt (And.left (by assumption)) | exact Nat.ne_of_lt (And.left (by assumption)) | exact Nat.ne_of_gt (And.left (And.right (by assumption))) | exact Nat.ne_of_lt (And.left (And.right (by assumption))) | exact Nat.ne_of_gt (And.right (by assumption)) | exact Nat.ne_of_lt (And.right (by assumption)) | exact Nat.ne_of_gt (And.left (And.right (And.right (by assumption)))) | exact Nat.ne_of_lt (And.left (And.right (And.right (by assumption)))) | exact Nat.ne_of_gt (And.right (And.right (by assumption))) | exact Nat.ne_of_lt (And.right (And.right (by assumption)))))
  k_with "pick" => (with_reducible first | assumption | exact And.left ‹_› | exact And.left (And.right ‹_›) | exact And.left (And.right (And.right ‹_›)) | exact And.left (And.right (And.right (And.right ‹_›))) | exact And.left (And.right (And.right (And.right (And.right ‹_›)))) | exact And.left (And.right (And.right (And.right (And.right (And.right ‹_›))))) | exact And.left (And.right (And.right (And.right (And.right (And.right (And.right ‹_›)))))) | exact And.left (And.right (And.right (And.right (And.right (And.right (And.right (And.right ‹_›))))))) | exact And.left (And.right (And.right (And.right (And.right (And.right (And.right (And.right (And.right ‹_›)))))))) | exact And.left (And.right (And.right (And.right (And.right (And.right (And.right (And.right (And.right (And.right ‹_›))))))))) | exact And.left (And.right (And.right (And.right (And.right (And.right (And.right (And.right (And.right (And.right (And.right ‹_›)))))))))) | exact (And.right ‹_›) | exact (And.right (And.right ‹_›)) | exact (And.right (And.right (And.right ‹_›))) | exact (And.right (And.right (And.right (And.right ‹_›)))) | exact (And.right (And.right (And.right (And.right (And.right ‹_›))))) | exact (And.right (And.right (And.right (And.right (And.right (And.right ‹_›)))))) | exact (And.right (And.right (And.right (And.right (And.right (And.right (And.right ‹_›))))))) | exact (And.right (And.right (And.right (And.right (And.right (And.right (And.right (And.right ‹_›)))))))) | exact (And.right (And.right (And.right (And.right (And.right (And.right (And.right (And.right (And.right ‹_›))))))))) | exact (And.right (And.right (And.right (And.right (And.right (And.right (And.right (And.right (And.right (And.right ‹_›)))))))))))
  k_with "k_room" => (((simp only [depth_under_make, depth_under_kw, depth_in1, depth_deeper, depth_caller]); omega))
  k_with "k_all" => (assumption)
  k_with "eval Name" => (k_here; dsimp only)
  k_with "eval Call" => (k_here; dsimp only)
  k_with "eval Constant int" => (k_here; dsimp only)
  k_with "eval Attribute Name" => (k_here; dsimp only)
  k_with "eval BinOp" => (k_here; dsimp only)
  k_with "storeName" => (k_here; dsimp only)
  k_with "setAttr ref" => (k_here; dsimp only)
  k_with "eval Compare" => (k_here; dsimp only)
  k_with "isTrue Compare" => (k_here; dsimp only)
  k_with "eval Subscript" => (k_here; dsimp only)
  k_with "execs cons" => (k_here; first | (with_reducible rename News _ _ _ _ => nZ9; dsimp only at nZ9) | dsimp only | ((with_reducible show wpAny _ _ _ _ _ (Shared.mk _ _ _ (HAdd.hAdd _ _) _)); refine gen_toks ?_; intro _))
  k_with "eval Name" => (k_here; (fail_if_success (with_reducible show wpAny _ _ (eval _ (compEnvC _ _ _ _)) _ _ _)); (try dsimp only); k_dflt (first | (refine' nameX_L ?q9F ?q9v ?_ ?q9a ?q9b; (case q9F => k_asm); (case q9a => rfl); (case q9b => rfl); (case q9v => rfl); k_whole) | (refine' nameX_K ?q9F ?q9X ?q9T ?q9e ?_ ?q9a ?q9b; (case q9F => k_asm); (case q9X => k_asm); (case q9T => k_asm); (case q9a => rfl); (case q9b => rfl); (case q9e => k_is); k_whole) | (refine' nameX_B ?q9F ?q9X ?q9T ?q9e ?q9v ?q9n ?_ ?q9a ?q9b; (case q9F => k_asm); (case q9X => k_asm); (case q9T => k_asm); (case q9a => rfl); (case q9b => rfl); (case q9e => k_is); (case q9v => boot_fast); (case q9n => decide); k_whole)))
  k_with "execs cons" => (k_here; (try (with_reducible rename News _ _ _ _ => nZ9; dsimp only at nZ9)); (try dsimp only); (try ((with_reducible show wpAny _ _ _ _ _ (Shared.mk _ _ _ (HAdd.hAdd _ _) _)); refine gen_toks ?_; intro _)); (with_reducible refine wpAny_execs_cons ?_); (try dsimp only))
  k_with "eval Constant int" => (k_here; (try dsimp only); refine wpAny_Constant_int ?_)
  k_with "spliced" => (k_here; (fail_if_success (with_reducible show wpAny _ _ (spliced (backTo _ (starEach (PySem.Expr.Starred _ _ :: _) _))) _ _ _)); k_dflt (first | refine args_cons ?_ | (refine args_nil ?_; try simp only [List.cons_append, List.nil_append])))
  k_with "subscriptTail" => (k_here; (with_reducible show wpAny _ _ (subscriptTail _ _ (Value.ref _) (Value.int _ _)) _ _ _); k_dflt (refine' item_tupleT ?q9t ?q9a ?q9b ?q9c ?q9d ?_; (case q9t => exact News.isTup (by k_asm) (by k_mem)); (case q9a => decide); (case q9b => decide); (case q9c => rfl); (case q9d => rfl); k_whole))
  k_with "storeName" => (k_here; (fail_if_success (with_reducible show wpAny _ _ (storeName _ _ (compEnvC _ _ _ _)) _ _ _)); (try dsimp only); k_dflt (refine' storeX_L ?q9F ?q9N ?_ ?q9a ?q9b; (case q9F => k_asm); (case q9N => k_asm); (case q9a => rfl); (case q9b => rfl); k_whole; intro z9h z9F z9N; (try k_sweep)))
  k_with "callWith ref" => (k_here; k_dflt (first | (refine' callWith_K ?q9a ?q9b ?_; (case q9a => k_asm); (case q9b => k_is); k_whole) | (refine' callWith_K0 ?q9a ?q9b ?_; (case q9a => k_in); (case q9b => k_is); k_whole) | (refine' callWith_M0 ?q9a ?q9b ?_; (case q9a => k_meth); (case q9b => k_is); k_whole; try dsimp only [List.nil_append, List.cons_append]) | (refine' callWith_M ?q9a ?q9b ?q9c ?q9d ?_; (case q9a => k_asm); (case q9b => k_asm); (case q9c => k_mem); (case q9d => k_is); k_whole)))
  k_with "truthy bool" => (with_reducible refine wpAny_truthy_bool ?_)
  k_with "k_mem" => first | with_reducible assumption | assumption
  k_with "subscriptTail" => (k_here; (with_reducible show wpAny _ _ (subscriptTail _ _ (Value.ref _) (Value.int _ _)) _ _ _); (with_unfolding_all refine' item_litK ?q9k1 ?q9k2 ?q9k3 ?q9k4 ?_ ?q9k6; (case q9k1 => exact News.isList (by k_asm) (by k_mem)); (case q9k2 => decide); (case q9k3 => decide); (case q9k4 => rfl); (case q9k6 => with_unfolding_all rfl); k_whole))
  k_with "callWith" => ((with_reducible show wpAny _ _ (callWith _ (Value.builtin _) (_ :: _) (backTo _ (starEach (_ :: _) _)) []) _ _ _); k_dflt (refine callWith_method1 ?_))
  trivial
section
variable {prog : Program} {w : World} {p : Program} {loose : List Str} {mean : ExcName → Option Value} {mg mb : Str → Option Value}
 {dp un : Nat} {gd : Option (List Code)} {cn : Str} {cs : Scope} {a : Addr} {ccd : Value} {cl : List (Str × Addr)} {outer : List Env} {A₀ : Around} {base h₀ : Heap} {L : Addr} {m : Str → Option Value} {s : Shared} {Q E : Value → Shared → Prop}
theorem m_tr {n n' : Led} {x : Addr × Obj} (h : ∀ q ∈ n, q ∈ n') (hx : x ∈ n) : x ∈ n' := h x hx
theorem CellV.out {l : Led} {bg : Int} {v : Value} {c : Cell} (h : CellV l bg v c) : ∃ x cx vs pv t n n', v = .ref x ∧ (x, tupO [.ref cx, .int c.w t, pv, .bool false] n) ∈ l ∧ (cx, tupO vs n') ∈ l ∧ IntsAre vs c.codes ∧ PenV l pv bg := by
  obtain ⟨x, cx, vs, pv, t, n, n2, a, b, c, d, e⟩ := h
  exact ⟨x, cx, vs, pv, t, n, n2, a, b, c, d, e⟩
theorem penK (P : Params) : ∃ o, (Mine.frag.heap_1 P).lookup 22 = some o ∧ o.cls = .type "tuple" ∧ ∃ t0 t1 t2 t3 t4 n, o.data = .seq #[.int 0 t0, .int (-1) t1, .int (-1) t2, .int (-1) t3, .int 0 t4] n :=
  ⟨_, rfl, rfl, _, _, _, _, _, _, rfl⟩
noncomputable def penP (bg : Int) : PyData := .tuple [.int 0, .int (-1), .int bg, .int (-1), .int 0]
noncomputable def cellP (bg : Int) (c : Cell) : PyData := .tuple [.tuple (c.codes.map .int), .int c.w, penP bg, .bool false]
theorem ints_reads {h : Heap} : ∀ {vs : List Value} {ns : List Int}, IntsAre vs ns → ReadsAll h vs (ns.map .int) []
  | _, _, .nil => .nil
  | _, _, .cons i t r => readsAll_cons_val (Reads.int i t) (ints_reads r)
theorem PenV.reads {h₀ h : Heap} {L : Addr} {news : Led} {pv : Value} {bg : Int} {P : Params} (K : (Mine.frag.heap_1 P).In h) (N : News h₀ L h news) (hp : PenV news pv bg) : Reads h pv (penP bg) [] := by
  rcases hp with ⟨rfl, rfl⟩ | ⟨pa, t0, t1, t2, t3, t4, n, rfl, hm⟩
  · obtain ⟨o, e, c, t0, t1, t2, t3, t4, n, d⟩ := penK P
    exact reads_tuple_at (K _ _ e) c d (readsAll_cons_val (Reads.int _ _) (readsAll_cons_val (Reads.int _ _) (readsAll_cons_val (Reads.int _ _) (readsAll_cons_val (Reads.int _ _) (readsAll_cons_val (Reads.int _ _) .nil)))))
  · exact reads_tuple_at (N.get hm) rfl rfl (readsAll_cons_val (Reads.int _ _) (readsAll_cons_val (Reads.int _ _) (readsAll_cons_val (Reads.int _ _) (readsAll_cons_val (Reads.int _ _) (readsAll_cons_val (Reads.int _ _) .nil)))))
theorem CellV.reads {h₀ h : Heap} {L : Addr} {news : Led} {v : Value} {bg : Int} {c : Cell} {P : Params} (K : (Mine.frag.heap_1 P).In h) (N : News h₀ L h news) (hc : CellV news bg v c) : Reads h v (cellP bg c) [] := by
  obtain ⟨x, cx, vs, pv, t, n, n', rfl, hx, hcx, hi, hp⟩ := hc
  refine reads_tuple_at (N.get hx) rfl rfl (readsAll_cons_val (reads_tuple_at (N.get hcx) rfl rfl ?_) (readsAll_cons_val (Reads.int _ _) (readsAll_cons_val (hp.reads K N) (readsAll_cons_val (Reads.bool _) .nil))))
  exact ints_reads hi
theorem CellsV.reads {h₀ h : Heap} {L : Addr} {news : Led} {bg : Int} {P : Params} (K : (Mine.frag.heap_1 P).In h) (N : News h₀ L h news) : ∀ {vs : List Value} {cs : List Cell}, CellsV news bg vs cs → ReadsAll h vs (cs.map (cellP bg)) []
  | _, _, .nil => .nil
  | _, _, .cons hc r => readsAll_cons_val (hc.reads K N) (r.reads K N)
theorem ints_lay : ∀ ns : List Int, PyData.canLayAll0 (ns.map PyData.int) = true ∧ PyData.depthAll (ns.map PyData.int) = 0 := fun ns => ⟨ke_canLayAll0 ns, ke_depthAll ns⟩
theorem cell_lay (bg : Int) (c : Cell) : (cellP bg c).canLay0 = true ∧ (cellP bg c).depth ≤ 3 := by
  unfold cellP penP
  simp only [PyData.canLay0, PyData.canLayAll0, PyData.depth, PyData.depthAll, (ints_lay c.codes).1, (ints_lay c.codes).2]
  decide
theorem cells_lay (bg : Int) : ∀ cs : List Cell, PyData.canLayAll0 (cs.map (cellP bg)) = true ∧ PyData.depthAll (cs.map (cellP bg)) ≤ 3
  | [] => by simp [PyData.canLayAll0, PyData.depthAll]
  | c :: cs => by
    have := cells_lay bg cs
    have h1 := cell_lay bg c
    simp only [List.map_cons, PyData.canLayAll0, PyData.depthAll, h1.1, this.1]
    refine ⟨rfl, ?_⟩
    (first | lia | omega)
theorem cells_shaped (bg : Int) (cs : List Cell) : SeqAt.shaped (.list (cs.map (cellP bg))) = true := by
  have := cells_lay bg cs
  unfold SeqAt.shaped
  simp only [PyData.canLay0, PyData.depth, this.1, Bool.true_and]
  exact decide_eq_true (by have := this.2; (first | lia | omega))
theorem cells_ne_nil {A : Around} {news n₁ : Led} {vs : List Value} {cc : List Cell} {bg : Int} {a1 b1 : Addr} {n n' : Nat} {P : Params} (K : (Mine.frag.heap_1 P).In s.heap) (N : News h₀ L s.heap news) (hC : CellsV n₁ bg vs cc) (hs : ∀ q ∈ n₁, q ∈ news)
    (ha : (a1, listOf vs.toArray n) ∈ news) (hb : (b1, listOf ([] : List Value).toArray n') ∈ news) (hu : A.units + 64 < cLine) {z : Bool} (hz : (!cc.isEmpty) = z) (h : Q (.bool z) s) : wpAny (model prog w) A (compareOp .NotEq (.ref a1) (.ref b1)) Q E s := by
  refine ne_dataH (reads_list_at (N.get ha) rfl rfl ((hC.mono hs).reads K N)) (reads_list_at (N.get hb) rfl rfl .nil) (cells_shaped bg cc) (by decide) hu ?_
  have e : (!PyData.eqv (.list (cc.map (cellP bg))) (.list [])) = !cc.isEmpty := by
    cases cc <;> rfl
  rw [e, hz]; exact h

end
end
section
theorem rg11 : True := by
  k_with_none
  k_with "omega" => (first | decide | (with_reducible first | exact Int.natCast_nonneg _ | exact rm1 ‹_› (by decide) | exact rm2 ‹_› (by decide) | exact rm3 ‹_› (by decide) | exact om_le ‹_› (by decide) | exact om_63 ‹_› (by decide) | exact om_eqle ‹_› ‹_› (by decide) | exact om_eq63 ‹_› ‹_› (by decide) | exact om_add ‹_› (by decide) | exact om_ne ‹_› (by decide) | exact om_le2 ‹_› ‹_› (by decide) | exact om_le2s ‹_› ‹_› (by decide) | exact om_le2_63 ‹_› ‹_› (by decide) | exact om_le2s_63 ‹_› ‹_› (by decide) | exact om_z62 ‹_› (by decide) | exact om_zn62 | exact om_kle ‹_› (by decide) | exact om_neg1 | exact om_pos | exact om_at ‹_› (by decide) | exact om_at0 ‹_› | exact om_add63 ‹_› (by decide) | exact Nat.ne_of_gt (by k_extra "pick") | exact Nat.ne_of_lt (by k_extra "pick")))
  k_with "ktr_room" => (first | exact rm0 (by assumption) | exact rm1 (by assumption) (Nat.le_of_ble_eq_true rfl))
  k_with "k_ne" => ((refine neN ?_; (try dsimp only); first | exact Nat.ne_of_gt (by assumption) | exact Nat.ne_of_lt (by assumption) | exact Nat.ne_of_gt (And.left (by assumption)) | exact Nat.ne_of_lt (And.left (by assumption)) | exact Nat.ne_of_gt (And.left (And.right (by assumption))) | exact Nat.ne_of_lt (And.left (And.right (by assumption))) | exact Nat.ne_of_gt (And.right (by assumption)) | exact Nat.ne_of_lt (And.right (by assumption)) | exact Nat.ne_of_gt (And.left (And.right (And.right (by assumption)))) | exact Nat.ne_of_lt (And.left (And.right (And.right (by assumption)))) | exact Nat.ne_of_gt (And.right (And.right (by assumption))) | exact Nat.ne_of_lt (And.right (And.right (by assumption)))))
  k_with "pick" => (with_reducible first | assumption | exact And.left ‹_› | exact And.left (And.right ‹_›) | exact And.left (And.right (And.right ‹_›)) | exact And.left (And.right (And.right (And.right ‹_›))) | exact And.left (And.right (And.right (And.right (And.right ‹_›)))) | exact And.left (And.right (And.right (And.right (And.right (And.right ‹_›))))) | exact And.left (And.right (And.right (And.right (And.right (And.right (And.right ‹_›)))))) | exact And.left (And.right (And.right (And.right (And.right (And.right (And.right (And.right ‹_›))))))) | exact And.left (And.right (And.right (And.right (And.right (And.right (And.right (And.right (And.right ‹_›)))))))) | exact And.left (And.right (And.right (And.right (And.right (And.right (And.right (And.right (And.right (And.right ‹_›))))))))) | exact And.left (And.right (And.right (And.right (And.right (And.right (And.right (And.right (And.right (And.right (And.right ‹_›)))))))))) | exact (And.right ‹_›) | exact (And.right (And.right ‹_›)) | exact (And.right (And.right (And.right ‹_›))) | exact (And.right (And.right (And.right (And.right ‹_›)))) | exact (And.right (And.right (And.right (And.right (And.right ‹_›))))) | exact (And.right (And.right (And.right (And.right (And.right (And.right ‹_›)))))) | exact (And.right (And.right (And.right (And.right (And.right (And.right (And.right ‹_›))))))) | exact (And.right (And.right (And.right (And.right (And.right (And.right (And.right (And.right ‹_›)))))))) | exact (And.right (And.right (And.right (And.right (And.right (And.right (And.right (And.right (And.right ‹_›))))))))) | exact (And.right (And.right (And.right (And.right (And.right (And.right (And.right (And.right (And.right (And.right ‹_›)))))))))))
  k_with "k_room" => (((simp only [depth_under_make, depth_under_kw, depth_in1, depth_deeper, depth_caller]); omega))
  k_with "k_all" => (assumption)
  k_with "eval Name" => (k_here; dsimp only)
  k_with "eval Call" => (k_here; dsimp only)
  k_with "eval Constant int" => (k_here; dsimp only)
  k_with "eval Attribute Name" => (k_here; dsimp only)
  k_with "eval BinOp" => (k_here; dsimp only)
  k_with "storeName" => (k_here; dsimp only)
  k_with "setAttr ref" => (k_here; dsimp only)
  k_with "eval Compare" => (k_here; dsimp only)
  k_with "isTrue Compare" => (k_here; dsimp only)
  k_with "eval Subscript" => (k_here; dsimp only)
  k_with "execs cons" => (k_here; first | (with_reducible rename News _ _ _ _ => nZ9; dsimp only at nZ9) | dsimp only | ((with_reducible show wpAny _ _ _ _ _ (Shared.mk _ _ _ (HAdd.hAdd _ _) _)); refine gen_toks ?_; intro _))
  k_with "eval Name" => (k_here; (fail_if_success (with_reducible show wpAny _ _ (eval _ (compEnvC _ _ _ _)) _ _ _)); (try dsimp only); k_dflt (first | (refine' nameX_L ?q9F ?q9v ?_ ?q9a ?q9b; (case q9F => k_asm); (case q9a => rfl); (case q9b => rfl); (case q9v => rfl); k_whole) | (refine' nameX_K ?q9F ?q9X ?q9T ?q9e ?_ ?q9a ?q9b; (case q9F => k_asm); (case q9X => k_asm); (case q9T => k_asm); (case q9a => rfl); (case q9b => rfl); (case q9e => k_is); k_whole) | (refine' nameX_B ?q9F ?q9X ?q9T ?q9e ?q9v ?q9n ?_ ?q9a ?q9b; (case q9F => k_asm); (case q9X => k_asm); (case q9T => k_asm); (case q9a => rfl); (case q9b => rfl); (case q9e => k_is); (case q9v => boot_fast); (case q9n => decide); k_whole)))
  k_with "execs cons" => (k_here; (try (with_reducible rename News _ _ _ _ => nZ9; dsimp only at nZ9)); (try dsimp only); (try ((with_reducible show wpAny _ _ _ _ _ (Shared.mk _ _ _ (HAdd.hAdd _ _) _)); refine gen_toks ?_; intro _)); (with_reducible refine wpAny_execs_cons ?_); (try dsimp only))
  k_with "eval Constant int" => (k_here; (try dsimp only); refine wpAny_Constant_int ?_)
  k_with "spliced" => (k_here; (fail_if_success (with_reducible show wpAny _ _ (spliced (backTo _ (starEach (PySem.Expr.Starred _ _ :: _) _))) _ _ _)); k_dflt (first | refine args_cons ?_ | (refine args_nil ?_; try simp only [List.cons_append, List.nil_append])))
  k_with "subscriptTail" => (k_here; (with_reducible show wpAny _ _ (subscriptTail _ _ (Value.ref _) (Value.int _ _)) _ _ _); k_dflt (refine' item_tupleT ?q9t ?q9a ?q9b ?q9c ?q9d ?_; (case q9t => exact News.isTup (by k_asm) (by k_mem)); (case q9a => decide); (case q9b => decide); (case q9c => rfl); (case q9d => rfl); k_whole))
  k_with "storeName" => (k_here; (fail_if_success (with_reducible show wpAny _ _ (storeName _ _ (compEnvC _ _ _ _)) _ _ _)); (try dsimp only); k_dflt (refine' storeX_L ?q9F ?q9N ?_ ?q9a ?q9b; (case q9F => k_asm); (case q9N => k_asm); (case q9a => rfl); (case q9b => rfl); k_whole; intro z9h z9F z9N; (try k_sweep)))
  k_with "callWith ref" => (k_here; k_dflt (first | (refine' callWith_K ?q9a ?q9b ?_; (case q9a => k_asm); (case q9b => k_is); k_whole) | (refine' callWith_K0 ?q9a ?q9b ?_; (case q9a => k_in); (case q9b => k_is); k_whole) | (refine' callWith_M0 ?q9a ?q9b ?_; (case q9a => k_meth); (case q9b => k_is); k_whole; try dsimp only [List.nil_append, List.cons_append]) | (refine' callWith_M ?q9a ?q9b ?q9c ?q9d ?_; (case q9a => k_asm); (case q9b => k_asm); (case q9c => k_mem); (case q9d => k_is); k_whole)))
  k_with "truthy bool" => (with_reducible refine wpAny_truthy_bool ?_)
  k_with "k_mem" => first | with_reducible assumption | assumption
  k_with "subscriptTail" => (k_here; (with_reducible show wpAny _ _ (subscriptTail _ _ (Value.ref _) (Value.int _ _)) _ _ _); (with_unfolding_all refine' item_litK ?q9k1 ?q9k2 ?q9k3 ?q9k4 ?_ ?q9k6; (case q9k1 => exact News.isList (by k_asm) (by k_mem)); (case q9k2 => decide); (case q9k3 => decide); (case q9k4 => rfl); (case q9k6 => with_unfolding_all rfl); k_whole))
  k_with "callWith" => ((with_reducible show wpAny _ _ (callWith _ (Value.builtin _) (_ :: _) (backTo _ (starEach (_ :: _) _)) []) _ _ _); k_dflt (refine callWith_method1 ?_))
  trivial
section
variable {prog : Program} {w : World} {p : Program} {loose : List Str} {mean : ExcName → Option Value} {mg mb : Str → Option Value}
 {dp un : Nat} {gd : Option (List Code)} {cn : Str} {cs : Scope} {a : Addr} {ccd : Value} {cl : List (Str × Addr)} {outer : List Env} {A₀ : Around} {base h₀ : Heap} {L : Addr} {m : Str → Option Value} {s : Shared} {Q E : Value → Shared → Prop}
noncomputable def frmS (x : Str) (v : Value) (ps : List (Str × Value)) (stored : List Str) (u m₀ : Str → Option Value) : Str → Option Value := fun y => if y = x then some v else match ps.lookup y with
  | some z => some z
  | none => if stored.contains y then u y else m₀ y
noncomputable def frmE (x : Str) (ps : List (Str × Value)) (stored : List Str) (u m₀ : Str → Option Value) : Str → Option Value := fun y => if y = x then u y else match ps.lookup y with
  | some z => some z
  | none => if stored.contains y then u y else m₀ y
theorem mem_of_lookup {ps : List (Str × Value)} {y : Str} {z : Value} (h : ps.lookup y = some z) : (y, z) ∈ ps := by
  induction ps with
  | nil => cases h
  | cons p r ih =>
    obtain ⟨a, b⟩ := p
    rw [List.lookup_cons] at h
    cases e : y == a with
    | true =>
      rw [e] at h
      have e1 : y = a := eq_of_beq e
      cases h; subst e1; exact .head _
    | false => rw [e] at h; exact .tail _ (ih h)
noncomputable def Has (m : Str → Option Value) (ps : List (Str × Value)) : Prop := ∀ p ∈ ps, m p.1 = some p.2
inductive StNext {σ : Type} (h₀ : Heap) (L : Addr) (x : Str) (LedF : σ → Led) (ps : σ → List (Str × Value)) (stored : List Str) (m₀ : Str → Option Value) (I' : σ → Prop) (own : Led) (s₁ s₂ : Shared) : Prop
  | mk (c' : σ) (h' : Heap) (tk' : Nat) (m' : Str → Option Value) (nx : Led) (p1 : s₂ = { s₁ with heap := h', toks := tk' }) (p2 : Fr h₀ L h' m') (p3 : News h₀ L h' nx) (p4 : ∀ q ∈ LedF c', q ∈ nx) (p5 : ∀ q ∈ own, q ∈ nx) (p6 : OwnOff own ((LedF c').map (·.1))) (p7 : Has m' (ps c')) (p8 : ∀ z, z ≠ x → (ps c').lookup z = none → stored.contains z = false → m' z = m₀ z) (p9 : I' c') : StNext h₀ L x LedF ps stored m₀ I' own s₁ s₂
inductive StInv {σ : Type} (x : Str) (LedF : σ → Led) (ps : σ → List (Str × Value)) (stored : List Str) (m₀ : Str → Option Value) (I : Nat → σ → Prop) (i : Nat) (m : Str → Option Value) (nx : Led) : Prop
  | mk (c : σ) (p1 : nx = LedF c) (p2 : ∀ p ∈ ps c, m p.1 = some p.2) (p3 : ∀ z, z ≠ x → (ps c).lookup z = none → stored.contains z = false → m z = m₀ z) (p4 : I i c) : StInv x LedF ps stored m₀ I i m nx
noncomputable def StPost {σ : Type} (h₀ : Heap) (L : Addr) (x : Str) (LedF : σ → Led) (ps : σ → List (Str × Value)) (stored : List Str) (m₀ : Str → Option Value) (I' : σ → Prop) (own : Led) (s₁ : Shared) (Q : Flow → Shared → Prop) (f : Flow) (s₂ : Shared) : Prop :=
  match f with
  | .ret v => Q (.ret v) s₂
  | .brk => Q .next s₂
  | _ => StNext h₀ L x LedF ps stored m₀ I' own s₁ s₂
theorem loop_st {σ : Type} {A : Around} {env : Env} {x : Str} {body : List Stmt} {Q : Flow → Shared → Prop} {l : Addr} {cvs : List Value} {nc : Nat} {m₀ : Str → Option Value} (LedF : σ → Led) (ps : σ → List (Str × Value)) (stored : List Str) (I : Nat → σ → Prop) (c₀ : σ)
    (hh : A.handled = none) (hl : ∀ c, (l, listOf cvs.toArray nc) ∈ LedF c) (F : Fr h₀ env.locals s.heap m₀) (N : News h₀ env.locals s.heap (LedF c₀)) (hps : Has m₀ (ps c₀)) (h0 : I 0 c₀)
    (turn : ∀ i v c u h tk own, cvs[i]? = some v → OwnOff own ((LedF c).map (·.1)) → I i c → Fr h₀ env.locals h (frmS x v (ps c) stored u m₀) → News h₀ env.locals h (LedF c ++ own) →
      wpAny (model prog w) A (execs body env) (StPost h₀ env.locals x LedF ps stored m₀ (I (i + 1)) own { s with heap := h, toks := tk } Q) E { s with heap := h, toks := tk })
    (done : ∀ c u h tk, I cvs.length c → Fr h₀ env.locals h (frmE x (ps c) stored u m₀) → News h₀ env.locals h (LedF c) → Q .next { s with heap := h, toks := tk }) :
    wpAny (model prog w) A (pyIter (.ref l)) (fun it s₂ => LoopAtV prog w A h₀ env x body Q E it s₂) E s := by
  refine kdl_iter (l := l) (vs := cvs) (nn := nc) (m₀ := m₀) (news := LedF c₀) (StInv x LedF ps stored m₀ I) hh (hl c₀) F N ⟨c₀, rfl, hps, fun _ _ _ _ => rfl, h0⟩ ?_ ?_
  · rintro i v m₁ nx h tk own hv hown hl₁ ⟨c, rfl, hp, hm, hI⟩ F₁ N₁
    have em : (fun y => if y = x then some v else m₁ y) = frmS x v (ps c) stored m₁ m₀ := by
      funext y
      unfold frmS
      by_cases h1 : y = x
      · rw [if_pos h1, if_pos h1]
      · rw [if_neg h1, if_neg h1]
        cases h2 : (ps c).lookup y with
        | some z => exact hp _ (mem_of_lookup h2)
        | none =>
          show m₁ y = if stored.contains y then m₁ y else m₀ y
          cases h3 : stored.contains y with
          | true => rfl
          | false => exact hm y h1 h2 h3
    rw [em] at F₁
    refine wpAny_mono (turn i v c m₁ h tk own hv hown hI F₁ N₁) (fun f s₂ p => ?_) fun _ _ q => q
    have up : StNext h₀ env.locals x LedF ps stored m₀ (I (i + 1)) own { s with heap := h, toks := tk } s₂ → InvEndG h₀ env.locals (fun m' nx => (l, listOf cvs.toArray nc) ∈ nx ∧ StInv x LedF ps stored m₀ I (i + 1) m' nx) own { s with heap := h, toks := tk } s₂ := by
      rintro ⟨c', h', tk', m', nx, rfl, F', N', hn, ho, ha, hp', hm', hI'⟩
      exact ⟨h', tk', m', nx, LedF c', rfl, F', N', hn, ho, ha, hl c', c', rfl, hp', hm', hI'⟩
    cases f with
    | ret v => exact p
    | brk => exact p
    | next => exact up p
    | cont => exact up p
  · rintro m₁ nx h tk ⟨c, rfl, hp, hm, hI⟩ F₁ N₁
    have em : m₁ = frmE x (ps c) stored m₁ m₀ := by
      funext y
      unfold frmE
      by_cases h1 : y = x
      · rw [if_pos h1]
      · rw [if_neg h1]
        cases h2 : (ps c).lookup y with
        | some z => exact hp _ (mem_of_lookup h2)
        | none =>
          show m₁ y = if stored.contains y then m₁ y else m₀ y
          cases h3 : stored.contains y with
          | true => rfl
          | false => exact hm y h1 h2 h3
    rw [em] at F₁
    exact done c m₁ h tk hI F₁ N₁
theorem ps1 {m : Str → Option Value} {y : Str} {v : Value} (h : m y = some v) : Has m [(y, v)] := by
  intro p hp
  rcases List.mem_cons.mp hp with rfl | hp
  · exact h
  · cases hp
theorem psc {m : Str → Option Value} {y : Str} {v : Value} {r : List (Str × Value)} (h : m y = some v) (hr : Has m r) : Has m ((y, v) :: r) := by
  intro p hp
  rcases List.mem_cons.mp hp with rfl | hp
  · exact h
  · exact hr p hp
theorem lookup_none {z : Str} : ∀ {ps : List (Str × Value)}, ps.lookup z = none ↔ z ∉ ps.map (·.1)
  | [] => by simp
  | (a, b) :: r => by
    rw [List.lookup_cons]
    cases e : z == a with
    | true => simp [eq_of_beq e]
    | false =>
      have e1 : z ≠ a := fun h => by rw [h, beq_self_eq_true] at e; cases e
      simp only [List.map_cons, List.mem_cons, e1, false_or]
      exact lookup_none
theorem lookup_ne {z y : Str} {ps : List (Str × Value)} (h : ps.lookup z = none) (hm : y ∈ ps.map (·.1)) : z ≠ y := fun e => lookup_none.mp h (e ▸ hm)
theorem frmS_out {x z : Str} {it : Value} {ps : List (Str × Value)} {stored : List Str} {u m₀ : Str → Option Value} (q1 : z ≠ x) (q2 : z ∉ ps.map (·.1)) (q3 : stored.contains z = false) : frmS x it ps stored u m₀ z = m₀ z := by
  unfold frmS
  rw [if_neg q1, lookup_none.mpr q2]
  show (if stored.contains z then u z else m₀ z) = m₀ z
  rw [q3]; rfl

end
end
section
theorem rg12 : True := by
  k_with_none
  k_with "omega" => (first | decide | (with_reducible first | exact Int.natCast_nonneg _ | exact rm1 ‹_› (by decide) | exact rm2 ‹_› (by decide) | exact rm3 ‹_› (by decide) | exact om_le ‹_› (by decide) | exact om_63 ‹_› (by decide) | exact om_eqle ‹_› ‹_› (by decide) | exact om_eq63 ‹_› ‹_› (by decide) | exact om_add ‹_› (by decide) | exact om_ne ‹_› (by decide) | exact om_le2 ‹_› ‹_› (by decide) | exact om_le2s ‹_› ‹_› (by decide) | exact om_le2_63 ‹_› ‹_› (by decide) | exact om_le2s_63 ‹_› ‹_› (by decide) | exact om_z62 ‹_› (by decide) | exact om_zn62 | exact om_kle ‹_› (by decide) | exact om_neg1 | exact om_pos | exact om_at ‹_› (by decide) | exact om_at0 ‹_› | exact om_add63 ‹_› (by decide) | exact Nat.ne_of_gt (by k_extra "pick") | exact Nat.ne_of_lt (by k_extra "pick")) | lia)
  k_with "ktr_room" => (first | exact rm0 (by assumption) | exact rm1 (by assumption) (Nat.le_of_ble_eq_true rfl))
  k_with "k_ne" => ((refine neN ?_; (try dsimp only); first | exact Nat.ne_of_gt (by assumption) | exact Nat.ne_of_lt (by assumption) | exact Nat.ne_of_gt (And.left (by assumption)) | exact Nat.ne_of_lt (And.left (by assumption)) | exact Nat.ne_of_gt (And.left (And.right (by assumption))) | exact Nat.ne_of_lt (And.left (And.right (by assumption))) | exact Nat.ne_of_gt (And.right (by assumption)) | exact Nat.ne_of_lt (And.right (by assumption)) | exact Nat.ne_of_gt (And.left (And.right (And.right (by assumption)))) | exact Nat.ne_of_lt (And.left (And.right (And.right (by assumption)))) | exact Nat.ne_of_gt (And.right (And.right (by assumption))) | exact Nat.ne_of_lt (And.right (And.right (by assumption)))))
  k_with "pick" => (with_reducible first | assumption | exact And.left ‹_› | exact And.left (And.right ‹_›) | exact And.left (And.right (And.right ‹_›)) | exact And.left (And.right (And.right (And.right ‹_›))) | exact And.left (And.right (And.right (And.right (And.right ‹_›)))) | exact And.left (And.right (And.right (And.right (And.right (And.right ‹_›))))) | exact And.left (And.right (And.right (And.right (And.right (And.right (And.right ‹_›)))))) | exact And.left (And.right (And.right (And.right (And.right (And.right (And.right (And.right ‹_›))))))) | exact And.left (And.right (And.right (And.right (And.right (And.right (And.right (And.right (And.right ‹_›)))))))) | exact And.left (And.right (And.right (And.right (And.right (And.right (And.right (And.right (And.right (And.right ‹_›))))))))) | exact And.left (And.right (And.right (And.right (And.right (And.right (And.right (And.right (And.right (And.right (And.right ‹_›)))))))))) | exact (And.right ‹_›) | exact (And.right (And.right ‹_›)) | exact (And.right (And.right (And.right ‹_›))) | exact (And.right (And.right (And.right (And.right ‹_›)))) | exact (And.right (And.right (And.right (And.right (And.right ‹_›))))) | exact (And.right (And.right (And.right (And.right (And.right (And.right ‹_›)))))) | exact (And.right (And.right (And.right (And.right (And.right (And.right (And.right ‹_›))))))) | exact (And.right (And.right (And.right (And.right (And.right (And.right (And.right (And.right ‹_›)))))))) | exact (And.right (And.right (And.right (And.right (And.right (And.right (And.right (And.right (And.right ‹_›))))))))) | exact (And.right (And.right (And.right (And.right (And.right (And.right (And.right (And.right (And.right (And.right ‹_›)))))))))))
  k_with "k_room" => (((simp only [depth_under_make, depth_under_kw, depth_in1, depth_deeper, depth_caller]); omega))
  k_with "k_all" => (assumption)
  k_with "eval Name" => (k_here; dsimp only)
  k_with "eval Call" => (k_here; dsimp only)
  k_with "eval Constant int" => (k_here; dsimp only)
  k_with "eval Attribute Name" => (k_here; dsimp only)
  k_with "eval BinOp" => (k_here; dsimp only)
  k_with "storeName" => (k_here; dsimp only)
  k_with "setAttr ref" => (k_here; dsimp only)
  k_with "eval Compare" => (k_here; dsimp only)
  k_with "isTrue Compare" => (k_here; dsimp only)
  k_with "eval Subscript" => (k_here; dsimp only)
  k_with "execs cons" => (k_here; first | (with_reducible rename News _ _ _ _ => nZ9; dsimp only at nZ9) | dsimp only | ((with_reducible show wpAny _ _ _ _ _ (Shared.mk _ _ _ (HAdd.hAdd _ _) _)); refine gen_toks ?_; intro _))
  k_with "eval Name" => (k_here; (fail_if_success (with_reducible show wpAny _ _ (eval _ (compEnvC _ _ _ _)) _ _ _)); (try dsimp only); k_dflt (first | (refine' nameX_L ?q9F ?q9v ?_ ?q9a ?q9b; (case q9F => k_asm); (case q9a => rfl); (case q9b => rfl); (case q9v => rfl); k_whole) | (refine' nameX_K ?q9F ?q9X ?q9T ?q9e ?_ ?q9a ?q9b; (case q9F => k_asm); (case q9X => k_asm); (case q9T => k_asm); (case q9a => rfl); (case q9b => rfl); (case q9e => k_is); k_whole) | (refine' nameX_B ?q9F ?q9X ?q9T ?q9e ?q9v ?q9n ?_ ?q9a ?q9b; (case q9F => k_asm); (case q9X => k_asm); (case q9T => k_asm); (case q9a => rfl); (case q9b => rfl); (case q9e => k_is); (case q9v => boot_fast); (case q9n => decide); k_whole)))
  k_with "execs cons" => (k_here; (try (with_reducible rename News _ _ _ _ => nZ9; dsimp only at nZ9)); (try dsimp only); (try ((with_reducible show wpAny _ _ _ _ _ (Shared.mk _ _ _ (HAdd.hAdd _ _) _)); refine gen_toks ?_; intro _)); (with_reducible refine wpAny_execs_cons ?_); (try dsimp only))
  k_with "eval Constant int" => (k_here; (try dsimp only); refine wpAny_Constant_int ?_)
  k_with "spliced" => (k_here; (fail_if_success (with_reducible show wpAny _ _ (spliced (backTo _ (starEach (PySem.Expr.Starred _ _ :: _) _))) _ _ _)); k_dflt (first | refine args_cons ?_ | (refine args_nil ?_; try simp only [List.cons_append, List.nil_append])))
  k_with "subscriptTail" => (k_here; (with_reducible show wpAny _ _ (subscriptTail _ _ (Value.ref _) (Value.int _ _)) _ _ _); k_dflt (refine' item_tupleT ?q9t ?q9a ?q9b ?q9c ?q9d ?_; (case q9t => exact News.isTup (by k_asm) (by k_mem)); (case q9a => decide); (case q9b => decide); (case q9c => rfl); (case q9d => rfl); k_whole))
  k_with "storeName" => (k_here; (fail_if_success (with_reducible show wpAny _ _ (storeName _ _ (compEnvC _ _ _ _)) _ _ _)); (try dsimp only); k_dflt (refine' storeX_L ?q9F ?q9N ?_ ?q9a ?q9b; (case q9F => k_asm); (case q9N => k_asm); (case q9a => rfl); (case q9b => rfl); k_whole; intro z9h z9F z9N; (try k_sweep)))
  k_with "callWith ref" => (k_here; k_dflt (first | (refine' callWith_K ?q9a ?q9b ?_; (case q9a => k_asm); (case q9b => k_is); k_whole) | (refine' callWith_K0 ?q9a ?q9b ?_; (case q9a => k_in); (case q9b => k_is); k_whole) | (refine' callWith_M0 ?q9a ?q9b ?_; (case q9a => k_meth); (case q9b => k_is); k_whole; try dsimp only [List.nil_append, List.cons_append]) | (refine' callWith_M ?q9a ?q9b ?q9c ?q9d ?_; (case q9a => k_asm); (case q9b => k_asm); (case q9c => k_mem); (case q9d => k_is); k_whole)))
  k_with "truthy bool" => (with_reducible refine wpAny_truthy_bool ?_)
  k_with "k_mem" => first | with_reducible assumption | assumption
  k_with "subscriptTail" => (k_here; (with_reducible show wpAny _ _ (subscriptTail _ _ (Value.ref _) (Value.int _ _)) _ _ _); (with_unfolding_all refine' item_litK ?q9k1 ?q9k2 ?q9k3 ?q9k4 ?_ ?q9k6; (case q9k1 => exact News.isList (by k_asm) (by k_mem)); (case q9k2 => decide); (case q9k3 => decide); (case q9k4 => rfl); (case q9k6 => with_unfolding_all rfl); k_whole))
  k_with "callWith" => ((with_reducible show wpAny _ _ (callWith _ (Value.builtin _) (_ :: _) (backTo _ (starEach (_ :: _) _)) []) _ _ _); k_dflt (refine callWith_method1 ?_))
  trivial
section
variable {prog : Program} {w : World} {p : Program} {loose : List Str} {mean : ExcName → Option Value} {mg mb : Str → Option Value}
 {dp un : Nat} {gd : Option (List Code)} {cn : Str} {cs : Scope} {a : Addr} {ccd : Value} {cl : List (Str × Addr)} {outer : List Env} {A₀ : Around} {base h₀ : Heap} {L : Addr} {m : Str → Option Value} {s : Shared} {Q E : Value → Shared → Prop}
noncomputable def blankC : Cell := ⟨[], 1⟩
theorem pick_ll {vs : List Value} {x y : Int} {lo hi : Nat} (hx : x = lo) (hy : y = hi) : kms_pick vs.toArray.toList (some (if x > 0 then x else 0)) (some (if y > 0 then y else 0)) = (vs.take hi).drop lo := by
  have ex : (if x > 0 then x else 0) = (lo : Int) := by split <;> (first | lia | omega)
  have ey : (if y > 0 then y else 0) = (hi : Int) := by split <;> (first | lia | omega)
  rw [ex, ey]
  unfold kms_pick
  have e1 : kms_lo (some (lo : Int)) vs.toArray.toList.length = min lo vs.length := by simp [kms_lo]; (first | lia | omega)
  have e2 : kms_hi (some (hi : Int)) vs.toArray.toList.length = min hi vs.length := by simp [kms_hi]; (first | lia | omega)
  rw [e1, e2, List.toList_toArray]
  apply List.ext_getElem?
  intro i
  simp only [List.getElem?_take, List.getElem?_drop]
  by_cases h : lo ≤ vs.length
  · rw [Nat.min_eq_left h]
    by_cases h2 : lo + i < vs.length
    · by_cases h3 : lo + i < hi
      · rw [if_pos (by (first | lia | omega)), if_pos h3]
      · rw [if_neg (by (first | lia | omega)), if_neg h3]
    · rw [List.getElem?_eq_none (by (first | lia | omega))]; split <;> split <;> rfl
  · rw [List.getElem?_eq_none (by (first | lia | omega)), List.getElem?_eq_none (l := vs) (i := lo + i) (by (first | lia | omega))]; split <;> split <;> rfl
theorem item_negK {A : Around} {value slice : PySem.Expr} {l : Addr} {vs : List Value} {u : Tok} {v : Value} {Q : Value → Shared → Prop} (hl : s.heap.IsList l vs.toArray) (hx : vs[((-1 : Int) + vs.length).toNat]? = some v) (h : Q v s)
    (hs : subscripted slice false (.ref l) (.int (-1) u) = operate [.ref l, .int (-1) u] (getItem (.ref l) (.int (-1) u))) :
    wpAny (model prog w) A (subscriptTail value slice (.ref l) (.int (-1) u)) Q E s := by
  have h1 : vs.length ≠ 0 := by
    intro e
    rw [List.eq_nil_of_length_eq_zero e] at hx
    cases hx
  exact tail_any hl.typeIs slot_list_getitem.lookup (wpAny_getItem_list_neg hl (by decide) (by simp only [List.size_toArray]; (first | lia | omega)) (by decide) (by simpa using hx) h) hs
theorem idx_m1 {r : List Value} {v : Value} : (r ++ [v])[((-1 : Int) + (r ++ [v]).length).toNat]? = some v := by
  have e : ((-1 : Int) + (r ++ [v]).length).toNat = r.length := by simp only [List.length_append, List.length_cons, List.length_nil]; (first | lia | omega)
  rw [e, List.getElem?_append_right (by (first | lia | omega))]; simp
theorem idx_m1c {u : Value} {r : List Value} {v : Value} : (u :: (r ++ [v]))[((-1 : Int) + (u :: (r ++ [v])).length).toNat]? = some v := idx_m1 (r := u :: r)
theorem set_m1 {r : List Value} {v x : Value} : (r ++ [v]).set ((-1 : Int) + (r ++ [v]).length).toNat x = r ++ [x] := by
  have e : ((-1 : Int) + (r ++ [v]).length).toNat = r.length := by simp only [List.length_append, List.length_cons, List.length_nil]; (first | lia | omega)
  rw [e, List.set_append_right _ _ (by (first | lia | omega))]; simp
theorem set_m1c {u : Value} {r : List Value} {v x : Value} : (u :: (r ++ [v])).set ((-1 : Int) + (u :: (r ++ [v])).length).toNat x = u :: (r ++ [x]) := set_m1 (r := u :: r)
theorem set_head {u x : Value} {r : List Value} : (u :: r).set (0 : Int).toNat x = x :: r := rfl
theorem upd_abv {d : Addr} {o o' o0 : Obj} {tl r r' r0 : Led} (h : Above tl r0) (hm : (d, o0) ∈ r0) (u : Upd d o o' r r') : Upd d o o' (tl ++ r) (tl ++ r') := upd_app (above_ne h hm) u
theorem upd_new {d x : Addr} {o o' o0 ox : Obj} {r r' r0 : Led} (h : ∀ p ∈ r0, p.1 < x) (hm : (d, o0) ∈ r0) (u : Upd d o o' r r') : Upd d o o' ((x, ox) :: r) ((x, ox) :: r') := .tail (Nat.ne_of_gt (h _ hm)) u
theorem rg13 : True := by
  k_with "k_mem" => first | with_reducible assumption | ((repeat (first | exact List.Mem.head _ | with_reducible assumption | exact List.mem_append_left _ (by assumption) | refine List.Mem.tail _ ?_ | refine List.mem_append_right _ ?_ | assumption | exact m_tr (by assumption) (by assumption) | exact m_tr (by assumption) (m_tr (by assumption) (by assumption)))); done)
  k_with "subscriptTail Name Slice ref ref" => (k_here; (with_reducible show wpAny _ _ (subscriptTail _ (PySem.Expr.Slice _ _ none _) (Value.ref _) (Value.ref _)) _ _ _); k_dflt (refine' kms_slice_lit ?q9zF ?q9zN ?q9zl ?q9zp ?q9zq ?q9ze ?_ ?q9zs ?q9zt ?q9zz; (case q9zF => k_asm); (case q9zN => k_asm); (case q9zl => kmk_list); (case q9zp => kmk_part); (case q9zq => kmk_part); (case q9ze => exact (pick_ll (by assumption) (by assumption)).trans (by assumption)); (case q9zs => with_unfolding_all rfl); (case q9zt => kmk_pure); (case q9zz => ((simp only [List.size_toArray, sizeLine_eq]); omega))); intro _ _ _ _ z9l1; (try k_lt z9l1); (try k_sweep))
  k_with "call type:list" => (k_here; (with_reducible show wpAny _ _ (call (Value.type "list") [Value.ref _]) _ _ _); k_dflt (refine' list_copyK ?q9zF ?q9zN ?q9zl ?_ ?q9zz; (case q9zF => k_asm); (case q9zN => k_asm); (case q9zl => exact News.isList (by k_asm) (by k_mem)); (case q9zz => ((simp only [List.size_toArray, List.length_append, List.length_cons, List.length_nil, sizeLine_eq]); omega))); intro _ _ _ _ _ z9l1; (try k_lt z9l1); (try k_sweep))
  k_with "compareOp NotEq ref ref" => (k_here; (with_reducible show wpAny _ _ (compareOp CmpOp.NotEq (Value.ref _) (Value.ref _)) _ _ _); k_dflt (refine' cells_ne_nil (P := w.params) ?q9zK ?q9zN ?q9zC ?q9zs ?q9za ?q9zb ?q9zu ?q9zr ?_; (case q9zK => exact Frag.In.keeps (by k_asm) (Fr.keep (by k_asm))); (case q9zN => k_asm); (case q9za => k_mem); (case q9zb => k_mem); (case q9zs => exact fun _ hz => hz); (case q9zC => first | exact CellsV.mono (by assumption) (by (intro z9qq z9hqq; first | exact z9hqq | simp only [List.mem_cons, List.mem_append, z9hqq, or_true, true_or])) | exact CellsV.cons (CellV.mono (by assumption) (by (intro z9qq z9hqq; first | exact z9hqq | simp only [List.mem_cons, List.mem_append, z9hqq, or_true, true_or]))) .nil | exact CellsV.cons (CellV.mono (by assumption) (by (intro z9qq z9hqq; first | exact z9hqq | simp only [List.mem_cons, List.mem_append, z9hqq, or_true, true_or]))) (CellsV.mono (CellsV.append (by assumption) (CellsV.cons (by assumption) .nil)) (by (intro z9qq z9hqq; first | exact z9hqq | simp only [List.mem_cons, List.mem_append, z9hqq, or_true, true_or])))); (case q9zr => first | exact (rfl : _ = true) | exact (rfl : _ = false));  (case q9zu => (simp only [units_deeper]; (show _ + _ + _ < _); omega)); k_whole))
  k_with "subscriptTail" => (k_here; (with_reducible show wpAny _ _ (subscriptTail _ _ (Value.ref _) (Value.int (-1) _)) _ _ _); (with_unfolding_all refine' item_negK ?q9zl ?q9zx ?_ ?q9zs; (case q9zl => exact News.isList (by k_asm) (by k_mem)); (case q9zx => first | exact idx_m1 | exact idx_m1c | exact rfl); (case q9zs => with_unfolding_all rfl); k_whole))
  k_with "setItem ref int" => (k_here; (with_reducible show wpAny _ _ (setItem (Value.ref _) (Value.int (-1) _) _) _ _ _); k_dflt (refine' led_setNeg ?q9zF ?q9zN ?q9za ?q9zb ?q9zc ?q9ze ?q9zU ?_; (case q9zF => k_asm); (case q9zN => k_asm); (case q9zU => k_upd); (case q9ze => first | exact set_m1 | exact set_m1c); (case q9za => decide); (case q9zb => decide); (case q9zc => ((try simp only [List.length_append, List.length_cons, List.length_nil]); omega))); intro _ _ _)
  k_with "setItem ref int" => (k_here; (with_reducible show wpAny _ _ (setItem (Value.ref _) (Value.int 0 _) _) _ _ _); k_dflt (refine' led_set ?q9zF ?q9zN ?q9za ?q9zb ?q9zc ?q9ze ?q9zU ?_; (case q9zF => k_asm); (case q9zN => k_asm); (case q9zU => k_upd); (case q9ze => exact set_head); (case q9za => decide); (case q9zb => decide); (case q9zc => ((try simp only [List.length_append, List.length_cons, List.length_nil]); omega))); intro _ _ _)
  k_with "call ref" => ((with_reducible show wpAny _ _ (call (Value.ref 116) _) _ _ _); k_dflt (refine' blank_cell_ok ?q9zB ?q9zF ?q9zX ?q9zN ?q9zT ?q9zk ?q9zd ?q9zu ?q9zp ?_); ((case q9zB => k_asm); (case q9zF => k_asm); (case q9zX => k_asm); (case q9zN => k_asm); (case q9zT => k_asm); (case q9zk => exact rfl); (case q9zp => exact PenV.mono (by assumption) (by (intro _ z9hqq; first | exact z9hqq | simp only [List.mem_cons, List.mem_append, z9hqq, or_true, true_or]))); (case q9zd => (first | exact rm2 (by assumption) (Nat.le_of_ble_eq_true rfl) | exact rm1 (by assumption) (Nat.le_of_ble_eq_true rfl) | (first | exact rm2 (by assumption) (Nat.le_of_ble_eq_true rfl) | exact rm1 (by assumption) (Nat.le_of_ble_eq_true rfl) | (show _ + _ < _; simp only [depth_deeper]; omega)))); (case q9zu => (first | exact rm2 (by assumption) (Nat.le_of_ble_eq_true rfl) | exact rm1 (by assumption) (Nat.le_of_ble_eq_true rfl) | (first | exact rm2 (by assumption) (Nat.le_of_ble_eq_true rfl) | exact rm1 (by assumption) (Nat.le_of_ble_eq_true rfl) | (show _ + _ < _; simp only [units_deeper]; omega))))); intro _ _ _ _ _ _ _ z9hce'; obtain ⟨z9xb', z9cxb', z9vsb', z9pvb', z9tb', z9nb', z9nb2', z9eb', z9hxb', z9hcxb', z9hib', z9hpb'⟩ := CellV.out z9hce'; subst z9eb')
  k_with "k_upd" => ((with_reducible refine' upd_abv ?q9q1 ?q9q2 ?q9q3); (case q9q1 => assumption); (case q9q2 => k_mem); (case q9q3 => k_upd))
  k_with "k_upd" => ((with_reducible refine' upd_new ?q9q1 ?q9q2 ?q9q3); (case q9q1 => with_reducible assumption); (case q9q2 => k_mem); (case q9q3 => k_upd))
  k_with "ite" => first | (refine ite_pos (by first | omega | (simp only [beq_iff_eq, decide_eq_true_eq]; omega)) ?_; walk_say "BY OMEGA") | (refine ite_neg (by first | omega | (simp only [beq_iff_eq, decide_eq_true_eq]; omega)) ?_; walk_say "BY OMEGA")
  trivial
theorem line_slice_nil {news : Led} {lc : Addr} {cvs : List Value} {nc lo hi t0 t1 : Nat} {left right bg : Int} (B : Below A₀ base outer h₀) (F : Fr h₀ L s.heap m) (X : (Mine.frag.heap_1 w.params).In h₀) (N : News h₀ L s.heap news) (T : Top p loose mean mg mb h₀) (hk : cs.kind = .function)
   (hd : dp + 3 < recursionLimit) (hu : un + 100 < cLine)
   (hlc : (lc, listOf cvs.toArray nc) ∈ news) (hl8 : cvs.length ≤ 200) (hle : left = lo) (hri : right + 1 = hi) (hlo : lo ≤ 1000) (hhi : hi ≤ 1000)
   (hv : (cvs.take hi).drop lo = []) (hC : CellsV news bg [] [])
   (hret : ∀ l vs n news' h' tk', Fr h₀ L h' m → News h₀ L h' news' → (∀ q ∈ news, q ∈ news') → (l, listOf vs.toArray n) ∈ news' → CellsV news' bg vs ([]) → Q (.ref l) { s with heap := h', toks := tk' }) :
   wpAny (model prog w) (ktrTop dp un gd cn cs L a ccd cl outer) (call (.ref 123) [.ref lc, .int left t0, .int right t1]) Q E s := by
  refine wpAny_call ?_
  k_dflt ktr_enter
  k_steps
  rename News _ _ _ _ => kN
  exact hret _ _ _ _ _ _ (by assumption) kN (by (intro qq hqq; first | exact hqq | simp only [List.mem_cons, List.mem_append, hqq, or_true, true_or])) (by k_mem) .nil
noncomputable def fixW (c : Cell) (z : Int) : Cell := if c.w = z then blankC else c
theorem fixW_y {c : Cell} {z : Int} (h : c.w = z) : fixW c z = blankC := if_pos h
theorem fixW_n {c : Cell} {z : Int} (h : ¬ c.w = z) : fixW c z = c := if_neg h
theorem fix1_a {c : Cell} (h : c.w = 0) : fixW (fixW c 0) 2 = blankC := by unfold fixW; rw [if_pos h]; exact if_neg (by decide)
theorem fix1_b {c : Cell} (h0 : ¬ c.w = 0) (h : c.w = 2) : fixW (fixW c 0) 2 = blankC := by unfold fixW; rw [if_neg h0, if_pos h]
theorem fix1_c {c : Cell} (h0 : ¬ c.w = 0) (h : ¬ c.w = 2) : fixW (fixW c 0) 2 = c := by unfold fixW; rw [if_neg h0, if_neg h]
theorem line_slice_one {news : Led} {lc : Addr} {cvs : List Value} {nc lo hi t0 t1 : Nat} {left right bg : Int} {u : Value} {c : Cell} (B : Below A₀ base outer h₀) (F : Fr h₀ L s.heap m) (X : (Mine.frag.heap_1 w.params).In h₀) (N : News h₀ L s.heap news) (T : Top p loose mean mg mb h₀) (hk : cs.kind = .function)
   (hd : dp + 3 < recursionLimit) (hu : un + 100 < cLine)
   (hlc : (lc, listOf cvs.toArray nc) ∈ news) (hl8 : cvs.length ≤ 200) (hle : left = lo) (hri : right + 1 = hi) (hlo : lo ≤ 1000) (hhi : hi ≤ 1000)
   (hv : (cvs.take hi).drop lo = [u]) (hc : CellV news bg u c)
   (hret : ∀ l vs n news' h' tk', Fr h₀ L h' m → News h₀ L h' news' → (∀ q ∈ news, q ∈ news') → (l, listOf vs.toArray n) ∈ news' → CellsV news' bg vs ([fixW (fixW c 0) 2]) → Q (.ref l) { s with heap := h', toks := tk' }) :
   wpAny (model prog w) (ktrTop dp un gd cn cs L a ccd cl outer) (call (.ref 123) [.ref lc, .int left t0, .int right t1]) Q E s := by
  have hC : CellsV news bg [u] [c] := .cons hc .nil
  obtain ⟨x0, y0, vs0, pv0, ti0, n0, n0', rfl, hx0, hy0, hi0, hp0⟩ := id hc
  refine wpAny_call ?_
  k_dflt ktr_enter
  k_steps
  all_goals (rename News _ _ _ _ => kN)
  all_goals (refine hret _ _ _ _ _ _ (by assumption) kN (by (intro qq hqq; first | exact hqq | simp only [List.mem_cons, List.mem_append, hqq, or_true, true_or])) (by k_mem) ?_)
  all_goals (refine CellsV.cons ?_ .nil)
  · rw [fix1_a (by first | assumption | omega | simp_all)]; exact CellV.mono (by assumption) (by (intro qq hqq; first | exact hqq | simp only [List.mem_cons, List.mem_append, hqq, or_true, true_or]))
  · rw [fix1_b (by first | assumption | omega | simp_all) (by first | assumption | omega | simp_all)]; exact CellV.mono (by assumption) (by (intro qq hqq; first | exact hqq | simp only [List.mem_cons, List.mem_append, hqq, or_true, true_or]))
  · rw [fix1_c (by first | assumption | omega | simp_all) (by first | assumption | omega | simp_all)]; exact CellV.mono (by assumption) (by (intro qq hqq; first | exact hqq | simp only [List.mem_cons, List.mem_append, hqq, or_true, true_or]))
theorem line_slice_two {news : Led} {lc : Addr} {cvs r : List Value} {nc lo hi t0 t1 : Nat} {left right bg : Int} {u v : Value} {c d : Cell} {rc : List Cell} (B : Below A₀ base outer h₀) (F : Fr h₀ L s.heap m) (X : (Mine.frag.heap_1 w.params).In h₀) (N : News h₀ L s.heap news) (T : Top p loose mean mg mb h₀) (hk : cs.kind = .function)
   (hd : dp + 3 < recursionLimit) (hu : un + 100 < cLine)
   (hlc : (lc, listOf cvs.toArray nc) ∈ news) (hl8 : cvs.length ≤ 200) (hle : left = lo) (hri : right + 1 = hi) (hlo : lo ≤ 1000) (hhi : hi ≤ 1000)
   (hv : (cvs.take hi).drop lo = u :: (r ++ [v])) (hc : CellV news bg u c) (hr : CellsV news bg r rc) (hcd : CellV news bg v d)
   (hret : ∀ l vs n news' h' tk', Fr h₀ L h' m → News h₀ L h' news' → (∀ q ∈ news, q ∈ news') → (l, listOf vs.toArray n) ∈ news' → CellsV news' bg vs (fixW c 0 :: (rc ++ [fixW d 2])) → Q (.ref l) { s with heap := h', toks := tk' }) :
   wpAny (model prog w) (ktrTop dp un gd cn cs L a ccd cl outer) (call (.ref 123) [.ref lc, .int left t0, .int right t1]) Q E s := by
  have hC : CellsV news bg (u :: (r ++ [v])) (c :: (rc ++ [d])) := .cons hc (hr.append (.cons hcd .nil))
  obtain ⟨x0, y0, vs0, pv0, ti0, n0, n0', rfl, hx0, hy0, hi0, hp0⟩ := id hc
  have hrl : r.length ≤ 200 := by
    have e := congrArg List.length hv
    simp only [List.length_drop, List.length_take, List.length_cons, List.length_append] at e
    omega
  obtain ⟨x1, y1, vs1, pv1, ti1, n1, n1', rfl, hx1, hy1, hi1, hp1⟩ := id hcd
  refine wpAny_call ?_
  k_dflt ktr_enter
  k_steps
  all_goals (rename News _ _ _ _ => kN)
  all_goals (refine hret _ _ _ _ _ _ (by assumption) kN (by (intro qq hqq; first | exact hqq | simp only [List.mem_cons, List.mem_append, hqq, or_true, true_or])) (by k_mem) ?_)
  all_goals first
    | (rw [fixW_y (c := c) (z := 0) (by first | assumption | omega), fixW_y (c := d) (z := 2) (by first | assumption | omega)]; exact .cons (CellV.mono (by assumption) (by (intro qq hqq; first | exact hqq | simp only [List.mem_cons, List.mem_append, hqq, or_true, true_or]))) (CellsV.append (hr.mono (by (intro qq hqq; first | exact hqq | simp only [List.mem_cons, List.mem_append, hqq, or_true, true_or]))) (.cons (CellV.mono (by assumption) (by (intro qq hqq; first | exact hqq | simp only [List.mem_cons, List.mem_append, hqq, or_true, true_or]))) .nil)))
    | (rw [fixW_y (c := c) (z := 0) (by first | assumption | omega), fixW_n (c := d) (z := 2) (by first | assumption | omega)]; exact .cons (CellV.mono (by assumption) (by (intro qq hqq; first | exact hqq | simp only [List.mem_cons, List.mem_append, hqq, or_true, true_or]))) (CellsV.append (hr.mono (by (intro qq hqq; first | exact hqq | simp only [List.mem_cons, List.mem_append, hqq, or_true, true_or]))) (.cons (CellV.mono (by assumption) (by (intro qq hqq; first | exact hqq | simp only [List.mem_cons, List.mem_append, hqq, or_true, true_or]))) .nil)))
    | (rw [fixW_n (c := c) (z := 0) (by first | assumption | omega), fixW_y (c := d) (z := 2) (by first | assumption | omega)]; exact .cons (CellV.mono (by assumption) (by (intro qq hqq; first | exact hqq | simp only [List.mem_cons, List.mem_append, hqq, or_true, true_or]))) (CellsV.append (hr.mono (by (intro qq hqq; first | exact hqq | simp only [List.mem_cons, List.mem_append, hqq, or_true, true_or]))) (.cons (CellV.mono (by assumption) (by (intro qq hqq; first | exact hqq | simp only [List.mem_cons, List.mem_append, hqq, or_true, true_or]))) .nil)))
    | (rw [fixW_n (c := c) (z := 0) (by first | assumption | omega), fixW_n (c := d) (z := 2) (by first | assumption | omega)]; exact .cons (CellV.mono (by assumption) (by (intro qq hqq; first | exact hqq | simp only [List.mem_cons, List.mem_append, hqq, or_true, true_or]))) (CellsV.append (hr.mono (by (intro qq hqq; first | exact hqq | simp only [List.mem_cons, List.mem_append, hqq, or_true, true_or]))) (.cons (CellV.mono (by assumption) (by (intro qq hqq; first | exact hqq | simp only [List.mem_cons, List.mem_append, hqq, or_true, true_or]))) .nil)))
noncomputable def fixFirst : List Cell → List Cell
  | [] => []
  | c :: r => fixW c 0 :: r
noncomputable def fixLast : List Cell → List Cell
  | [] => []
  | [c] => [fixW c 2]
  | c :: d :: r => c :: fixLast (d :: r)
theorem fixLast_snoc (d : Cell) : ∀ rc : List Cell, fixLast (rc ++ [d]) = rc ++ [fixW d 2]
  | [] => rfl
  | [e] => rfl
  | e :: f :: rc => congrArg (e :: ·) (fixLast_snoc d (f :: rc))
noncomputable def sliceC (cs : List Cell) (lo hi : Nat) : List Cell := fixLast (fixFirst ((cs.take hi).drop lo))
theorem fixFL_two (c d : Cell) (rc : List Cell) : fixLast (fixFirst (c :: (rc ++ [d]))) = fixW c 0 :: (rc ++ [fixW d 2]) := fixLast_snoc d (fixW c 0 :: rc)
theorem line_slice_ok {news : Led} {lc : Addr} {cvs : List Value} {cc : List Cell} {nc lo hi t0 t1 : Nat} {left right bg : Int} (B : Below A₀ base outer h₀) (F : Fr h₀ L s.heap m) (X : (Mine.frag.heap_1 w.params).In h₀) (N : News h₀ L s.heap news) (T : Top p loose mean mg mb h₀) (hk : cs.kind = .function)
   (hd : dp + 3 < recursionLimit) (hu : un + 100 < cLine)
   (hlc : (lc, listOf cvs.toArray nc) ∈ news) (hC : CellsV news bg cvs cc) (hl8 : cvs.length ≤ 200) (hle : left = lo) (hri : right + 1 = hi) (hlo : lo ≤ 1000) (hhi : hi ≤ 1000)
   (hret : ∀ l vs n news' h' tk', Fr h₀ L h' m → News h₀ L h' news' → (∀ q ∈ news, q ∈ news') → (l, listOf vs.toArray n) ∈ news' → CellsV news' bg vs (sliceC cc lo hi) → Q (.ref l) { s with heap := h', toks := tk' }) :
   wpAny (model prog w) (ktrTop dp un gd cn cs L a ccd cl outer) (call (.ref 123) [.ref lc, .int left t0, .int right t1]) Q E s := by
  have hS := (hC.take hi).drop lo
  unfold sliceC at hret
  generalize hfv : (cvs.take hi).drop lo = fv at hS
  generalize (cc.take hi).drop lo = fc at hS hret
  cases hS with
  | nil => exact line_slice_nil B F X N T hk hd hu hlc hl8 hle hri hlo hhi hfv .nil hret
  | cons hc hr =>
    rename_i v vs c cs'
    rcases List.eq_nil_or_concat cs' with rfl | ⟨rc, d, rfl⟩
    · cases hr
      exact line_slice_one B F X N T hk hd hu hlc hl8 hle hri hlo hhi hfv hc hret
    · rw [List.concat_eq_append] at hr hret
      obtain ⟨x, y, rfl, hx, hy⟩ := hr.split
      cases hy with
      | cons hv hy =>
        cases hy
        rw [fixFL_two] at hret
        exact line_slice_two B F X N T hk hd hu hlc hl8 hle hri hlo hhi hfv hc hx hv hret

end
end
section
theorem rg14 : True := by
  k_with_none
  k_with "omega" => (first | decide | (with_reducible first | exact Int.natCast_nonneg _ | exact rm1 ‹_› (by decide) | exact rm2 ‹_› (by decide) | exact rm3 ‹_› (by decide) | exact om_le ‹_› (by decide) | exact om_63 ‹_› (by decide) | exact om_eqle ‹_› ‹_› (by decide) | exact om_eq63 ‹_› ‹_› (by decide) | exact om_add ‹_› (by decide) | exact om_ne ‹_› (by decide) | exact om_le2 ‹_› ‹_› (by decide) | exact om_le2s ‹_› ‹_› (by decide) | exact om_le2_63 ‹_› ‹_› (by decide) | exact om_le2s_63 ‹_› ‹_› (by decide) | exact om_z62 ‹_› (by decide) | exact om_zn62 | exact om_kle ‹_› (by decide) | exact om_neg1 | exact om_pos | exact om_at ‹_› (by decide) | exact om_at0 ‹_› | exact om_add63 ‹_› (by decide) | exact Nat.ne_of_gt (by k_extra "pick") | exact Nat.ne_of_lt (by k_extra "pick")))
  k_with "ktr_room" => (first | exact rm0 (by assumption) | exact rm1 (by assumption) (Nat.le_of_ble_eq_true rfl))
  k_with "k_ne" => ((refine neN ?_; (try dsimp only); first | exact Nat.ne_of_gt (by assumption) | exact Nat.ne_of_lt (by assumption) | exact Nat.ne_of_gt (And.left (by assumption)) | exact Nat.ne_of_lt (And.left (by assumption)) | exact Nat.ne_of_gt (And.left (And.right (by assumption))) | exact Nat.ne_of_lt (And.left (And.right (by assumption))) | exact Nat.ne_of_gt (And.right (by assumption)) | exact Nat.ne_of_lt (And.right (by assumption)) | exact Nat.ne_of_gt (And.left (And.right (And.right (by assumption)))) | exact Nat.ne_of_lt (And.left (And.right (And.right (by assumption)))) | exact Nat.ne_of_gt (And.right (And.right (by assumption))) | exact Nat.ne_of_lt (And.right (And.right (by assumption)))))
  k_with "pick" => (with_reducible first | assumption | exact And.left ‹_› | exact And.left (And.right ‹_›) | exact And.left (And.right (And.right ‹_›)) | exact And.left (And.right (And.right (And.right ‹_›))) | exact And.left (And.right (And.right (And.right (And.right ‹_›)))) | exact And.left (And.right (And.right (And.right (And.right (And.right ‹_›))))) | exact And.left (And.right (And.right (And.right (And.right (And.right (And.right ‹_›)))))) | exact And.left (And.right (And.right (And.right (And.right (And.right (And.right (And.right ‹_›))))))) | exact And.left (And.right (And.right (And.right (And.right (And.right (And.right (And.right (And.right ‹_›)))))))) | exact And.left (And.right (And.right (And.right (And.right (And.right (And.right (And.right (And.right (And.right ‹_›))))))))) | exact And.left (And.right (And.right (And.right (And.right (And.right (And.right (And.right (And.right (And.right (And.right ‹_›)))))))))) | exact (And.right ‹_›) | exact (And.right (And.right ‹_›)) | exact (And.right (And.right (And.right ‹_›))) | exact (And.right (And.right (And.right (And.right ‹_›)))) | exact (And.right (And.right (And.right (And.right (And.right ‹_›))))) | exact (And.right (And.right (And.right (And.right (And.right (And.right ‹_›)))))) | exact (And.right (And.right (And.right (And.right (And.right (And.right (And.right ‹_›))))))) | exact (And.right (And.right (And.right (And.right (And.right (And.right (And.right (And.right ‹_›)))))))) | exact (And.right (And.right (And.right (And.right (And.right (And.right (And.right (And.right (And.right ‹_›))))))))) | exact (And.right (And.right (And.right (And.right (And.right (And.right (And.right (And.right (And.right (And.right ‹_›)))))))))))
  k_with "k_room" => (((simp only [depth_under_make, depth_under_kw, depth_in1, depth_deeper, depth_caller]); omega))
  k_with "k_all" => (assumption)
  k_with "eval Name" => (k_here; dsimp only)
  k_with "eval Call" => (k_here; dsimp only)
  k_with "eval Constant int" => (k_here; dsimp only)
  k_with "eval Attribute Name" => (k_here; dsimp only)
  k_with "eval BinOp" => (k_here; dsimp only)
  k_with "storeName" => (k_here; dsimp only)
  k_with "setAttr ref" => (k_here; dsimp only)
  k_with "eval Compare" => (k_here; dsimp only)
  k_with "isTrue Compare" => (k_here; dsimp only)
  k_with "eval Subscript" => (k_here; dsimp only)
  k_with "execs cons" => (k_here; first | (with_reducible rename News _ _ _ _ => nZ9; dsimp only at nZ9) | dsimp only | ((with_reducible show wpAny _ _ _ _ _ (Shared.mk _ _ _ (HAdd.hAdd _ _) _)); refine gen_toks ?_; intro _))
  k_with "eval Name" => (k_here; (fail_if_success (with_reducible show wpAny _ _ (eval _ (compEnvC _ _ _ _)) _ _ _)); (try dsimp only); k_dflt (first | (refine' nameX_L ?q9F ?q9v ?_ ?q9a ?q9b; (case q9F => k_asm); (case q9a => rfl); (case q9b => rfl); (case q9v => rfl); k_whole) | (refine' nameX_K ?q9F ?q9X ?q9T ?q9e ?_ ?q9a ?q9b; (case q9F => k_asm); (case q9X => k_asm); (case q9T => k_asm); (case q9a => rfl); (case q9b => rfl); (case q9e => k_is); k_whole) | (refine' nameX_B ?q9F ?q9X ?q9T ?q9e ?q9v ?q9n ?_ ?q9a ?q9b; (case q9F => k_asm); (case q9X => k_asm); (case q9T => k_asm); (case q9a => rfl); (case q9b => rfl); (case q9e => k_is); (case q9v => boot_fast); (case q9n => decide); k_whole)))
  k_with "execs cons" => (k_here; (try (with_reducible rename News _ _ _ _ => nZ9; dsimp only at nZ9)); (try dsimp only); (try ((with_reducible show wpAny _ _ _ _ _ (Shared.mk _ _ _ (HAdd.hAdd _ _) _)); refine gen_toks ?_; intro _)); (with_reducible refine wpAny_execs_cons ?_); (try dsimp only))
  k_with "eval Constant int" => (k_here; (try dsimp only); refine wpAny_Constant_int ?_)
  k_with "spliced" => (k_here; (fail_if_success (with_reducible show wpAny _ _ (spliced (backTo _ (starEach (PySem.Expr.Starred _ _ :: _) _))) _ _ _)); k_dflt (first | refine args_cons ?_ | (refine args_nil ?_; try simp only [List.cons_append, List.nil_append])))
  k_with "subscriptTail" => (k_here; (with_reducible show wpAny _ _ (subscriptTail _ _ (Value.ref _) (Value.int _ _)) _ _ _); k_dflt (refine' item_tupleT ?q9t ?q9a ?q9b ?q9c ?q9d ?_; (case q9t => exact News.isTup (by k_asm) (by k_mem)); (case q9a => decide); (case q9b => decide); (case q9c => rfl); (case q9d => rfl); k_whole))
  k_with "storeName" => (k_here; (fail_if_success (with_reducible show wpAny _ _ (storeName _ _ (compEnvC _ _ _ _)) _ _ _)); (try dsimp only); k_dflt (refine' storeX_L ?q9F ?q9N ?_ ?q9a ?q9b; (case q9F => k_asm); (case q9N => k_asm); (case q9a => rfl); (case q9b => rfl); k_whole; intro z9h z9F z9N; (try k_sweep)))
  k_with "callWith ref" => (k_here; k_dflt (first | (refine' callWith_K ?q9a ?q9b ?_; (case q9a => k_asm); (case q9b => k_is); k_whole) | (refine' callWith_K0 ?q9a ?q9b ?_; (case q9a => k_in); (case q9b => k_is); k_whole) | (refine' callWith_M0 ?q9a ?q9b ?_; (case q9a => k_meth); (case q9b => k_is); k_whole; try dsimp only [List.nil_append, List.cons_append]) | (refine' callWith_M ?q9a ?q9b ?q9c ?q9d ?_; (case q9a => k_asm); (case q9b => k_asm); (case q9c => k_mem); (case q9d => k_is); k_whole)))
  k_with "truthy bool" => (with_reducible refine wpAny_truthy_bool ?_)
  k_with "k_mem" => first | with_reducible assumption | assumption
  k_with "subscriptTail" => (k_here; (with_reducible show wpAny _ _ (subscriptTail _ _ (Value.ref _) (Value.int _ _)) _ _ _); (with_unfolding_all refine' item_litK ?q9k1 ?q9k2 ?q9k3 ?q9k4 ?_ ?q9k6; (case q9k1 => exact News.isList (by k_asm) (by k_mem)); (case q9k2 => decide); (case q9k3 => decide); (case q9k4 => rfl); (case q9k6 => with_unfolding_all rfl); k_whole))
  k_with "callWith" => ((with_reducible show wpAny _ _ (callWith _ (Value.builtin _) (_ :: _) (backTo _ (starEach (_ :: _) _)) []) _ _ _); k_dflt (refine callWith_method1 ?_))
  trivial
section
variable {prog : Program} {w : World} {p : Program} {loose : List Str} {mean : ExcName → Option Value} {mg mb : Str → Option Value}
 {dp un : Nat} {gd : Option (List Code)} {cn : Str} {cs : Scope} {a : Addr} {ccd : Value} {cl : List (Str × Addr)} {outer : List Env} {A₀ : Around} {base h₀ : Heap} {L : Addr} {m : Str → Option Value} {s : Shared} {Q E : Value → Shared → Prop}
theorem rg15 : True := by
  k_with "k_mem" => first | with_reducible assumption | ((repeat (first | exact List.Mem.head _ | with_reducible assumption | exact List.mem_append_left _ (by assumption) | refine List.Mem.tail _ ?_ | refine List.mem_append_right _ ?_ | assumption | exact m_tr (by assumption) (by assumption) | exact m_tr (by assumption) (m_tr (by assumption) (by assumption)))); done)
  k_with "call ref" => ((with_reducible show wpAny _ _ (call (Value.ref 123) _) _ _ _); k_dflt (refine' line_slice_ok ?q9zB ?q9zF ?q9zX ?q9zN ?q9zT ?q9zk ?q9zd ?q9zu ?q9zm ?q9zC ?q9zl ?q9ze ?q9zr ?q9zo ?q9zh ?_); ((case q9zB => k_asm); (case q9zF => k_asm); (case q9zX => k_asm); (case q9zN => k_asm); (case q9zT => k_asm); (case q9zk => exact rfl); (case q9zm => k_mem); (case q9zC => assumption); (case q9zl => omega); (case q9ze => first | k_dflt (exact (rfl : (0 : Int) = ((0 : Nat) : Int))) | assumption); (case q9zr => assumption); (case q9zo => first | omega | decide); (case q9zh => omega); (case q9zd => (first | exact rm2 (by assumption) (Nat.le_of_ble_eq_true rfl) | exact rm1 (by assumption) (Nat.le_of_ble_eq_true rfl) | (first | exact rm2 (by assumption) (Nat.le_of_ble_eq_true rfl) | exact rm1 (by assumption) (Nat.le_of_ble_eq_true rfl) | (show _ + _ < _; simp only [depth_deeper]; omega)))); (case q9zu => (first | exact rm2 (by assumption) (Nat.le_of_ble_eq_true rfl) | exact rm1 (by assumption) (Nat.le_of_ble_eq_true rfl) | (first | exact rm2 (by assumption) (Nat.le_of_ble_eq_true rfl) | exact rm1 (by assumption) (Nat.le_of_ble_eq_true rfl) | (show _ + _ < _; simp only [units_deeper]; omega))))); intro _ _ _ _ _ _ _ _ _ _ _)
  k_with "call builtin:len" => (k_here; (with_reducible show wpAny _ _ (call (Value.builtin "len") [Value.ref _]) _ _ _); k_dflt (refine' kst_len ?q9k1 ?q9k2 rfl ?q9k4 ?_; (case q9k1 => k_asm); (case q9k2 => k_mem); (case q9k4 => ((try simp only [List.length_append, List.length_cons, List.length_nil]); omega)); k_whole))
  k_with "ite" => first | (refine ite_pos (by first | omega | (simp only [beq_iff_eq, decide_eq_true_eq]; omega)) ?_; walk_say "BY OMEGA") | (refine ite_neg (by first | omega | (simp only [beq_iff_eq, decide_eq_true_eq]; omega)) ?_; walk_say "BY OMEGA")
  trivial
noncomputable def cutC (cc : List Cell) (k : Nat) : List Cell := if k < cc.length then sliceC cc 0 k else cc
theorem status_cut_ok {news : Led} {lc : Addr} {cvs : List Value} {cc : List Cell} {nc k t0 : Nat} {bg : Int} (B : Below A₀ base outer h₀) (F : Fr h₀ L s.heap m) (X : (Mine.frag.heap_1 w.params).In h₀) (N : News h₀ L s.heap news) (T : Top p loose mean mg mb h₀) (hk : cs.kind = .function)
   (hd : dp + 4 < recursionLimit) (hu : un + 110 < cLine)
   (hlc : (lc, listOf cvs.toArray nc) ∈ news) (hC : CellsV news bg cvs cc) (hl8 : cvs.length ≤ 200) (hk8 : k ≤ 900)
   (hret : ∀ l vs n news' h' tk', Fr h₀ L h' m → News h₀ L h' news' → (∀ q ∈ news, q ∈ news') → (l, listOf vs.toArray n) ∈ news' → CellsV news' bg vs (cutC cc k) → Q (.ref l) { s with heap := h', toks := tk' }) :
   wpAny (model prog w) (ktrTop dp un gd cn cs L a ccd cl outer) (call (.ref 483) [.ref lc, .int (k : Int) t0]) Q E s := by
  have hlen := hC.length
  have hi1 : ((k : Int) - 1) + 1 = (k : Int) := by omega
  refine wpAny_call ?_
  k_dflt ktr_enter
  k_steps
  · have e : cutC cc k = sliceC cc 0 k := if_pos (by omega)
    rw [e] at hret
    exact hret _ _ _ _ _ _ (by assumption) (by assumption) (by assumption) (by assumption) (by assumption)
  · have e : cutC cc k = cc := if_neg (by omega)
    rw [e] at hret
    exact hret _ _ _ _ _ _ (by assumption) (by assumption) (fun _ h => h) hlc hC

end
end
section
theorem rg16 : True := by
  k_with_none
  k_with "omega" => (first | decide | (with_reducible first | exact Int.natCast_nonneg _ | exact rm1 ‹_› (by decide) | exact rm2 ‹_› (by decide) | exact rm3 ‹_› (by decide) | exact om_le ‹_› (by decide) | exact om_63 ‹_› (by decide) | exact om_eqle ‹_› ‹_› (by decide) | exact om_eq63 ‹_› ‹_› (by decide) | exact om_add ‹_› (by decide) | exact om_ne ‹_› (by decide) | exact om_le2 ‹_› ‹_› (by decide) | exact om_le2s ‹_› ‹_› (by decide) | exact om_le2_63 ‹_› ‹_› (by decide) | exact om_le2s_63 ‹_› ‹_› (by decide) | exact om_z62 ‹_› (by decide) | exact om_zn62 | exact om_kle ‹_› (by decide) | exact om_neg1 | exact om_pos | exact om_at ‹_› (by decide) | exact om_at0 ‹_› | exact om_add63 ‹_› (by decide) | exact Nat.ne_of_gt (by k_extra "pick") | exact Nat.ne_of_lt (by k_extra "pick")))
  k_with "ktr_room" => (first | exact rm0 (by assumption) | exact rm1 (by assumption) (Nat.le_of_ble_eq_true rfl))
  k_with "k_ne" => ((refine neN ?_; (try dsimp only); first | exact Nat.ne_of_gt (by assumption) | exact Nat.ne_of_lt (by assumption) | exact Nat.ne_of_gt (And.left (by assumption)) | exact Nat.ne_of_lt (And.left (by assumption)) | exact Nat.ne_of_gt (And.left (And.right (by assumption))) | exact Nat.ne_of_lt (And.left (And.right (by assumption))) | exact Nat.ne_of_gt (And.right (by assumption)) | exact Nat.ne_of_lt (And.right (by assumption)) | exact Nat.ne_of_gt (And.left (And.right (And.right (by assumption)))) | exact Nat.ne_of_lt (And.left (And.right (And.right (by assumption)))) | exact Nat.ne_of_gt (And.right (And.right (by assumption))) | exact Nat.ne_of_lt (And.right (And.right (by assumption)))))
  k_with "pick" => (with_reducible first | assumption | exact And.left ‹_› | exact And.left (And.right ‹_›) | exact And.left (And.right (And.right ‹_›)) | exact And.left (And.right (And.right (And.right ‹_›))) | exact And.left (And.right (And.right (And.right (And.right ‹_›)))) | exact And.left (And.right (And.right (And.right (And.right (And.right ‹_›))))) | exact And.left (And.right (And.right (And.right (And.right (And.right (And.right ‹_›)))))) | exact And.left (And.right (And.right (And.right (And.right (And.right (And.right (And.right ‹_›))))))) | exact And.left (And.right (And.right (And.right (And.right (And.right (And.right (And.right (And.right ‹_›)))))))) | exact And.left (And.right (And.right (And.right (And.right (And.right (And.right (And.right (And.right (And.right ‹_›))))))))) | exact And.left (And.right (And.right (And.right (And.right (And.right (And.right (And.right (And.right (And.right (And.right ‹_›)))))))))) | exact (And.right ‹_›) | exact (And.right (And.right ‹_›)) | exact (And.right (And.right (And.right ‹_›))) | exact (And.right (And.right (And.right (And.right ‹_›)))) | exact (And.right (And.right (And.right (And.right (And.right ‹_›))))) | exact (And.right (And.right (And.right (And.right (And.right (And.right ‹_›)))))) | exact (And.right (And.right (And.right (And.right (And.right (And.right (And.right ‹_›))))))) | exact (And.right (And.right (And.right (And.right (And.right (And.right (And.right (And.right ‹_›)))))))) | exact (And.right (And.right (And.right (And.right (And.right (And.right (And.right (And.right (And.right ‹_›))))))))) | exact (And.right (And.right (And.right (And.right (And.right (And.right (And.right (And.right (And.right (And.right ‹_›)))))))))))
  k_with "k_room" => (((simp only [depth_under_make, depth_under_kw, depth_in1, depth_deeper, depth_caller]); omega))
  k_with "k_all" => (assumption)
  k_with "eval Name" => (k_here; dsimp only)
  k_with "eval Call" => (k_here; dsimp only)
  k_with "eval Constant int" => (k_here; dsimp only)
  k_with "eval Attribute Name" => (k_here; dsimp only)
  k_with "eval BinOp" => (k_here; dsimp only)
  k_with "storeName" => (k_here; dsimp only)
  k_with "setAttr ref" => (k_here; dsimp only)
  k_with "eval Compare" => (k_here; dsimp only)
  k_with "isTrue Compare" => (k_here; dsimp only)
  k_with "eval Subscript" => (k_here; dsimp only)
  k_with "execs cons" => (k_here; first | (with_reducible rename News _ _ _ _ => nZ9; dsimp only at nZ9) | dsimp only | ((with_reducible show wpAny _ _ _ _ _ (Shared.mk _ _ _ (HAdd.hAdd _ _) _)); refine gen_toks ?_; intro _))
  k_with "eval Name" => (k_here; (fail_if_success (with_reducible show wpAny _ _ (eval _ (compEnvC _ _ _ _)) _ _ _)); (try dsimp only); k_dflt (first | (refine' nameX_L ?q9F ?q9v ?_ ?q9a ?q9b; (case q9F => k_asm); (case q9a => rfl); (case q9b => rfl); (case q9v => rfl); k_whole) | (refine' nameX_K ?q9F ?q9X ?q9T ?q9e ?_ ?q9a ?q9b; (case q9F => k_asm); (case q9X => k_asm); (case q9T => k_asm); (case q9a => rfl); (case q9b => rfl); (case q9e => k_is); k_whole) | (refine' nameX_B ?q9F ?q9X ?q9T ?q9e ?q9v ?q9n ?_ ?q9a ?q9b; (case q9F => k_asm); (case q9X => k_asm); (case q9T => k_asm); (case q9a => rfl); (case q9b => rfl); (case q9e => k_is); (case q9v => boot_fast); (case q9n => decide); k_whole)))
  k_with "execs cons" => (k_here; (try (with_reducible rename News _ _ _ _ => nZ9; dsimp only at nZ9)); (try dsimp only); (try ((with_reducible show wpAny _ _ _ _ _ (Shared.mk _ _ _ (HAdd.hAdd _ _) _)); refine gen_toks ?_; intro _)); (with_reducible refine wpAny_execs_cons ?_); (try dsimp only))
  k_with "eval Constant int" => (k_here; (try dsimp only); refine wpAny_Constant_int ?_)
  k_with "spliced" => (k_here; (fail_if_success (with_reducible show wpAny _ _ (spliced (backTo _ (starEach (PySem.Expr.Starred _ _ :: _) _))) _ _ _)); k_dflt (first | refine args_cons ?_ | (refine args_nil ?_; try simp only [List.cons_append, List.nil_append])))
  k_with "subscriptTail" => (k_here; (with_reducible show wpAny _ _ (subscriptTail _ _ (Value.ref _) (Value.int _ _)) _ _ _); k_dflt (refine' item_tupleT ?q9t ?q9a ?q9b ?q9c ?q9d ?_; (case q9t => exact News.isTup (by k_asm) (by k_mem)); (case q9a => decide); (case q9b => decide); (case q9c => rfl); (case q9d => rfl); k_whole))
  k_with "storeName" => (k_here; (fail_if_success (with_reducible show wpAny _ _ (storeName _ _ (compEnvC _ _ _ _)) _ _ _)); (try dsimp only); k_dflt (refine' storeX_L ?q9F ?q9N ?_ ?q9a ?q9b; (case q9F => k_asm); (case q9N => k_asm); (case q9a => rfl); (case q9b => rfl); k_whole; intro z9h z9F z9N; (try k_sweep)))
  k_with "callWith ref" => (k_here; k_dflt (first | (refine' callWith_K ?q9a ?q9b ?_; (case q9a => k_asm); (case q9b => k_is); k_whole) | (refine' callWith_K0 ?q9a ?q9b ?_; (case q9a => k_in); (case q9b => k_is); k_whole) | (refine' callWith_M0 ?q9a ?q9b ?_; (case q9a => k_meth); (case q9b => k_is); k_whole; try dsimp only [List.nil_append, List.cons_append]) | (refine' callWith_M ?q9a ?q9b ?q9c ?q9d ?_; (case q9a => k_asm); (case q9b => k_asm); (case q9c => k_mem); (case q9d => k_is); k_whole)))
  k_with "truthy bool" => (with_reducible refine wpAny_truthy_bool ?_)
  k_with "k_mem" => first | with_reducible assumption | assumption
  k_with "subscriptTail" => (k_here; (with_reducible show wpAny _ _ (subscriptTail _ _ (Value.ref _) (Value.int _ _)) _ _ _); (with_unfolding_all refine' item_litK ?q9k1 ?q9k2 ?q9k3 ?q9k4 ?_ ?q9k6; (case q9k1 => exact News.isList (by k_asm) (by k_mem)); (case q9k2 => decide); (case q9k3 => decide); (case q9k4 => rfl); (case q9k6 => with_unfolding_all rfl); k_whole))
  k_with "callWith" => ((with_reducible show wpAny _ _ (callWith _ (Value.builtin _) (_ :: _) (backTo _ (starEach (_ :: _) _)) []) _ _ _); k_dflt (refine callWith_method1 ?_))
  trivial
section
variable {prog : Program} {w : World} {p : Program} {loose : List Str} {mean : ExcName → Option Value} {mg mb : Str → Option Value}
 {dp un : Nat} {gd : Option (List Code)} {cn : Str} {cs : Scope} {a : Addr} {ccd : Value} {cl : List (Str × Addr)} {outer : List Env} {A₀ : Around} {base h₀ : Heap} {L : Addr} {m : Str → Option Value} {s : Shared} {Q E : Value → Shared → Prop}
theorem rg17 : True := by
  k_with "k_mem" => first | with_reducible assumption | ((repeat (first | exact List.Mem.head _ | with_reducible assumption | exact List.mem_append_left _ (by assumption) | refine List.Mem.tail _ ?_ | refine List.mem_append_right _ ?_ | assumption | exact m_tr (by assumption) (by assumption) | exact m_tr (by assumption) (m_tr (by assumption) (by assumption)))); done)
  k_with "call ref" => ((with_reducible show wpAny _ _ (call (Value.ref 116) _) _ _ _); k_dflt (refine' blank_cell_ok ?q9zB ?q9zF ?q9zX ?q9zN ?q9zT ?q9zk ?q9zd ?q9zu ?q9zp ?_); ((case q9zB => k_asm); (case q9zF => k_asm); (case q9zX => k_asm); (case q9zN => k_asm); (case q9zT => k_asm); (case q9zk => exact rfl); (case q9zp => exact PenV.mono (by assumption) (by (intro _ z9hqq; first | exact z9hqq | simp only [List.mem_cons, List.mem_append, z9hqq, or_true, true_or]))); (case q9zd => (first | exact rm2 (by assumption) (Nat.le_of_ble_eq_true rfl) | exact rm1 (by assumption) (Nat.le_of_ble_eq_true rfl) | (first | exact rm2 (by assumption) (Nat.le_of_ble_eq_true rfl) | exact rm1 (by assumption) (Nat.le_of_ble_eq_true rfl) | (show _ + _ < _; simp only [depth_deeper]; omega)))); (case q9zu => (first | exact rm2 (by assumption) (Nat.le_of_ble_eq_true rfl) | exact rm1 (by assumption) (Nat.le_of_ble_eq_true rfl) | (first | exact rm2 (by assumption) (Nat.le_of_ble_eq_true rfl) | exact rm1 (by assumption) (Nat.le_of_ble_eq_true rfl) | (show _ + _ < _; simp only [units_deeper]; omega))))); intro _ _ _ _ _ _ _ z9hce'; obtain ⟨z9xb', z9cxb', z9vsb', z9pvb', z9tb', z9nb', z9nb2', z9eb', z9hxb', z9hcxb', z9hib', z9hpb'⟩ := CellV.out z9hce'; subst z9eb')
  k_with "k_upd" => ((with_reducible refine' upd_abv ?q9q1 ?q9q2 ?q9q3); (case q9q1 => assumption); (case q9q2 => k_mem); (case q9q3 => k_upd))
  k_with "k_upd" => ((with_reducible refine' upd_new ?q9q1 ?q9q2 ?q9q3); (case q9q1 => with_reducible assumption); (case q9q2 => k_mem); (case q9q3 => k_upd))
  k_with "ite" => first | (refine ite_pos (by first | omega | (simp only [beq_iff_eq, decide_eq_true_eq]; omega)) ?_; walk_say "BY OMEGA") | (refine ite_neg (by first | omega | (simp only [beq_iff_eq, decide_eq_true_eq]; omega)) ?_; walk_say "BY OMEGA")
  trivial
theorem range_k (k : Nat) : Builtin.Range.rangeSize 0 (k : Int) 1 = ((k : Nat) : Int) := by
  unfold Builtin.Range.rangeSize
  rw [if_pos (by decide)]
  split
  · rw [Int.ediv_one]; (first | lia | omega)
  · (first | lia | omega)
theorem rg18 : True := by
  k_with "CompSrc" => (k_here; k_dflt (refine' LCg.CompSrc.range (by rfl) (by k_asm) (by k_asm) (by assumption) (small_one (by omega) (by omega) (by omega) (by omega)) (range_k _) (by rw [PySem.sizeLine_eq]; omega) ?_); intro _)
  trivial
theorem comp_inv {A : Around} {env : Env} {elt : PySem.Expr} {x : Str} {scope : Scope} {cl' : List (Str × Addr)} {S : Led → Prop} {P : Nat → Value → Prop} {Fin : List Value → Led → Prop} (I : Nat → List Value → Led → Prop) (n : Nat) {news : Led} (start : I 0 [] news)
   (turn : ∀ i v ys nw a0 oI C oC D m₂ h tk (E' : Value → Shared → Prop), i < n → P i v → I i ys nw → LCg.NsObj oC m₂ → m₂ x = some v → Fr h₀ L h m → News h₀ L h ((a0, oI) :: (C, oC) :: (D, LCg.lst ys) :: nw) → LCg.Off3 a0 C D nw → ((@Ne Nat a0 C) ∧ (@Ne Nat a0 D) ∧ (@Ne Nat C D)) →
      wpAny (model prog w) A (eval elt (compEnvC scope cl' C env)) (LCg.CompEnd h₀ L m { s with heap := h, toks := tk } a0 oI C oC D (LCg.lst ys) S (fun y nw' => I (i + 1) (ys ++ [y]) nw')) E' { s with heap := h, toks := tk })
   (fin : ∀ ys nw, I n ys nw → Fin ys nw) : LCg.CompRest prog w A h₀ L m env elt x scope cl' s S P Fin n 0 [] news := by
  have go : ∀ k i ys nw, i + k = n → I i ys nw → LCg.CompRest prog w A h₀ L m env elt x scope cl' s S P Fin k i ys nw := by
    intro k
    induction k with
    | zero => intro i ys nw e hI; exact LCg.CompRest.zero (fin ys nw (by rw [← e]; exact hI))
    | succ k ih =>
      intro i ys nw e hI
      refine LCg.CompRest.succ ?_
      intro v a0 oI C oC D m₂ h tk E' hv hC hx F N off ne
      refine wpAny_mono (turn i v ys nw a0 oI C oC D m₂ h tk E' (by (first | lia | omega)) hv hI hC hx F N off ne) (fun y s₂ q => ?_) fun _ _ q => q
      obtain ⟨h', tk', nw', rfl, F', N', off', hS', hI'⟩ := q
      exact ⟨h', tk', nw', rfl, F', N', off', hS', ih (i + 1) (ys ++ [y]) nw' (by (first | lia | omega)) hI'⟩
  exact go n 0 [] news (by (first | lia | omega)) start
theorem off3_app {a0 C D : Addr} {oI oC oD : Obj} {tl nw : Led} (h : Above tl ((a0, oI) :: (C, oC) :: (D, oD) :: nw)) (off : LCg.Off3 a0 C D nw) : LCg.Off3 a0 C D (tl ++ nw) :=
  LCg.Off3.of fun p hp => (List.mem_append.mp hp).elim (fun hp => ⟨Nat.ne_of_gt (h p hp _ (.head _)), Nat.ne_of_gt (h p hp _ (.tail _ (.head _))), Nat.ne_of_gt (h p hp _ (.tail _ (.tail _ (.head _))))⟩) fun hp => off.mem p hp
theorem status_blanks_ok {news : Led} {k t0 : Nat} {bg : Int} {pv : Value} (B : Below A₀ base outer h₀) (F : Fr h₀ L s.heap m) (X : (Mine.frag.heap_1 w.params).In h₀) (N : News h₀ L s.heap news) (T : Top p loose mean mg mb h₀) (hk : cs.kind = .function)
   (hd : dp + 5 < recursionLimit) (hu : un + 110 < cLine)
   (hp : PenV news pv bg) (hk8 : k ≤ 900)
   (hret : ∀ l vs n news' h' tk', Fr h₀ L h' m → News h₀ L h' news' → (∀ q ∈ news, q ∈ news') → (l, listOf vs.toArray n) ∈ news' → CellsV news' bg vs (List.replicate k blankC) → Q (.ref l) { s with heap := h', toks := tk' }) :
   wpAny (model prog w) (ktrTop dp un gd cn cs L a ccd cl outer) (call (.ref 476) [.int (k : Int) t0, pv]) Q E s := by
  refine wpAny_call ?_
  k_dflt (refine' code_defC ?k1 ?k2 ?k3 ?k4 ?k5 ?kA ?kF ?kK ?k6 ?k7 ?k8 ?k9 ?kB ?kD ?_ ?c2 ?c3 ?c4; (case kA => exact rfl); (case kF => exact rfl); (case kK => assumption); (case k1 => k_asm); (case k2 => k_asm); (case k3 => k_asm); (case k4 => k_asm); (case k5 => k_asm); (case k6 => k_is); (case k7 => k_is); (case k8 => ktr_room); (case k9 => exact BindsTo.of_eq rfl); (case kB => exact rfl); (case kD => decide +kernel); (case c2 => exact rfl); (case c3 => exact rfl); (case c4 => exact rfl); k_whole; intro g' L' h' tk' cells' FG' F' N' Y' B' X' T' l1; (try k_lt l1); k_cells Y'; (try simp only [List.cons_append, List.nil_append] at N'); (try dsimp only); (try k_fold))
  k_steps
  refine comp_inv (fun i ys nw => CellsV nw bg ys (List.replicate i blankC) ∧ (∀ q ∈ _, q ∈ nw)) _ ⟨.nil, fun q hq => hq⟩ ?_ ?_
  · rintro i v ys nw a0 oI C oC D m₂ h tk E' hi ⟨tv, rfl⟩ ⟨hI, hsub⟩ hC hx F2 N2 off ne
    (try ((show wpAny _ _ _ _ _ _); k_fold))
    have hcell := hsub _ (.head _)
    have hp2 := hp.mono (fun q hq => hsub q (List.mem_cons_of_mem _ hq))
    k_steps
    rename Above _ _ => hab
    rename News _ _ _ (_ ++ _) => kN
    rename CellV _ _ _ _ => hcv
    refine LCg.CompEnd.intro (by assumption) kN (_ ++ nw) ?_ (off3_app hab off) trivial ⟨?_, fun q hq => List.mem_append.mpr (.inr (hsub q hq))⟩
    · intro q hq
      simp only [List.mem_cons, List.mem_append] at hq ⊢
      rcases hq with hq | hq | hq | hq | hq
      · exact .inr (.inl hq)
      · exact .inr (.inr (.inl hq))
      · exact .inr (.inr (.inr (.inl hq)))
      · exact .inl hq
      · exact .inr (.inr (.inr (.inr hq)))
    · rw [List.replicate_succ']
      exact (hI.mono (fun q hq => List.mem_append.mpr (.inr hq))).append (.cons (hcv.mono (fun q hq => List.mem_append.mpr (.inl hq))) .nil)
  · rintro ys nw ⟨hI, hsub⟩
    k_steps
    rename News h₀ _ _ _ => kN
    exact hret _ _ _ _ _ _ (by assumption) kN (fun q hq => List.mem_cons_of_mem _ (hsub q (List.mem_cons_of_mem _ hq))) (.head _) (hI.mono fun q hq => List.mem_cons_of_mem _ hq)
theorem status_blanks_int {news : Led} {many : Int} {t0 : Nat} {bg : Int} {pv : Value} (B : Below A₀ base outer h₀) (F : Fr h₀ L s.heap m) (X : (Mine.frag.heap_1 w.params).In h₀) (N : News h₀ L s.heap news) (T : Top p loose mean mg mb h₀) (hk : cs.kind = .function)
   (hd : dp + 5 < recursionLimit) (hu : un + 110 < cLine)
   (hp : PenV news pv bg) (h0 : 0 ≤ many) (hk8 : many ≤ 900)
   (hret : ∀ l vs n news' h' tk', Fr h₀ L h' m → News h₀ L h' news' → (∀ q ∈ news, q ∈ news') → (l, listOf vs.toArray n) ∈ news' → CellsV news' bg vs (List.replicate many.toNat blankC) → Q (.ref l) { s with heap := h', toks := tk' }) :
   wpAny (model prog w) (ktrTop dp un gd cn cs L a ccd cl outer) (call (.ref 476) [.int many t0, pv]) Q E s := by
  obtain ⟨k, rfl⟩ := Int.eq_ofNat_of_zero_le h0
  exact status_blanks_ok B F X N T hk hd hu hp (by (first | lia | omega)) hret

end
end
section
theorem rg19 : True := by
  k_with_none
  k_with "omega" => (first | decide | (with_reducible first | exact Int.natCast_nonneg _ | exact rm1 ‹_› (by decide) | exact rm2 ‹_› (by decide) | exact rm3 ‹_› (by decide) | exact om_le ‹_› (by decide) | exact om_63 ‹_› (by decide) | exact om_eqle ‹_› ‹_› (by decide) | exact om_eq63 ‹_› ‹_› (by decide) | exact om_add ‹_› (by decide) | exact om_ne ‹_› (by decide) | exact om_le2 ‹_› ‹_› (by decide) | exact om_le2s ‹_› ‹_› (by decide) | exact om_le2_63 ‹_› ‹_› (by decide) | exact om_le2s_63 ‹_› ‹_› (by decide) | exact om_z62 ‹_› (by decide) | exact om_zn62 | exact om_kle ‹_› (by decide) | exact om_neg1 | exact om_pos | exact om_at ‹_› (by decide) | exact om_at0 ‹_› | exact om_add63 ‹_› (by decide) | exact Nat.ne_of_gt (by k_extra "pick") | exact Nat.ne_of_lt (by k_extra "pick")))
  k_with "ktr_room" => (first | exact rm0 (by assumption) | exact rm1 (by assumption) (Nat.le_of_ble_eq_true rfl))
  k_with "k_ne" => ((refine neN ?_; (try dsimp only); first | exact Nat.ne_of_gt (by assumption) | exact Nat.ne_of_lt (by assumption) | exact Nat.ne_of_gt (And.left (by assumption)) | exact Nat.ne_of_lt (And.left (by assumption)) | exact Nat.ne_of_gt (And.left (And.right (by assumption))) | exact Nat.ne_of_lt (And.left (And.right (by assumption))) | exact Nat.ne_of_gt (And.right (by assumption)) | exact Nat.ne_of_lt (And.right (by assumption)) | exact Nat.ne_of_gt (And.left (And.right (And.right (by assumption)))) | exact Nat.ne_of_lt (And.left (And.right (And.right (by assumption)))) | exact Nat.ne_of_gt (And.right (And.right (by assumption))) | exact Nat.ne_of_lt (And.right (And.right (by assumption)))))
  k_with "pick" => (with_reducible first | assumption | exact And.left ‹_› | exact And.left (And.right ‹_›) | exact And.left (And.right (And.right ‹_›)) | exact And.left (And.right (And.right (And.right ‹_›))) | exact And.left (And.right (And.right (And.right (And.right ‹_›)))) | exact And.left (And.right (And.right (And.right (And.right (And.right ‹_›))))) | exact And.left (And.right (And.right (And.right (And.right (And.right (And.right ‹_›)))))) | exact And.left (And.right (And.right (And.right (And.right (And.right (And.right (And.right ‹_›))))))) | exact And.left (And.right (And.right (And.right (And.right (And.right (And.right (And.right (And.right ‹_›)))))))) | exact And.left (And.right (And.right (And.right (And.right (And.right (And.right (And.right (And.right (And.right ‹_›))))))))) | exact And.left (And.right (And.right (And.right (And.right (And.right (And.right (And.right (And.right (And.right (And.right ‹_›)))))))))) | exact (And.right ‹_›) | exact (And.right (And.right ‹_›)) | exact (And.right (And.right (And.right ‹_›))) | exact (And.right (And.right (And.right (And.right ‹_›)))) | exact (And.right (And.right (And.right (And.right (And.right ‹_›))))) | exact (And.right (And.right (And.right (And.right (And.right (And.right ‹_›)))))) | exact (And.right (And.right (And.right (And.right (And.right (And.right (And.right ‹_›))))))) | exact (And.right (And.right (And.right (And.right (And.right (And.right (And.right (And.right ‹_›)))))))) | exact (And.right (And.right (And.right (And.right (And.right (And.right (And.right (And.right (And.right ‹_›))))))))) | exact (And.right (And.right (And.right (And.right (And.right (And.right (And.right (And.right (And.right (And.right ‹_›)))))))))))
  k_with "k_room" => (((simp only [depth_under_make, depth_under_kw, depth_in1, depth_deeper, depth_caller]); omega))
  k_with "k_all" => (assumption)
  k_with "eval Name" => (k_here; dsimp only)
  k_with "eval Call" => (k_here; dsimp only)
  k_with "eval Constant int" => (k_here; dsimp only)
  k_with "eval Attribute Name" => (k_here; dsimp only)
  k_with "eval BinOp" => (k_here; dsimp only)
  k_with "storeName" => (k_here; dsimp only)
  k_with "setAttr ref" => (k_here; dsimp only)
  k_with "eval Compare" => (k_here; dsimp only)
  k_with "isTrue Compare" => (k_here; dsimp only)
  k_with "eval Subscript" => (k_here; dsimp only)
  k_with "execs cons" => (k_here; first | (with_reducible rename News _ _ _ _ => nZ9; dsimp only at nZ9) | dsimp only | ((with_reducible show wpAny _ _ _ _ _ (Shared.mk _ _ _ (HAdd.hAdd _ _) _)); refine gen_toks ?_; intro _))
  k_with "eval Name" => (k_here; (fail_if_success (with_reducible show wpAny _ _ (eval _ (compEnvC _ _ _ _)) _ _ _)); (try dsimp only); k_dflt (first | (refine' nameX_L ?q9F ?q9v ?_ ?q9a ?q9b; (case q9F => k_asm); (case q9a => rfl); (case q9b => rfl); (case q9v => rfl); k_whole) | (refine' nameX_K ?q9F ?q9X ?q9T ?q9e ?_ ?q9a ?q9b; (case q9F => k_asm); (case q9X => k_asm); (case q9T => k_asm); (case q9a => rfl); (case q9b => rfl); (case q9e => k_is); k_whole) | (refine' nameX_B ?q9F ?q9X ?q9T ?q9e ?q9v ?q9n ?_ ?q9a ?q9b; (case q9F => k_asm); (case q9X => k_asm); (case q9T => k_asm); (case q9a => rfl); (case q9b => rfl); (case q9e => k_is); (case q9v => boot_fast); (case q9n => decide); k_whole)))
  k_with "execs cons" => (k_here; (try (with_reducible rename News _ _ _ _ => nZ9; dsimp only at nZ9)); (try dsimp only); (try ((with_reducible show wpAny _ _ _ _ _ (Shared.mk _ _ _ (HAdd.hAdd _ _) _)); refine gen_toks ?_; intro _)); (with_reducible refine wpAny_execs_cons ?_); (try dsimp only))
  k_with "eval Constant int" => (k_here; (try dsimp only); refine wpAny_Constant_int ?_)
  k_with "spliced" => (k_here; (fail_if_success (with_reducible show wpAny _ _ (spliced (backTo _ (starEach (PySem.Expr.Starred _ _ :: _) _))) _ _ _)); k_dflt (first | refine args_cons ?_ | (refine args_nil ?_; try simp only [List.cons_append, List.nil_append])))
  k_with "subscriptTail" => (k_here; (with_reducible show wpAny _ _ (subscriptTail _ _ (Value.ref _) (Value.int _ _)) _ _ _); k_dflt (refine' item_tupleT ?q9t ?q9a ?q9b ?q9c ?q9d ?_; (case q9t => exact News.isTup (by k_asm) (by k_mem)); (case q9a => decide); (case q9b => decide); (case q9c => rfl); (case q9d => rfl); k_whole))
  k_with "storeName" => (k_here; (fail_if_success (with_reducible show wpAny _ _ (storeName _ _ (compEnvC _ _ _ _)) _ _ _)); (try dsimp only); k_dflt (refine' storeX_L ?q9F ?q9N ?_ ?q9a ?q9b; (case q9F => k_asm); (case q9N => k_asm); (case q9a => rfl); (case q9b => rfl); k_whole; intro z9h z9F z9N; (try k_sweep)))
  k_with "callWith ref" => (k_here; k_dflt (first | (refine' callWith_K ?q9a ?q9b ?_; (case q9a => k_asm); (case q9b => k_is); k_whole) | (refine' callWith_K0 ?q9a ?q9b ?_; (case q9a => k_in); (case q9b => k_is); k_whole) | (refine' callWith_M0 ?q9a ?q9b ?_; (case q9a => k_meth); (case q9b => k_is); k_whole; try dsimp only [List.nil_append, List.cons_append]) | (refine' callWith_M ?q9a ?q9b ?q9c ?q9d ?_; (case q9a => k_asm); (case q9b => k_asm); (case q9c => k_mem); (case q9d => k_is); k_whole)))
  k_with "truthy bool" => (with_reducible refine wpAny_truthy_bool ?_)
  k_with "k_mem" => first | with_reducible assumption | assumption
  k_with "subscriptTail" => (k_here; (with_reducible show wpAny _ _ (subscriptTail _ _ (Value.ref _) (Value.int _ _)) _ _ _); (with_unfolding_all refine' item_litK ?q9k1 ?q9k2 ?q9k3 ?q9k4 ?_ ?q9k6; (case q9k1 => exact News.isList (by k_asm) (by k_mem)); (case q9k2 => decide); (case q9k3 => decide); (case q9k4 => rfl); (case q9k6 => with_unfolding_all rfl); k_whole))
  k_with "callWith" => ((with_reducible show wpAny _ _ (callWith _ (Value.builtin _) (_ :: _) (backTo _ (starEach (_ :: _) _)) []) _ _ _); k_dflt (refine callWith_method1 ?_))
  trivial
section
variable {prog : Program} {w : World} {p : Program} {loose : List Str} {mean : ExcName → Option Value} {mg mb : Str → Option Value}
 {dp un : Nat} {gd : Option (List Code)} {cn : Str} {cs : Scope} {a : Addr} {ccd : Value} {cl : List (Str × Addr)} {outer : List Env} {A₀ : Around} {base h₀ : Heap} {L : Addr} {m : Str → Option Value} {s : Shared} {Q E : Value → Shared → Prop}
theorem rg20 : True := by
  k_with "k_mem" => first | with_reducible assumption | ((repeat (first | exact List.Mem.head _ | with_reducible assumption | exact List.mem_append_left _ (by assumption) | refine List.Mem.tail _ ?_ | refine List.mem_append_right _ ?_ | assumption | exact m_tr (by assumption) (by assumption) | exact m_tr (by assumption) (m_tr (by assumption) (by assumption)))); done)
  k_with "call ref" => ((with_reducible show wpAny _ _ (call (Value.ref 483) _) _ _ _); k_dflt (refine' status_cut_ok ?q9zB ?q9zF ?q9zX ?q9zN ?q9zT ?q9zk ?q9zd ?q9zu ?q9zm ?q9zC ?q9zl ?q9zh ?_); ((case q9zB => k_asm); (case q9zF => k_asm); (case q9zX => k_asm); (case q9zN => k_asm); (case q9zT => k_asm); (case q9zk => k_dflt (exact rfl)); (case q9zm => k_dflt (k_mem)); (case q9zC => k_dflt (assumption)); (case q9zl => k_dflt (omega)); (case q9zh => k_dflt (omega)); (case q9zd => first | (first | exact rm2 (by assumption) (Nat.le_of_ble_eq_true rfl) | exact rm1 (by assumption) (Nat.le_of_ble_eq_true rfl) | (first | exact rm2 (by assumption) (Nat.le_of_ble_eq_true rfl) | exact rm1 (by assumption) (Nat.le_of_ble_eq_true rfl) | (show _ + _ < _; simp only [depth_deeper]; omega))) | decide +kernel); (case q9zu => first | (first | exact rm2 (by assumption) (Nat.le_of_ble_eq_true rfl) | exact rm1 (by assumption) (Nat.le_of_ble_eq_true rfl) | (first | exact rm2 (by assumption) (Nat.le_of_ble_eq_true rfl) | exact rm1 (by assumption) (Nat.le_of_ble_eq_true rfl) | (show _ + _ < _; simp only [units_deeper]; omega))) | decide +kernel)); intro _ _ _ _ _ _ _ _ _ _ z9hC'; (have z9hlen' := CellsV.length z9hC'))
  k_with "call ref" => ((with_reducible show wpAny _ _ (call (Value.ref 476) _) _ _ _); k_dflt (refine' status_blanks_int ?q9zB ?q9zF ?q9zX ?q9zN ?q9zT ?q9zk ?q9zd ?q9zu ?q9zp ?q9zo ?q9zh ?_); ((case q9zB => k_asm); (case q9zF => k_asm); (case q9zX => k_asm); (case q9zN => k_asm); (case q9zT => k_asm); (case q9zk => k_dflt (exact rfl)); (case q9zp => k_dflt (exact PenV.mono (by assumption) (by assumption))); (case q9zo => k_dflt (omega)); (case q9zh => k_dflt (omega)); (case q9zd => first | (first | exact rm2 (by assumption) (Nat.le_of_ble_eq_true rfl) | exact rm1 (by assumption) (Nat.le_of_ble_eq_true rfl) | (first | exact rm2 (by assumption) (Nat.le_of_ble_eq_true rfl) | exact rm1 (by assumption) (Nat.le_of_ble_eq_true rfl) | (show _ + _ < _; simp only [depth_deeper]; omega))) | decide +kernel); (case q9zu => first | (first | exact rm2 (by assumption) (Nat.le_of_ble_eq_true rfl) | exact rm1 (by assumption) (Nat.le_of_ble_eq_true rfl) | (first | exact rm2 (by assumption) (Nat.le_of_ble_eq_true rfl) | exact rm1 (by assumption) (Nat.le_of_ble_eq_true rfl) | (show _ + _ < _; simp only [units_deeper]; omega))) | decide +kernel)); intro _ _ _ _ _ _ _ _ _ _ z9hC'; (have z9hlen' := CellsV.length z9hC'); (simp only [List.length_replicate] at z9hlen'))
  trivial
theorem m_addL {A : Around} {news : Led} {l b : Addr} {vs ws : List Value} {n n' : Nat} {Q : Value → Shared → Prop} (F : Fr h₀ L s.heap m) (N : News h₀ L s.heap news) (ha : (l, listOf vs.toArray n) ∈ news) (hb : (b, listOf ws.toArray n') ∈ news) (hsz : vs.length + ws.length ≤ 5000)
    (h : ∀ D h', Fr h₀ L h' m → News h₀ L h' ((D, listOf (vs ++ ws).toArray 0) :: news) → (∀ p ∈ news, p.1 < D) → Q (.ref D) { s with heap := h' }) : wpAny (model prog w) A (binaryOp .Add (.ref l) (.ref b)) Q E s :=
  add_lists F N (N.isList ha) (N.isList hb) (fun h' F' N' => h _ h' F' N' fun p hp => Heap.lt_size (N p hp).1) (by rw [sizeLine_eq]; (first | lia | omega))
theorem rg21 : True := by
  k_with "binaryOp Add ref ref" => (k_here; (with_reducible show wpAny _ _ (binaryOp _ (Value.ref _) (Value.ref _)) _ _ _); k_dflt (refine' m_addL ?q9zF ?q9zN ?q9za ?q9zb ?q9zz ?_); (case q9zF => k_asm); (case q9zN => k_asm); (case q9za => k_mem); (case q9zb => k_mem); (case q9zz => omega); intro _ _ _ _ z9l1; (try k_lt z9l1); (try k_sweep))
  k_with "call builtin:len" => (k_here; (with_reducible show wpAny _ _ (call (Value.builtin "len") [Value.ref _]) _ _ _); k_dflt (refine' kst_len ?q9k1 ?q9k2 rfl ?q9k4 ?_; (case q9k1 => k_asm); (case q9k2 => k_mem); (case q9k4 => ((try simp only [List.length_append, List.length_cons, List.length_nil]); omega)); k_whole))
  k_with "ite" => first | (refine ite_pos (by first | omega | (simp only [beq_iff_eq, decide_eq_true_eq]; omega)) ?_; walk_say "BY OMEGA") | (refine ite_neg (by first | omega | (simp only [beq_iff_eq, decide_eq_true_eq]; omega)) ?_; walk_say "BY OMEGA")
  trivial
theorem fixLast_len : ∀ cs : List Cell, (fixLast cs).length = cs.length
  | [] => rfl
  | [c] => rfl
  | c :: d :: r => congrArg (· + 1) (fixLast_len (d :: r))
theorem fixFirst_len (cs : List Cell) : (fixFirst cs).length = cs.length := by cases cs <;> rfl
theorem sliceC_len (cs : List Cell) (lo hi : Nat) : (sliceC cs lo hi).length = min hi cs.length - lo := by
  unfold sliceC; rw [fixLast_len, fixFirst_len, List.length_drop, List.length_take]
theorem cutC_len (cs : List Cell) (k : Nat) : (cutC cs k).length ≤ k := by
  unfold cutC; split
  · rw [sliceC_len]; (first | lia | omega)
  · (first | lia | omega)
noncomputable def filledC (cs : List Cell) (k : Nat) : List Cell := cutC cs k ++ List.replicate (k - (cutC cs k).length) blankC
theorem status_filled_ok {news : Led} {lc : Addr} {cvs : List Value} {cc : List Cell} {nc k t0 : Nat} {bg : Int} {pv : Value} (B : Below A₀ base outer h₀) (F : Fr h₀ L s.heap m) (X : (Mine.frag.heap_1 w.params).In h₀) (N : News h₀ L s.heap news) (T : Top p loose mean mg mb h₀) (hk : cs.kind = .function)
   (hd : dp + 6 < recursionLimit) (hu : un + 120 < cLine)
   (hlc : (lc, listOf cvs.toArray nc) ∈ news) (hC : CellsV news bg cvs cc) (hp : PenV news pv bg) (hl8 : cvs.length ≤ 200) (hk8 : k ≤ 900)
   (hret : ∀ l vs n news' h' tk', Fr h₀ L h' m → News h₀ L h' news' → (∀ q ∈ news, q ∈ news') → (l, listOf vs.toArray n) ∈ news' → CellsV news' bg vs (filledC cc k) → Q (.ref l) { s with heap := h', toks := tk' }) :
   wpAny (model prog w) (ktrTop dp un gd cn cs L a ccd cl outer) (call (.ref 490) [.ref lc, .int (k : Int) t0, pv]) Q E s := by
  have hcl := cutC_len cc k
  refine wpAny_call ?_
  k_dflt ktr_enter
  k_steps
  rename CellsV _ _ _ (List.replicate _ _) => hB
  rename CellsV _ _ _ (cutC _ _) => hA
  rename News h₀ _ _ _ => kN
  rename ∀ q ∈ news, q ∈ _ => hs1
  have hlA := hA.length
  refine hret _ _ _ _ _ _ (by assumption) kN ?_ (.head _) ?_
  · intro q hq; exact List.mem_cons_of_mem _ (m_tr (by assumption) (hs1 q hq))
  · unfold filledC
    rw [hlA] at hB
    have e : ((k : Int) - ((cutC cc k).length : Int)).toNat = k - (cutC cc k).length := by omega
    rw [e] at hB
    exact (hA.mono (fun q hq => List.mem_cons_of_mem _ (m_tr (by assumption) hq))).append (hB.mono (fun q hq => List.mem_cons_of_mem _ hq))

end
end
section
theorem rg22 : True := by
  k_with_none
  k_with "omega" => (first | decide | (with_reducible first | exact Int.natCast_nonneg _ | exact rm1 ‹_› (by decide) | exact rm2 ‹_› (by decide) | exact rm3 ‹_› (by decide) | exact om_le ‹_› (by decide) | exact om_63 ‹_› (by decide) | exact om_eqle ‹_› ‹_› (by decide) | exact om_eq63 ‹_› ‹_› (by decide) | exact om_add ‹_› (by decide) | exact om_ne ‹_› (by decide) | exact om_le2 ‹_› ‹_› (by decide) | exact om_le2s ‹_› ‹_› (by decide) | exact om_le2_63 ‹_› ‹_› (by decide) | exact om_le2s_63 ‹_› ‹_› (by decide) | exact om_z62 ‹_› (by decide) | exact om_zn62 | exact om_kle ‹_› (by decide) | exact om_neg1 | exact om_pos | exact om_at ‹_› (by decide) | exact om_at0 ‹_› | exact om_add63 ‹_› (by decide) | exact Nat.ne_of_gt (by k_extra "pick") | exact Nat.ne_of_lt (by k_extra "pick")))
  k_with "ktr_room" => (first | exact rm0 (by assumption) | exact rm1 (by assumption) (Nat.le_of_ble_eq_true rfl))
  k_with "k_ne" => ((refine neN ?_; (try dsimp only); first | exact Nat.ne_of_gt (by assumption) | exact Nat.ne_of_lt (by assumption) | exact Nat.ne_of_gt (And.left (by assumption)) | exact Nat.ne_of_lt (And.left (by assumption)) | exact Nat.ne_of_gt (And.left (And.right (by assumption))) | exact Nat.ne_of_lt (And.left (And.right (by assumption))) | exact Nat.ne_of_gt (And.right (by assumption)) | exact Nat.ne_of_lt (And.right (by assumption)) | exact Nat.ne_of_gt (And.left (And.right (And.right (by assumption)))) | exact Nat.ne_of_lt (And.left (And.right (And.right (by assumption)))) | exact Nat.ne_of_gt (And.right (And.right (by assumption))) | exact Nat.ne_of_lt (And.right (And.right (by assumption)))))
  k_with "pick" => (with_reducible first | assumption | exact And.left ‹_› | exact And.left (And.right ‹_›) | exact And.left (And.right (And.right ‹_›)) | exact And.left (And.right (And.right (And.right ‹_›))) | exact And.left (And.right (And.right (And.right (And.right ‹_›)))) | exact And.left (And.right (And.right (And.right (And.right (And.right ‹_›))))) | exact And.left (And.right (And.right (And.right (And.right (And.right (And.right ‹_›)))))) | exact And.left (And.right (And.right (And.right (And.right (And.right (And.right (And.right ‹_›))))))) | exact And.left (And.right (And.right (And.right (And.right (And.right (And.right (And.right (And.right ‹_›)))))))) | exact And.left (And.right (And.right (And.right (And.right (And.right (And.right (And.right (And.right (And.right ‹_›))))))))) | exact And.left (And.right (And.right (And.right (And.right (And.right (And.right (And.right (And.right (And.right (And.right ‹_›)))))))))) | exact (And.right ‹_›) | exact (And.right (And.right ‹_›)) | exact (And.right (And.right (And.right ‹_›))) | exact (And.right (And.right (And.right (And.right ‹_›)))) | exact (And.right (And.right (And.right (And.right (And.right ‹_›))))) | exact (And.right (And.right (And.right (And.right (And.right (And.right ‹_›)))))) | exact (And.right (And.right (And.right (And.right (And.right (And.right (And.right ‹_›))))))) | exact (And.right (And.right (And.right (And.right (And.right (And.right (And.right (And.right ‹_›)))))))) | exact (And.right (And.right (And.right (And.right (And.right (And.right (And.right (And.right (And.right ‹_›))))))))) | exact (And.right (And.right (And.right (And.right (And.right (And.right (And.right (And.right (And.right (And.right ‹_›)))))))))))
  k_with "k_room" => (((simp only [depth_under_make, depth_under_kw, depth_in1, depth_deeper, depth_caller]); omega))
  k_with "k_all" => (assumption)
  k_with "eval Name" => (k_here; dsimp only)
  k_with "eval Call" => (k_here; dsimp only)
  k_with "eval Constant int" => (k_here; dsimp only)
  k_with "eval Attribute Name" => (k_here; dsimp only)
  k_with "eval BinOp" => (k_here; dsimp only)
  k_with "storeName" => (k_here; dsimp only)
  k_with "setAttr ref" => (k_here; dsimp only)
  k_with "eval Compare" => (k_here; dsimp only)
  k_with "isTrue Compare" => (k_here; dsimp only)
  k_with "eval Subscript" => (k_here; dsimp only)
  k_with "execs cons" => (k_here; first | (with_reducible rename News _ _ _ _ => nZ9; dsimp only at nZ9) | dsimp only | ((with_reducible show wpAny _ _ _ _ _ (Shared.mk _ _ _ (HAdd.hAdd _ _) _)); refine gen_toks ?_; intro _))
  k_with "eval Name" => (k_here; (fail_if_success (with_reducible show wpAny _ _ (eval _ (compEnvC _ _ _ _)) _ _ _)); (try dsimp only); k_dflt (first | (refine' nameX_L ?q9F ?q9v ?_ ?q9a ?q9b; (case q9F => k_asm); (case q9a => rfl); (case q9b => rfl); (case q9v => rfl); k_whole) | (refine' nameX_K ?q9F ?q9X ?q9T ?q9e ?_ ?q9a ?q9b; (case q9F => k_asm); (case q9X => k_asm); (case q9T => k_asm); (case q9a => rfl); (case q9b => rfl); (case q9e => k_is); k_whole) | (refine' nameX_B ?q9F ?q9X ?q9T ?q9e ?q9v ?q9n ?_ ?q9a ?q9b; (case q9F => k_asm); (case q9X => k_asm); (case q9T => k_asm); (case q9a => rfl); (case q9b => rfl); (case q9e => k_is); (case q9v => boot_fast); (case q9n => decide); k_whole)))
  k_with "execs cons" => (k_here; (try (with_reducible rename News _ _ _ _ => nZ9; dsimp only at nZ9)); (try dsimp only); (try ((with_reducible show wpAny _ _ _ _ _ (Shared.mk _ _ _ (HAdd.hAdd _ _) _)); refine gen_toks ?_; intro _)); (with_reducible refine wpAny_execs_cons ?_); (try dsimp only))
  k_with "eval Constant int" => (k_here; (try dsimp only); refine wpAny_Constant_int ?_)
  k_with "spliced" => (k_here; (fail_if_success (with_reducible show wpAny _ _ (spliced (backTo _ (starEach (PySem.Expr.Starred _ _ :: _) _))) _ _ _)); k_dflt (first | refine args_cons ?_ | (refine args_nil ?_; try simp only [List.cons_append, List.nil_append])))
  k_with "subscriptTail" => (k_here; (with_reducible show wpAny _ _ (subscriptTail _ _ (Value.ref _) (Value.int _ _)) _ _ _); k_dflt (refine' item_tupleT ?q9t ?q9a ?q9b ?q9c ?q9d ?_; (case q9t => exact News.isTup (by k_asm) (by k_mem)); (case q9a => decide); (case q9b => decide); (case q9c => rfl); (case q9d => rfl); k_whole))
  k_with "storeName" => (k_here; (fail_if_success (with_reducible show wpAny _ _ (storeName _ _ (compEnvC _ _ _ _)) _ _ _)); (try dsimp only); k_dflt (refine' storeX_L ?q9F ?q9N ?_ ?q9a ?q9b; (case q9F => k_asm); (case q9N => k_asm); (case q9a => rfl); (case q9b => rfl); k_whole; intro z9h z9F z9N; (try k_sweep)))
  k_with "callWith ref" => (k_here; k_dflt (first | (refine' callWith_K ?q9a ?q9b ?_; (case q9a => k_asm); (case q9b => k_is); k_whole) | (refine' callWith_K0 ?q9a ?q9b ?_; (case q9a => k_in); (case q9b => k_is); k_whole) | (refine' callWith_M0 ?q9a ?q9b ?_; (case q9a => k_meth); (case q9b => k_is); k_whole; try dsimp only [List.nil_append, List.cons_append]) | (refine' callWith_M ?q9a ?q9b ?q9c ?q9d ?_; (case q9a => k_asm); (case q9b => k_asm); (case q9c => k_mem); (case q9d => k_is); k_whole)))
  k_with "truthy bool" => (with_reducible refine wpAny_truthy_bool ?_)
  k_with "k_mem" => first | with_reducible assumption | assumption
  k_with "subscriptTail" => (k_here; (with_reducible show wpAny _ _ (subscriptTail _ _ (Value.ref _) (Value.int _ _)) _ _ _); (with_unfolding_all refine' item_litK ?q9k1 ?q9k2 ?q9k3 ?q9k4 ?_ ?q9k6; (case q9k1 => exact News.isList (by k_asm) (by k_mem)); (case q9k2 => decide); (case q9k3 => decide); (case q9k4 => rfl); (case q9k6 => with_unfolding_all rfl); k_whole))
  k_with "callWith" => ((with_reducible show wpAny _ _ (callWith _ (Value.builtin _) (_ :: _) (backTo _ (starEach (_ :: _) _)) []) _ _ _); k_dflt (refine callWith_method1 ?_))
  trivial
section
variable {prog : Program} {w : World} {p : Program} {loose : List Str} {mean : ExcName → Option Value} {mg mb : Str → Option Value}
 {dp un : Nat} {gd : Option (List Code)} {cn : Str} {cs : Scope} {a : Addr} {ccd : Value} {cl : List (Str × Addr)} {outer : List Env} {A₀ : Around} {base h₀ : Heap} {L : Addr} {m : Str → Option Value} {s : Shared} {Q E : Value → Shared → Prop}
theorem rg23 : True := by
  k_with "k_mem" => first | with_reducible assumption | ((repeat (first | exact List.Mem.head _ | with_reducible assumption | exact List.mem_append_left _ (by assumption) | refine List.Mem.tail _ ?_ | refine List.mem_append_right _ ?_ | assumption | exact m_tr (by assumption) (by assumption) | exact m_tr (by assumption) (m_tr (by assumption) (by assumption)))); done)
  k_with "eval ListComp" => (k_here; k_dflt (refine LCg.ListComp_U (F₀ := by k_asm) (by rfl) (by decide) (by rfl) (by decide) (by rfl) ?_); k_dflt lcg_toSrc)
  k_with "CompSrc" => (k_here; k_dflt (refine' LCg.CompSrc.ledger (by rfl) (by k_asm) (by k_asm) (by k_mem) (by rw [List.size_toArray, PySem.sizeLine_eq]; first | omega | (have z9hz9 := IntsAre.length (by assumption); omega)) ?_); intro _)
  k_with "exec For Name Name cons nil" => (k_here; (rename Fr _ _ _ _ => z9lF'); (with_unfolding_all refine' For_invVF z9lF' ?q9k1 ?q9k2 ?_; (case q9k1 => exact rfl); (case q9k2 => exact rfl); k_whole))
  k_with "pyIter ref" => (refine stop_in ?_)
  trivial
noncomputable def DeckD (prog : Program) (w : World) (o : Obj) (ll : Addr) (mx : Int) : Prop := ∃ t3 : Nat, Obj.IsDictOf (PySem.strKind prog w) o [(Str.ofString "left", Value.ref ll), (Str.ofString "mixed", Value.int mx t3)]
theorem law_deck_ok {news : Led} {sc : Addr} {its : List Value} {ns : List Int} (B : Below A₀ base outer h₀) (F : Fr h₀ L s.heap m) (X : (Mine.frag.heap_1 w.params).In h₀) (N : News h₀ L s.heap news) (T : Top p loose mean mg mb h₀) (hk : cs.kind = .function)
   (hd : dp + 3 < recursionLimit) (hu : un + 100 < cLine)
   (hL : h₀.IsList sc its.toArray) (hI : IntsAre its ns) (hl : ns.length ≤ 63)
   (hret : ∀ (d ll : Addr) (o : Obj) (mx : Int) (nl : Nat) (lv : List Value) (left : List Int) h' tk', Fr h₀ L h' m → News h₀ L h' ((d, o) :: (ll, listOf lv.toArray nl) :: news) → DeckD prog w o ll mx → (d == sysModules) = false → @Ne Nat ll d → (∀ p ∈ news, @Ne Nat p.1 d) → (∀ p ∈ news, @Ne Nat p.1 ll) →
     IntsAre lv left → (∀ x ∈ left, 0 ≤ x ∧ x < 1000003) → left.length ≤ 32 → 0 ≤ mx → mx < 1000003 → Q (.ref d) { s with heap := h', toks := tk' }) :
   wpAny (model prog w) (ktrTop dp un gd cn cs L a ccd cl outer) (call (.ref 558) [.ref sc]) Q E s := by
  refine wpAny_call ?_
  k_dflt ktr_enter
  rename Fr h₀ _ _ _ => FG
  have hL2 := Fr.lst FG hL
  k_steps
  rename IntsAre _ (List.take 32 ns) => hI9
  have hl9 : (List.take 32 ns).length ≤ 32 := by rw [List.length_take]; omega
  generalize List.take 32 ns = cs9 at hI9 hl9
  have hz9 := hI9.length
  refine comp_inv (fun i ys nw => IntsAre ys ((cs9.take i).map (fun c => c.fmod 1000003)) ∧ (∀ q ∈ _, q ∈ nw)) _ ⟨.nil, fun q hq => hq⟩ ?_ ?_
  · rintro i v ys nw a0 oI C oC D m₂ h tk E' hi hv ⟨hI2, hsub⟩ hC hx F2 N2 off ne
    (try ((show wpAny _ _ _ _ _ _); k_fold))
    have hil : i < cs9.length := by rw [List.size_toArray] at hi; omega
    obtain ⟨t0, hx9⟩ := hI9.get i (cs9[i]'hil) (List.getElem?_eq_getElem hil)
    have ev : v = .int (cs9[i]'hil) t0 := by rw [List.getElem?_toArray, hx9] at hv; exact (Option.some.inj hv).symm
    subst ev
    k_steps
    refine LCg.CompEnd.intro (by assumption) N2 nw (fun q hq => hq) off (.inr ⟨_, hsub _ (.head _), rfl, _, rfl⟩) ⟨?_, hsub⟩
    rw [List.take_add_one, List.getElem?_eq_getElem hil, List.map_append]
    exact hI2.append (.cons _ _ .nil)
  · rintro ys nw ⟨hI2, hsub⟩
    rw [List.size_toArray, hz9, List.take_length] at hI2
    k_steps
    rename News _ _ _ _ => kN
    rename Fr _ _ _ _ => kF
    refine loop_st (σ := Int × Nat) (fun _ => (_, LCg.lst ys) :: nw) (fun c => [(Str.ofString "mixed", .int c.1 c.2)]) [] (fun _ c => 0 ≤ c.1 ∧ c.1 < 1000003) (8017, _) rfl (fun _ => .head _) kF (fun q hq => kN q (.tail _ hq)) (ps1 rfl) (show (0 : Int) ≤ 8017 ∧ (8017 : Int) < 1000003 by decide) ?_ ?_
    · rintro i v ⟨mx, tm⟩ u h tk own hv hown ⟨h0, h1⟩ F2 N2
      (try ((show wpAny _ _ _ _ _ _); k_fold))
      have hil : i < (cs9.map (fun c => c.fmod 1000003)).length := by rw [← hI2.length]; exact (List.getElem?_eq_some_iff.mp hv).1
      obtain ⟨t0, hx9⟩ := hI2.get i _ (List.getElem?_eq_getElem hil)
      have hb : 0 ≤ (cs9.map (fun c => c.fmod 1000003))[i] ∧ (cs9.map (fun c => c.fmod 1000003))[i] < 1000003 := by
        rw [List.getElem_map]
        exact ⟨Int.fmod_nonneg_of_pos _ (by decide), Int.fmod_lt_of_pos _ (by decide)⟩
      generalize (cs9.map (fun c => c.fmod 1000003))[i] = ci at hx9 hb
      have ev : v = .int ci t0 := by rw [hx9] at hv; exact (Option.some.inj hv).symm
      subst ev
      obtain ⟨hb0, hb1⟩ := hb
      k_steps
      rename News _ _ _ _ => kN
      refine ⟨(_, _), _, _, _, _, rfl, by assumption, kN, fun q hq => List.mem_append.mpr (.inl hq), fun q hq => List.mem_append.mpr (.inr hq), hown, ps1 rfl, ?_, Int.fmod_nonneg_of_pos _ (by decide), Int.fmod_lt_of_pos _ (by decide)⟩
      intro z q1 q2 q3
      (show (if z = _ then _ else _) = _)
      have q4 : z ≠ Str.ofString "mixed" := lookup_ne (ps := [(Str.ofString "mixed", _)]) q2 (.head _)
      rw [if_neg q4]
      exact frmS_out q1 (by simp [q4]) q3
    · rintro ⟨mx, tm⟩ u h tk ⟨h0, h1⟩ F2 N2
      k_steps
      rename News h₀ _ _ _ => kN
      rename _ ∧ _ => hlt
      have hz8 := hI2.length
      rw [List.length_map] at hz8
      have hoff : ∀ {D : Addr} {l : Led}, LCg.Off1 D l → ∀ p ∈ l, p.1 ≠ D := by
        intro D l
        induction l with
        | nil => exact fun _ _ hp => nomatch hp
        | cons q r ih => exact fun ho p hp => (List.mem_cons.mp hp).elim (fun e => e ▸ ho.1) (ih ho.2 p)
      rename LCg.Off1 _ _ => ho1
      have hall := lt_of_all hlt.2
      refine hret _ _ _ _ ys.length _ _ _ _ (by assumption) (news_sub kN ?_) ⟨_, by assumption⟩ (by assumption) (Nat.ne_of_lt hlt.1) (fun q hq => Nat.ne_of_lt (hall q (hsub q (.tail _ hq)))) (fun q hq => hoff ho1 q (hsub q (.tail _ hq))) hI2 ?_ (by rw [List.length_map]; exact hl9) h0 h1
      · intro q hq
        rcases List.mem_cons.mp hq with rfl | hq
        · exact .head _
        · rcases List.mem_cons.mp hq with rfl | hq
          · exact .tail _ (.head _)
          · exact .tail _ (.tail _ (hsub q (.tail _ hq)))
      · intro x hx
        obtain ⟨y, hy, rfl⟩ := List.mem_map.mp hx
        exact ⟨Int.fmod_nonneg_of_pos _ (by decide), Int.fmod_lt_of_pos _ (by decide)⟩

end
end
section
theorem rg24 : True := by
  k_with_none
  k_with "omega" => (first | decide | (with_reducible first | exact Int.natCast_nonneg _ | exact rm1 ‹_› (by decide) | exact rm2 ‹_› (by decide) | exact rm3 ‹_› (by decide) | exact om_le ‹_› (by decide) | exact om_63 ‹_› (by decide) | exact om_eqle ‹_› ‹_› (by decide) | exact om_eq63 ‹_› ‹_› (by decide) | exact om_add ‹_› (by decide) | exact om_ne ‹_› (by decide) | exact om_le2 ‹_› ‹_› (by decide) | exact om_le2s ‹_› ‹_› (by decide) | exact om_le2_63 ‹_› ‹_› (by decide) | exact om_le2s_63 ‹_› ‹_› (by decide) | exact om_z62 ‹_› (by decide) | exact om_zn62 | exact om_kle ‹_› (by decide) | exact om_neg1 | exact om_pos | exact om_at ‹_› (by decide) | exact om_at0 ‹_› | exact om_add63 ‹_› (by decide) | exact Nat.ne_of_gt (by k_extra "pick") | exact Nat.ne_of_lt (by k_extra "pick")))
  k_with "ktr_room" => (first | exact rm0 (by assumption) | exact rm1 (by assumption) (Nat.le_of_ble_eq_true rfl))
  k_with "k_ne" => ((refine neN ?_; (try dsimp only); first | exact Nat.ne_of_gt (by assumption) | exact Nat.ne_of_lt (by assumption) | exact Nat.ne_of_gt (And.left (by assumption)) | exact Nat.ne_of_lt (And.left (by assumption)) | exact Nat.ne_of_gt (And.left (And.right (by assumption))) | exact Nat.ne_of_lt (And.left (And.right (by assumption))) | exact Nat.ne_of_gt (And.right (by assumption)) | exact Nat.ne_of_lt (And.right (by assumption)) | exact Nat.ne_of_gt (And.left (And.right (And.right (by assumption)))) | exact Nat.ne_of_lt (And.left (And.right (And.right (by assumption)))) | exact Nat.ne_of_gt (And.right (And.right (by assumption))) | exact Nat.ne_of_lt (And.right (And.right (by assumption)))))
  k_with "pick" => (with_reducible first | assumption | exact And.left ‹_› | exact And.left (And.right ‹_›) | exact And.left (And.right (And.right ‹_›)) | exact And.left (And.right (And.right (And.right ‹_›))) | exact And.left (And.right (And.right (And.right (And.right ‹_›)))) | exact And.left (And.right (And.right (And.right (And.right (And.right ‹_›))))) | exact And.left (And.right (And.right (And.right (And.right (And.right (And.right ‹_›)))))) | exact And.left (And.right (And.right (And.right (And.right (And.right (And.right (And.right ‹_›))))))) | exact And.left (And.right (And.right (And.right (And.right (And.right (And.right (And.right (And.right ‹_›)))))))) | exact And.left (And.right (And.right (And.right (And.right (And.right (And.right (And.right (And.right (And.right ‹_›))))))))) | exact And.left (And.right (And.right (And.right (And.right (And.right (And.right (And.right (And.right (And.right (And.right ‹_›)))))))))) | exact (And.right ‹_›) | exact (And.right (And.right ‹_›)) | exact (And.right (And.right (And.right ‹_›))) | exact (And.right (And.right (And.right (And.right ‹_›)))) | exact (And.right (And.right (And.right (And.right (And.right ‹_›))))) | exact (And.right (And.right (And.right (And.right (And.right (And.right ‹_›)))))) | exact (And.right (And.right (And.right (And.right (And.right (And.right (And.right ‹_›))))))) | exact (And.right (And.right (And.right (And.right (And.right (And.right (And.right (And.right ‹_›)))))))) | exact (And.right (And.right (And.right (And.right (And.right (And.right (And.right (And.right (And.right ‹_›))))))))) | exact (And.right (And.right (And.right (And.right (And.right (And.right (And.right (And.right (And.right (And.right ‹_›)))))))))))
  k_with "k_room" => (((simp only [depth_under_make, depth_under_kw, depth_in1, depth_deeper, depth_caller]); omega))
  k_with "k_all" => (assumption)
  k_with "eval Name" => (k_here; dsimp only)
  k_with "eval Call" => (k_here; dsimp only)
  k_with "eval Constant int" => (k_here; dsimp only)
  k_with "eval Attribute Name" => (k_here; dsimp only)
  k_with "eval BinOp" => (k_here; dsimp only)
  k_with "storeName" => (k_here; dsimp only)
  k_with "setAttr ref" => (k_here; dsimp only)
  k_with "eval Compare" => (k_here; dsimp only)
  k_with "isTrue Compare" => (k_here; dsimp only)
  k_with "eval Subscript" => (k_here; dsimp only)
  k_with "execs cons" => (k_here; first | (with_reducible rename News _ _ _ _ => nZ9; dsimp only at nZ9) | dsimp only | ((with_reducible show wpAny _ _ _ _ _ (Shared.mk _ _ _ (HAdd.hAdd _ _) _)); refine gen_toks ?_; intro _))
  k_with "eval Name" => (k_here; (fail_if_success (with_reducible show wpAny _ _ (eval _ (compEnvC _ _ _ _)) _ _ _)); (try dsimp only); k_dflt (first | (refine' nameX_L ?q9F ?q9v ?_ ?q9a ?q9b; (case q9F => k_asm); (case q9a => rfl); (case q9b => rfl); (case q9v => rfl); k_whole) | (refine' nameX_K ?q9F ?q9X ?q9T ?q9e ?_ ?q9a ?q9b; (case q9F => k_asm); (case q9X => k_asm); (case q9T => k_asm); (case q9a => rfl); (case q9b => rfl); (case q9e => k_is); k_whole) | (refine' nameX_B ?q9F ?q9X ?q9T ?q9e ?q9v ?q9n ?_ ?q9a ?q9b; (case q9F => k_asm); (case q9X => k_asm); (case q9T => k_asm); (case q9a => rfl); (case q9b => rfl); (case q9e => k_is); (case q9v => boot_fast); (case q9n => decide); k_whole)))
  k_with "execs cons" => (k_here; (try (with_reducible rename News _ _ _ _ => nZ9; dsimp only at nZ9)); (try dsimp only); (try ((with_reducible show wpAny _ _ _ _ _ (Shared.mk _ _ _ (HAdd.hAdd _ _) _)); refine gen_toks ?_; intro _)); (with_reducible refine wpAny_execs_cons ?_); (try dsimp only))
  k_with "eval Constant int" => (k_here; (try dsimp only); refine wpAny_Constant_int ?_)
  k_with "spliced" => (k_here; (fail_if_success (with_reducible show wpAny _ _ (spliced (backTo _ (starEach (PySem.Expr.Starred _ _ :: _) _))) _ _ _)); k_dflt (first | refine args_cons ?_ | (refine args_nil ?_; try simp only [List.cons_append, List.nil_append])))
  k_with "subscriptTail" => (k_here; (with_reducible show wpAny _ _ (subscriptTail _ _ (Value.ref _) (Value.int _ _)) _ _ _); k_dflt (refine' item_tupleT ?q9t ?q9a ?q9b ?q9c ?q9d ?_; (case q9t => exact News.isTup (by k_asm) (by k_mem)); (case q9a => decide); (case q9b => decide); (case q9c => rfl); (case q9d => rfl); k_whole))
  k_with "storeName" => (k_here; (fail_if_success (with_reducible show wpAny _ _ (storeName _ _ (compEnvC _ _ _ _)) _ _ _)); (try dsimp only); k_dflt (refine' storeX_L ?q9F ?q9N ?_ ?q9a ?q9b; (case q9F => k_asm); (case q9N => k_asm); (case q9a => rfl); (case q9b => rfl); k_whole; intro z9h z9F z9N; (try k_sweep)))
  k_with "callWith ref" => (k_here; k_dflt (first | (refine' callWith_K ?q9a ?q9b ?_; (case q9a => k_asm); (case q9b => k_is); k_whole) | (refine' callWith_K0 ?q9a ?q9b ?_; (case q9a => k_in); (case q9b => k_is); k_whole) | (refine' callWith_M0 ?q9a ?q9b ?_; (case q9a => k_meth); (case q9b => k_is); k_whole; try dsimp only [List.nil_append, List.cons_append]) | (refine' callWith_M ?q9a ?q9b ?q9c ?q9d ?_; (case q9a => k_asm); (case q9b => k_asm); (case q9c => k_mem); (case q9d => k_is); k_whole)))
  k_with "truthy bool" => (with_reducible refine wpAny_truthy_bool ?_)
  k_with "k_mem" => first | with_reducible assumption | assumption
  k_with "subscriptTail" => (k_here; (with_reducible show wpAny _ _ (subscriptTail _ _ (Value.ref _) (Value.int _ _)) _ _ _); (with_unfolding_all refine' item_litK ?q9k1 ?q9k2 ?q9k3 ?q9k4 ?_ ?q9k6; (case q9k1 => exact News.isList (by k_asm) (by k_mem)); (case q9k2 => decide); (case q9k3 => decide); (case q9k4 => rfl); (case q9k6 => with_unfolding_all rfl); k_whole))
  k_with "callWith" => ((with_reducible show wpAny _ _ (callWith _ (Value.builtin _) (_ :: _) (backTo _ (starEach (_ :: _) _)) []) _ _ _); k_dflt (refine callWith_method1 ?_))
  trivial
section
variable {prog : Program} {w : World} {p : Program} {loose : List Str} {mean : ExcName → Option Value} {mg mb : Str → Option Value}
 {dp un : Nat} {gd : Option (List Code)} {cn : Str} {cs : Scope} {a : Addr} {ccd : Value} {cl : List (Str × Addr)} {outer : List Env} {A₀ : Around} {base h₀ : Heap} {L : Addr} {m : Str → Option Value} {s : Shared} {Q E : Value → Shared → Prop}
theorem rg25 : True := by
  k_with "k_mem" => first | with_reducible assumption | ((repeat (first | exact List.Mem.head _ | with_reducible assumption | exact List.mem_append_left _ (by assumption) | refine List.Mem.tail _ ?_ | refine List.mem_append_right _ ?_ | assumption | exact m_tr (by assumption) (by assumption) | exact m_tr (by assumption) (m_tr (by assumption) (by assumption)))); done)
  k_with "ite" => first | (refine ite_pos (by first | omega | (simp only [beq_iff_eq, decide_eq_true_eq]; omega)) ?_; walk_say "BY OMEGA") | (refine ite_neg (by first | omega | (simp only [beq_iff_eq, decide_eq_true_eq]; omega)) ?_; walk_say "BY OMEGA")
  trivial
theorem pop0 {A : Around} {news news' : Led} {D : Addr} {n : Nat} {u : Tok} {r : List Value} {y : Value} {Q : Value → Shared → Prop} (F : Fr h₀ L s.heap m) (N : News h₀ L s.heap news) (U : Upd D (listOf (y :: r).toArray n) (listOf r.toArray (n + 1)) news news')
    (hz : r.length ≤ 1000) (h : ∀ h', Fr h₀ L h' m → News h₀ L h' news' → Q y { s with heap := h' }) : wpAny (model prog w) A (call (.builtin "list.pop") [.ref D, .int 0 u]) Q E s := by
  refine kl_popAt (k := 0) (p := []) (q := r) (y := y) F N rfl ?_ rfl U (by rw [sizeLine_eq]; simp; (first | lia | omega)) h
  simp [seqIndex?]
theorem rg26 : True := by
  k_with "call builtin:list.pop" => (k_here; (with_reducible show wpAny _ _ (call (Value.builtin _) [Value.ref _, Value.int 0 _]) _ _ _); k_dflt (refine' pop0 ?q9zF ?q9zN ?q9zU ?q9zz ?_; (case q9zF => k_asm); (case q9zN => k_asm); (case q9zU => k_upd); (case q9zz => omega)); intro _ _ _)
  trivial
structure DeckS where
  o : Obj
  mx : Int
  nl : Nat
  lv : List Value
  left : List Int
noncomputable def DeckOk (prog : Program) (w : World) (ll : Addr) (q : DeckS) : Prop := DeckD prog w q.o ll q.mx ∧ IntsAre q.lv q.left ∧ (∀ x ∈ q.left, 0 ≤ x ∧ x < 1000003) ∧ q.left.length ≤ 32 ∧ 0 ≤ q.mx ∧ q.mx < 1000003
noncomputable def deckL (d ll : Addr) (q : DeckS) (rest : Led) : Led := (d, q.o) :: (ll, listOf q.lv.toArray q.nl) :: rest
theorem law_draw_ok {rest : Led} {d ll : Addr} {q : DeckS} {many : Int} {t0 : Nat} (B : Below A₀ base outer h₀) (F : Fr h₀ L s.heap m) (X : (Mine.frag.heap_1 w.params).In h₀) (N : News h₀ L s.heap (deckL d ll q rest)) (T : Top p loose mean mg mb h₀) (hk : cs.kind = .function)
   (hd : dp + 3 < recursionLimit) (hu : un + 100 < cLine)
   (hq : DeckOk prog w ll q) (hlo : (d == sysModules) = false) (hne : @Ne Nat ll d) (ho1 : ∀ p ∈ rest, @Ne Nat p.1 d) (ho2 : ∀ p ∈ rest, @Ne Nat p.1 ll) (h10 : 1 ≤ many) (h11 : many ≤ 20)
   (hret : ∀ v t' q' h' tk', Fr h₀ L h' m → News h₀ L h' (deckL d ll q' rest) → DeckOk prog w ll q' → 0 ≤ v → v < many → Q (.int v t') { s with heap := h', toks := tk' }) :
   wpAny (model prog w) (ktrTop dp un gd cn cs L a ccd cl outer) (call (.ref 565) [.ref d, .int many t0]) Q E s := by
  obtain ⟨o, mx, nl, lv, left⟩ := q
  obtain ⟨⟨t3, hD⟩, hi, hb, hl8, hm0, hm1⟩ := hq
  unfold deckL at N
  dsimp only at *
  cases hi with
  | nil =>
    refine wpAny_call ?_
    k_dflt ktr_enter
    k_steps
    all_goals (rename News h₀ _ _ _ => kN)
    all_goals exact hret _ _ ⟨_, _, _, _, _⟩ _ _ (by assumption) (news_tl kN) ⟨⟨_, by assumption⟩, .nil, hb, hl8, Int.fmod_nonneg_of_pos _ (by decide), Int.fmod_lt_of_pos _ (by decide)⟩ (Int.fmod_nonneg_of_pos _ (by omega)) (Int.fmod_lt_of_pos _ (by omega))
  | cons n9 t9 hr =>
    have hrl := hr.length
    have hb9 := hb _ (.head _)
    simp only [List.length_cons] at hl8
    refine wpAny_call ?_
    k_dflt ktr_enter
    k_steps
    all_goals (rename News h₀ _ _ _ => kN)
    all_goals first | exact hret _ _ ⟨_, _, _, _, _⟩ _ _ (by assumption) (news_tl kN) ⟨⟨_, hD⟩, hr, fun x hx => hb x (.tail _ hx), Nat.le_of_succ_le hl8, hm0, hm1⟩ (Int.fmod_nonneg_of_pos _ (by omega)) (Int.fmod_lt_of_pos _ (by omega)) | exact hret _ _ ⟨_, _, _, _, _⟩ _ _ (by assumption) (news_tl kN) ⟨⟨_, by assumption⟩, .cons _ _ hr, hb, hl8, Int.fmod_nonneg_of_pos _ (by decide), Int.fmod_lt_of_pos _ (by decide)⟩ (Int.fmod_nonneg_of_pos _ (by omega)) (Int.fmod_lt_of_pos _ (by omega))

end
end
section
theorem rg27 : True := by
  k_with_none
  k_with "omega" => (first | decide | (with_reducible first | exact Int.natCast_nonneg _ | exact rm1 ‹_› (by decide) | exact rm2 ‹_› (by decide) | exact rm3 ‹_› (by decide) | exact om_le ‹_› (by decide) | exact om_63 ‹_› (by decide) | exact om_eqle ‹_› ‹_› (by decide) | exact om_eq63 ‹_› ‹_› (by decide) | exact om_add ‹_› (by decide) | exact om_ne ‹_› (by decide) | exact om_le2 ‹_› ‹_› (by decide) | exact om_le2s ‹_› ‹_› (by decide) | exact om_le2_63 ‹_› ‹_› (by decide) | exact om_le2s_63 ‹_› ‹_› (by decide) | exact om_z62 ‹_› (by decide) | exact om_zn62 | exact om_kle ‹_› (by decide) | exact om_neg1 | exact om_pos | exact om_at ‹_› (by decide) | exact om_at0 ‹_› | exact om_add63 ‹_› (by decide) | exact Nat.ne_of_gt (by k_extra "pick") | exact Nat.ne_of_lt (by k_extra "pick")))
  k_with "ktr_room" => (first | exact rm0 (by assumption) | exact rm1 (by assumption) (Nat.le_of_ble_eq_true rfl))
  k_with "k_ne" => ((refine neN ?_; (try dsimp only); first | exact Nat.ne_of_gt (by assumption) | exact Nat.ne_of_lt (by assumption) | exact Nat.ne_of_gt (And.left (by assumption)) | exact Nat.ne_of_lt (And.left (by assumption)) | exact Nat.ne_of_gt (And.left (And.right (by assumption))) | exact Nat.ne_of_lt (And.left (And.right (by assumption))) | exact Nat.ne_of_gt (And.right (by assumption)) | exact Nat.ne_of_lt (And.right (by assumption)) | exact Nat.ne_of_gt (And.left (And.right (And.right (by assumption)))) | exact Nat.ne_of_lt (And.left (And.right (And.right (by assumption)))) | exact Nat.ne_of_gt (And.right (And.right (by assumption))) | exact Nat.ne_of_lt (And.right (And.right (by assumption)))))
  k_with "pick" => (with_reducible first | assumption | exact And.left ‹_› | exact And.left (And.right ‹_›) | exact And.left (And.right (And.right ‹_›)) | exact And.left (And.right (And.right (And.right ‹_›))) | exact And.left (And.right (And.right (And.right (And.right ‹_›)))) | exact And.left (And.right (And.right (And.right (And.right (And.right ‹_›))))) | exact And.left (And.right (And.right (And.right (And.right (And.right (And.right ‹_›)))))) | exact And.left (And.right (And.right (And.right (And.right (And.right (And.right (And.right ‹_›))))))) | exact And.left (And.right (And.right (And.right (And.right (And.right (And.right (And.right (And.right ‹_›)))))))) | exact And.left (And.right (And.right (And.right (And.right (And.right (And.right (And.right (And.right (And.right ‹_›))))))))) | exact And.left (And.right (And.right (And.right (And.right (And.right (And.right (And.right (And.right (And.right (And.right ‹_›)))))))))) | exact (And.right ‹_›) | exact (And.right (And.right ‹_›)) | exact (And.right (And.right (And.right ‹_›))) | exact (And.right (And.right (And.right (And.right ‹_›)))) | exact (And.right (And.right (And.right (And.right (And.right ‹_›))))) | exact (And.right (And.right (And.right (And.right (And.right (And.right ‹_›)))))) | exact (And.right (And.right (And.right (And.right (And.right (And.right (And.right ‹_›))))))) | exact (And.right (And.right (And.right (And.right (And.right (And.right (And.right (And.right ‹_›)))))))) | exact (And.right (And.right (And.right (And.right (And.right (And.right (And.right (And.right (And.right ‹_›))))))))) | exact (And.right (And.right (And.right (And.right (And.right (And.right (And.right (And.right (And.right (And.right ‹_›)))))))))))
  k_with "k_room" => (((simp only [depth_under_make, depth_under_kw, depth_in1, depth_deeper, depth_caller]); omega))
  k_with "k_all" => (assumption)
  k_with "eval Name" => (k_here; dsimp only)
  k_with "eval Call" => (k_here; dsimp only)
  k_with "eval Constant int" => (k_here; dsimp only)
  k_with "eval Attribute Name" => (k_here; dsimp only)
  k_with "eval BinOp" => (k_here; dsimp only)
  k_with "storeName" => (k_here; dsimp only)
  k_with "setAttr ref" => (k_here; dsimp only)
  k_with "eval Compare" => (k_here; dsimp only)
  k_with "isTrue Compare" => (k_here; dsimp only)
  k_with "eval Subscript" => (k_here; dsimp only)
  k_with "execs cons" => (k_here; first | (with_reducible rename News _ _ _ _ => nZ9; dsimp only at nZ9) | dsimp only | ((with_reducible show wpAny _ _ _ _ _ (Shared.mk _ _ _ (HAdd.hAdd _ _) _)); refine gen_toks ?_; intro _))
  k_with "eval Name" => (k_here; (fail_if_success (with_reducible show wpAny _ _ (eval _ (compEnvC _ _ _ _)) _ _ _)); (try dsimp only); k_dflt (first | (refine' nameX_L ?q9F ?q9v ?_ ?q9a ?q9b; (case q9F => k_asm); (case q9a => rfl); (case q9b => rfl); (case q9v => rfl); k_whole) | (refine' nameX_K ?q9F ?q9X ?q9T ?q9e ?_ ?q9a ?q9b; (case q9F => k_asm); (case q9X => k_asm); (case q9T => k_asm); (case q9a => rfl); (case q9b => rfl); (case q9e => k_is); k_whole) | (refine' nameX_B ?q9F ?q9X ?q9T ?q9e ?q9v ?q9n ?_ ?q9a ?q9b; (case q9F => k_asm); (case q9X => k_asm); (case q9T => k_asm); (case q9a => rfl); (case q9b => rfl); (case q9e => k_is); (case q9v => boot_fast); (case q9n => decide); k_whole)))
  k_with "execs cons" => (k_here; (try (with_reducible rename News _ _ _ _ => nZ9; dsimp only at nZ9)); (try dsimp only); (try ((with_reducible show wpAny _ _ _ _ _ (Shared.mk _ _ _ (HAdd.hAdd _ _) _)); refine gen_toks ?_; intro _)); (with_reducible refine wpAny_execs_cons ?_); (try dsimp only))
  k_with "eval Constant int" => (k_here; (try dsimp only); refine wpAny_Constant_int ?_)
  k_with "spliced" => (k_here; (fail_if_success (with_reducible show wpAny _ _ (spliced (backTo _ (starEach (PySem.Expr.Starred _ _ :: _) _))) _ _ _)); k_dflt (first | refine args_cons ?_ | (refine args_nil ?_; try simp only [List.cons_append, List.nil_append])))
  k_with "subscriptTail" => (k_here; (with_reducible show wpAny _ _ (subscriptTail _ _ (Value.ref _) (Value.int _ _)) _ _ _); k_dflt (refine' item_tupleT ?q9t ?q9a ?q9b ?q9c ?q9d ?_; (case q9t => exact News.isTup (by k_asm) (by k_mem)); (case q9a => decide); (case q9b => decide); (case q9c => rfl); (case q9d => rfl); k_whole))
  k_with "storeName" => (k_here; (fail_if_success (with_reducible show wpAny _ _ (storeName _ _ (compEnvC _ _ _ _)) _ _ _)); (try dsimp only); k_dflt (refine' storeX_L ?q9F ?q9N ?_ ?q9a ?q9b; (case q9F => k_asm); (case q9N => k_asm); (case q9a => rfl); (case q9b => rfl); k_whole; intro z9h z9F z9N; (try k_sweep)))
  k_with "callWith ref" => (k_here; k_dflt (first | (refine' callWith_K ?q9a ?q9b ?_; (case q9a => k_asm); (case q9b => k_is); k_whole) | (refine' callWith_K0 ?q9a ?q9b ?_; (case q9a => k_in); (case q9b => k_is); k_whole) | (refine' callWith_M0 ?q9a ?q9b ?_; (case q9a => k_meth); (case q9b => k_is); k_whole; try dsimp only [List.nil_append, List.cons_append]) | (refine' callWith_M ?q9a ?q9b ?q9c ?q9d ?_; (case q9a => k_asm); (case q9b => k_asm); (case q9c => k_mem); (case q9d => k_is); k_whole)))
  k_with "truthy bool" => (with_reducible refine wpAny_truthy_bool ?_)
  k_with "k_mem" => first | with_reducible assumption | assumption
  k_with "subscriptTail" => (k_here; (with_reducible show wpAny _ _ (subscriptTail _ _ (Value.ref _) (Value.int _ _)) _ _ _); (with_unfolding_all refine' item_litK ?q9k1 ?q9k2 ?q9k3 ?q9k4 ?_ ?q9k6; (case q9k1 => exact News.isList (by k_asm) (by k_mem)); (case q9k2 => decide); (case q9k3 => decide); (case q9k4 => rfl); (case q9k6 => with_unfolding_all rfl); k_whole))
  k_with "callWith" => ((with_reducible show wpAny _ _ (callWith _ (Value.builtin _) (_ :: _) (backTo _ (starEach (_ :: _) _)) []) _ _ _); k_dflt (refine callWith_method1 ?_))
  trivial
section
variable {prog : Program} {w : World} {p : Program} {loose : List Str} {mean : ExcName → Option Value} {mg mb : Str → Option Value}
 {dp un : Nat} {gd : Option (List Code)} {cn : Str} {cs : Scope} {a : Addr} {ccd : Value} {cl : List (Str × Addr)} {outer : List Env} {A₀ : Around} {base h₀ : Heap} {L : Addr} {m : Str → Option Value} {s : Shared} {Q E : Value → Shared → Prop}
theorem unrEnd0 {h' : Heap} {m' : Str → Option Value} {I : Addr} {s₁ : Shared} {it : Obj} {post : Led} {rest : (Str → Option Value) → Led → Prop} {tk : Nat} (F : Fr h₀ L h' m') (N : News h₀ L h' ((I, it) :: post)) (off : AllLt I post) (r : rest m' post) : UnrEnd h₀ L s₁ I it rest { s₁ with heap := h', toks := tk } :=
  UnrEnd.intro F N post (fun p hp => hp) (fun p hp => Nat.ne_of_lt (lt_of_all off p hp)) r
theorem unrEnd1 {a : Addr × Obj} {h' : Heap} {m' : Str → Option Value} {I : Addr} {s₁ : Shared} {it : Obj} {post : Led} {rest : (Str → Option Value) → Led → Prop} {tk : Nat} (F : Fr h₀ L h' m') (N : News h₀ L h' (a :: (I, it) :: post)) (off : AllLt I post) (r : rest m' post) : UnrEnd h₀ L s₁ I it rest { s₁ with heap := h', toks := tk } :=
  UnrEnd.intro F N post (fun p hp => .tail _ hp) (fun p hp => Nat.ne_of_lt (lt_of_all off p hp)) r
theorem rg28 : True := by
  k_with "UnrEnd" => k_dflt (first | refine unrEnd0 (by assumption) (by assumption) (by assumption) ?_ | refine unrEnd1 (by assumption) (by assumption) (by assumption) ?_)
  k_with "pyIter bytes" => ((with_reducible show wpAny _ _ (pyIter (Value.bytes _ _)) (fun it s₂ => LoopAtV _ _ _ _ _ _ _ _ _ it s₂) _ _); k_here; (rename Fr _ _ _ _ => z9lF'); (rename News _ _ _ _ => z9lN'); (with_unfolding_all refine iter_bytesUnr (by rfl) z9lF' z9lN' (by assumption) ?_); clear z9lF' z9lN'; intro _ z9l1; (try k_lt z9l1))
  trivial
theorem utf8_n {news : Led} {oc : Array UInt8} {t0 : Tok} {c : Int} (B : Below A₀ base outer h₀) (F : Fr h₀ L s.heap m) (X : (Mine.frag.heap_1 w.params).In h₀) (N : News h₀ L s.heap news) (T : Top p loose mean mg mb h₀) (hk : cs.kind = .function)
   (hd : dp + 6 < recursionLimit) (hu : un + 120 < cLine)
   (hbi : KBw.bInts oc = [c]) (h32 : 32 ≤ c) (h127 : c < 127)
   (hret : ∀ l vs n h' tk', Fr h₀ L h' m → News h₀ L h' ((l, listOf vs.toArray n) :: news) → (∀ q ∈ news, @LT.lt Nat _ q.1 l) → IntsAre vs [c] → Q (.ref l) { s with heap := h', toks := tk' }) :
   wpAny (model prog w) (ktrTop dp un gd cn cs L a ccd cl outer) (call (.ref 400) [.bytes oc t0]) Q E s := by
  refine wpAny_call ?_
  k_dflt ktr_enter
  k_steps
  rename News h₀ _ _ _ => kN
  rename Fr h₀ _ _ m => kF
  rename _ ∧ _ ∧ _ ∧ _ ∧ AllLt _ news => hlt9
  refine hret _ _ 0 _ _ kF (news_sub kN (by intro q hq; rcases List.mem_cons.mp hq with rfl | hq; exact List.Mem.head _; repeat (first | exact hq | refine List.Mem.tail _ ?_))) (lt_of_all hlt9.2.2.2.2) ?_
  exact .cons _ _ .nil
theorem utf8_w {news : Led} {oc : Array UInt8} {t0 : Tok} {c : Int} (B : Below A₀ base outer h₀) (F : Fr h₀ L s.heap m) (X : (Mine.frag.heap_1 w.params).In h₀) (N : News h₀ L s.heap news) (T : Top p loose mean mg mb h₀) (hk : cs.kind = .function)
   (hd : dp + 6 < recursionLimit) (hu : un + 120 < cLine)
   (hbi : KBw.bInts oc = [228, 184, c]) (h128 : 128 ≤ c) (h130 : c ≤ 130)
   (hret : ∀ l vs n h' tk', Fr h₀ L h' m → News h₀ L h' ((l, listOf vs.toArray n) :: news) → (∀ q ∈ news, @LT.lt Nat _ q.1 l) → IntsAre vs [19968 + (c - 128)] → Q (.ref l) { s with heap := h', toks := tk' }) :
   wpAny (model prog w) (ktrTop dp un gd cn cs L a ccd cl outer) (call (.ref 400) [.bytes oc t0]) Q E s := by
  refine wpAny_call ?_
  k_dflt ktr_enter
  k_steps
  rename News h₀ _ _ _ => kN
  rename Fr h₀ _ _ m => kF
  rename _ ∧ _ ∧ _ ∧ _ ∧ AllLt _ news => hlt9
  refine hret _ _ 0 _ _ kF (news_sub kN (by intro q hq; rcases List.mem_cons.mp hq with rfl | hq; exact List.Mem.head _; repeat (first | exact hq | refine List.Mem.tail _ ?_))) (lt_of_all hlt9.2.2.2.2) ?_
  rw [show Builtin.bitOr (Builtin.bitOr (Builtin.bitAnd 228 15 * 2 ^ Int.toNat 6) (Builtin.bitAnd 184 63) * 2 ^ Int.toNat 6) (Builtin.bitAnd c 63) = 19968 + (c - 128) from by
    have h3 : c = 128 ∨ c = 129 ∨ c = 130 := by omega
    rcases h3 with rfl | rfl | rfl <;> decide +kernel]
  exact .cons _ _ .nil

end
end
section
theorem rg29 : True := by
  k_with_none
  k_with "omega" => (first | decide | (with_reducible first | exact Int.natCast_nonneg _ | exact rm1 ‹_› (by decide) | exact rm2 ‹_› (by decide) | exact rm3 ‹_› (by decide) | exact om_le ‹_› (by decide) | exact om_63 ‹_› (by decide) | exact om_eqle ‹_› ‹_› (by decide) | exact om_eq63 ‹_› ‹_› (by decide) | exact om_add ‹_› (by decide) | exact om_ne ‹_› (by decide) | exact om_le2 ‹_› ‹_› (by decide) | exact om_le2s ‹_› ‹_› (by decide) | exact om_le2_63 ‹_› ‹_› (by decide) | exact om_le2s_63 ‹_› ‹_› (by decide) | exact om_z62 ‹_› (by decide) | exact om_zn62 | exact om_kle ‹_› (by decide) | exact om_neg1 | exact om_pos | exact om_at ‹_› (by decide) | exact om_at0 ‹_› | exact om_add63 ‹_› (by decide) | exact Nat.ne_of_gt (by k_extra "pick") | exact Nat.ne_of_lt (by k_extra "pick")))
  k_with "ktr_room" => (first | exact rm0 (by assumption) | exact rm1 (by assumption) (Nat.le_of_ble_eq_true rfl))
  k_with "k_ne" => ((refine neN ?_; (try dsimp only); first | exact Nat.ne_of_gt (by assumption) | exact Nat.ne_of_lt (by assumption) | exact Nat.ne_of_gt (And.left (by assumption)) | exact Nat.ne_of_lt (And.left (by assumption)) | exact Nat.ne_of_gt (And.left (And.right (by assumption))) | exact Nat.ne_of_lt (And.left (And.right (by assumption))) | exact Nat.ne_of_gt (And.right (by assumption)) | exact Nat.ne_of_lt (And.right (by assumption)) | exact Nat.ne_of_gt (And.left (And.right (And.right (by assumption)))) | exact Nat.ne_of_lt (And.left (And.right (And.right (by assumption)))) | exact Nat.ne_of_gt (And.right (And.right (by assumption))) | exact Nat.ne_of_lt (And.right (And.right (by assumption)))))
  k_with "pick" => (with_reducible first | assumption | exact And.left ‹_› | exact And.left (And.right ‹_›) | exact And.left (And.right (And.right ‹_›)) | exact And.left (And.right (And.right (And.right ‹_›))) | exact And.left (And.right (And.right (And.right (And.right ‹_›)))) | exact And.left (And.right (And.right (And.right (And.right (And.right ‹_›))))) | exact And.left (And.right (And.right (And.right (And.right (And.right (And.right ‹_›)))))) | exact And.left (And.right (And.right (And.right (And.right (And.right (And.right (And.right ‹_›))))))) | exact And.left (And.right (And.right (And.right (And.right (And.right (And.right (And.right (And.right ‹_›)))))))) | exact And.left (And.right (And.right (And.right (And.right (And.right (And.right (And.right (And.right (And.right ‹_›))))))))) | exact And.left (And.right (And.right (And.right (And.right (And.right (And.right (And.right (And.right (And.right (And.right ‹_›)))))))))) | exact (And.right ‹_›) | exact (And.right (And.right ‹_›)) | exact (And.right (And.right (And.right ‹_›))) | exact (And.right (And.right (And.right (And.right ‹_›)))) | exact (And.right (And.right (And.right (And.right (And.right ‹_›))))) | exact (And.right (And.right (And.right (And.right (And.right (And.right ‹_›)))))) | exact (And.right (And.right (And.right (And.right (And.right (And.right (And.right ‹_›))))))) | exact (And.right (And.right (And.right (And.right (And.right (And.right (And.right (And.right ‹_›)))))))) | exact (And.right (And.right (And.right (And.right (And.right (And.right (And.right (And.right (And.right ‹_›))))))))) | exact (And.right (And.right (And.right (And.right (And.right (And.right (And.right (And.right (And.right (And.right ‹_›)))))))))))
  k_with "k_room" => (((simp only [depth_under_make, depth_under_kw, depth_in1, depth_deeper, depth_caller]); omega))
  k_with "k_all" => (assumption)
  k_with "eval Name" => (k_here; dsimp only)
  k_with "eval Call" => (k_here; dsimp only)
  k_with "eval Constant int" => (k_here; dsimp only)
  k_with "eval Attribute Name" => (k_here; dsimp only)
  k_with "eval BinOp" => (k_here; dsimp only)
  k_with "storeName" => (k_here; dsimp only)
  k_with "setAttr ref" => (k_here; dsimp only)
  k_with "eval Compare" => (k_here; dsimp only)
  k_with "isTrue Compare" => (k_here; dsimp only)
  k_with "eval Subscript" => (k_here; dsimp only)
  k_with "execs cons" => (k_here; first | (with_reducible rename News _ _ _ _ => nZ9; dsimp only at nZ9) | dsimp only | ((with_reducible show wpAny _ _ _ _ _ (Shared.mk _ _ _ (HAdd.hAdd _ _) _)); refine gen_toks ?_; intro _))
  k_with "eval Name" => (k_here; (fail_if_success (with_reducible show wpAny _ _ (eval _ (compEnvC _ _ _ _)) _ _ _)); (try dsimp only); k_dflt (first | (refine' nameX_L ?q9F ?q9v ?_ ?q9a ?q9b; (case q9F => k_asm); (case q9a => rfl); (case q9b => rfl); (case q9v => rfl); k_whole) | (refine' nameX_K ?q9F ?q9X ?q9T ?q9e ?_ ?q9a ?q9b; (case q9F => k_asm); (case q9X => k_asm); (case q9T => k_asm); (case q9a => rfl); (case q9b => rfl); (case q9e => k_is); k_whole) | (refine' nameX_B ?q9F ?q9X ?q9T ?q9e ?q9v ?q9n ?_ ?q9a ?q9b; (case q9F => k_asm); (case q9X => k_asm); (case q9T => k_asm); (case q9a => rfl); (case q9b => rfl); (case q9e => k_is); (case q9v => boot_fast); (case q9n => decide); k_whole)))
  k_with "execs cons" => (k_here; (try (with_reducible rename News _ _ _ _ => nZ9; dsimp only at nZ9)); (try dsimp only); (try ((with_reducible show wpAny _ _ _ _ _ (Shared.mk _ _ _ (HAdd.hAdd _ _) _)); refine gen_toks ?_; intro _)); (with_reducible refine wpAny_execs_cons ?_); (try dsimp only))
  k_with "eval Constant int" => (k_here; (try dsimp only); refine wpAny_Constant_int ?_)
  k_with "spliced" => (k_here; (fail_if_success (with_reducible show wpAny _ _ (spliced (backTo _ (starEach (PySem.Expr.Starred _ _ :: _) _))) _ _ _)); k_dflt (first | refine args_cons ?_ | (refine args_nil ?_; try simp only [List.cons_append, List.nil_append])))
  k_with "subscriptTail" => (k_here; (with_reducible show wpAny _ _ (subscriptTail _ _ (Value.ref _) (Value.int _ _)) _ _ _); k_dflt (refine' item_tupleT ?q9t ?q9a ?q9b ?q9c ?q9d ?_; (case q9t => exact News.isTup (by k_asm) (by k_mem)); (case q9a => decide); (case q9b => decide); (case q9c => rfl); (case q9d => rfl); k_whole))
  k_with "storeName" => (k_here; (fail_if_success (with_reducible show wpAny _ _ (storeName _ _ (compEnvC _ _ _ _)) _ _ _)); (try dsimp only); k_dflt (refine' storeX_L ?q9F ?q9N ?_ ?q9a ?q9b; (case q9F => k_asm); (case q9N => k_asm); (case q9a => rfl); (case q9b => rfl); k_whole; intro z9h z9F z9N; (try k_sweep)))
  k_with "callWith ref" => (k_here; k_dflt (first | (refine' callWith_K ?q9a ?q9b ?_; (case q9a => k_asm); (case q9b => k_is); k_whole) | (refine' callWith_K0 ?q9a ?q9b ?_; (case q9a => k_in); (case q9b => k_is); k_whole) | (refine' callWith_M0 ?q9a ?q9b ?_; (case q9a => k_meth); (case q9b => k_is); k_whole; try dsimp only [List.nil_append, List.cons_append]) | (refine' callWith_M ?q9a ?q9b ?q9c ?q9d ?_; (case q9a => k_asm); (case q9b => k_asm); (case q9c => k_mem); (case q9d => k_is); k_whole)))
  k_with "truthy bool" => (with_reducible refine wpAny_truthy_bool ?_)
  k_with "k_mem" => first | with_reducible assumption | assumption
  k_with "subscriptTail" => (k_here; (with_reducible show wpAny _ _ (subscriptTail _ _ (Value.ref _) (Value.int _ _)) _ _ _); (with_unfolding_all refine' item_litK ?q9k1 ?q9k2 ?q9k3 ?q9k4 ?_ ?q9k6; (case q9k1 => exact News.isList (by k_asm) (by k_mem)); (case q9k2 => decide); (case q9k3 => decide); (case q9k4 => rfl); (case q9k6 => with_unfolding_all rfl); k_whole))
  k_with "callWith" => ((with_reducible show wpAny _ _ (callWith _ (Value.builtin _) (_ :: _) (backTo _ (starEach (_ :: _) _)) []) _ _ _); k_dflt (refine callWith_method1 ?_))
  trivial
section
variable {prog : Program} {w : World} {p : Program} {loose : List Str} {mean : ExcName → Option Value} {mg mb : Str → Option Value}
 {dp un : Nat} {gd : Option (List Code)} {cn : Str} {cs : Scope} {a : Addr} {ccd : Value} {cl : List (Str × Addr)} {outer : List Env} {A₀ : Around} {base h₀ : Heap} {L : Addr} {m : Str → Option Value} {s : Shared} {Q E : Value → Shared → Prop}
theorem bk_is (prog : Program) (w : World) (b : Array UInt8) (t : Tok) : (bytesKind prog w).is b.toList (.bytes b t) = true := by simp [bytesKind, isBytes]
theorem bk_empty {o : Obj} (h : o.IsDictOf (PySem.strKind prog w) []) : o.IsDictOf (bytesKind prog w) [] := by
  obtain ⟨es, ep, hx, hd, hK, hP, hn⟩ := h
  have e : es = #[] := by
    have := hP.length
    apply Array.toList_inj.mp
    exact List.eq_nil_of_length_eq_zero this
  subst e
  exact ⟨#[], ep, hx, hd, (by intro e he; simp at he), Pairs.nil, List.nodup_nil⟩
theorem kdn_made_b {news : Led} {d : Addr} {o : Obj} {g : Obj → Led} {vs : List (Value × Value)} {Q : Value → Shared → Prop} (kvs : List (List UInt8 × Value)) (F : Fr h₀ L s.heap m) (N : News h₀ L s.heap news) (U : UpdF d o news g) (hd : o.IsDictOf (bytesKind prog w) []) (hc : Carries (bytesKind prog w) vs kvs) (hn : (kvs.map (·.1)).Nodup)
    (h : ∀ h' o', Fr h₀ L h' m → News h₀ L h' (g o') → o'.IsDictOf (bytesKind prog w) kvs → Q (.ref d) { s with heap := h', toks := s.toks + vs.length }) : KdnMade prog w (bytesKind prog w) d Q vs s := by
  obtain ⟨pre, post, rfl, hg, a, b⟩ := U.split
  have hm := N (d, o) (List.mem_append_right _ (.head _))
  refine ⟨kvs, hc, Heap.dictOf_iff.mpr ⟨o, hm.1, hd⟩, fun h' hmm hs => ?_⟩
  rw [merged_nil_of_nodup _ hn] at hmm
  obtain ⟨o', ho', hd'⟩ := Heap.dictOf_iff.mp hmm
  exact h h' o' (F.change hs hm.2.1 hm.2.2) (hg o' ▸ N.setIn a b hs ho') hd'
theorem off_lt {I : Addr} {post : Led} (h : AllLt I post) : ∀ p ∈ post, p.1 ≠ I := fun p hp => Nat.ne_of_lt (lt_of_all h p hp)
theorem off_cons {I : Addr} {a : Addr × Obj} {post : Led} (ha : a.1 ≠ I) (h : ∀ p ∈ post, p.1 ≠ I) : ∀ p ∈ a :: post, p.1 ≠ I := fun p hp => (List.mem_cons.mp hp).elim (fun e => e ▸ ha) (h p)
theorem unrW1 {h' : Heap} {m' : Str → Option Value} {I : Addr} {s₁ : Shared} {it : Obj} {a : Addr × Obj} {post : Led} {rest : (Str → Option Value) → Led → Prop} {tk : Nat} (F : Fr h₀ L h' m') (N : News h₀ L h' (a :: (I, it) :: post)) (ha : a.1 ≠ I) (off : ∀ p ∈ post, p.1 ≠ I) (r : rest m' (a :: post)) : UnrEndW h₀ L s₁ [(I, it)] rest { s₁ with heap := h', toks := tk } := by
  refine ⟨h', tk, m', a :: post, rfl, F, ?_, ?_, r⟩
  · intro p hp
    apply N
    simp only [List.mem_cons, List.mem_append, List.not_mem_nil, or_false] at hp ⊢
    rcases hp with hp | hp | hp
    · exact .inr (.inl hp)
    · exact .inl hp
    · exact .inr (.inr hp)
  · intro p hp q hq
    rw [List.mem_singleton.mp hq]
    rcases List.mem_cons.mp hp with rfl | hp
    · exact ha
    · exact off p hp
theorem unrW0 {h' : Heap} {m' : Str → Option Value} {I : Addr} {s₁ : Shared} {it : Obj} {post : Led} {rest : (Str → Option Value) → Led → Prop} {tk : Nat} (F : Fr h₀ L h' m') (N : News h₀ L h' ((I, it) :: post)) (off : ∀ p ∈ post, p.1 ≠ I) (r : rest m' post) : UnrEndW h₀ L s₁ [(I, it)] rest { s₁ with heap := h', toks := tk } := by
  refine ⟨h', tk, m', post, rfl, F, N, ?_, r⟩
  · intro p hp q hq
    rw [List.mem_singleton.mp hq]
    exact off p hp

end
end
section
theorem rg30 : True := by
  k_with_none
  k_with "omega" => (first | decide | (with_reducible first | exact Int.natCast_nonneg _ | exact rm1 ‹_› (by decide) | exact rm2 ‹_› (by decide) | exact rm3 ‹_› (by decide) | exact om_le ‹_› (by decide) | exact om_63 ‹_› (by decide) | exact om_eqle ‹_› ‹_› (by decide) | exact om_eq63 ‹_› ‹_› (by decide) | exact om_add ‹_› (by decide) | exact om_ne ‹_› (by decide) | exact om_le2 ‹_› ‹_› (by decide) | exact om_le2s ‹_› ‹_› (by decide) | exact om_le2_63 ‹_› ‹_› (by decide) | exact om_le2s_63 ‹_› ‹_› (by decide) | exact om_z62 ‹_› (by decide) | exact om_zn62 | exact om_kle ‹_› (by decide) | exact om_neg1 | exact om_pos | exact om_at ‹_› (by decide) | exact om_at0 ‹_› | exact om_add63 ‹_› (by decide) | exact Nat.ne_of_gt (by k_extra "pick") | exact Nat.ne_of_lt (by k_extra "pick")))
  k_with "ktr_room" => (first | exact rm0 (by assumption) | exact rm1 (by assumption) (Nat.le_of_ble_eq_true rfl))
  k_with "k_ne" => ((refine neN ?_; (try dsimp only); first | exact Nat.ne_of_gt (by assumption) | exact Nat.ne_of_lt (by assumption) | exact Nat.ne_of_gt (And.left (by assumption)) | exact Nat.ne_of_lt (And.left (by assumption)) | exact Nat.ne_of_gt (And.left (And.right (by assumption))) | exact Nat.ne_of_lt (And.left (And.right (by assumption))) | exact Nat.ne_of_gt (And.right (by assumption)) | exact Nat.ne_of_lt (And.right (by assumption)) | exact Nat.ne_of_gt (And.left (And.right (And.right (by assumption)))) | exact Nat.ne_of_lt (And.left (And.right (And.right (by assumption)))) | exact Nat.ne_of_gt (And.right (And.right (by assumption))) | exact Nat.ne_of_lt (And.right (And.right (by assumption)))))
  k_with "pick" => (with_reducible first | assumption | exact And.left ‹_› | exact And.left (And.right ‹_›) | exact And.left (And.right (And.right ‹_›)) | exact And.left (And.right (And.right (And.right ‹_›))) | exact And.left (And.right (And.right (And.right (And.right ‹_›)))) | exact And.left (And.right (And.right (And.right (And.right (And.right ‹_›))))) | exact And.left (And.right (And.right (And.right (And.right (And.right (And.right ‹_›)))))) | exact And.left (And.right (And.right (And.right (And.right (And.right (And.right (And.right ‹_›))))))) | exact And.left (And.right (And.right (And.right (And.right (And.right (And.right (And.right (And.right ‹_›)))))))) | exact And.left (And.right (And.right (And.right (And.right (And.right (And.right (And.right (And.right (And.right ‹_›))))))))) | exact And.left (And.right (And.right (And.right (And.right (And.right (And.right (And.right (And.right (And.right (And.right ‹_›)))))))))) | exact (And.right ‹_›) | exact (And.right (And.right ‹_›)) | exact (And.right (And.right (And.right ‹_›))) | exact (And.right (And.right (And.right (And.right ‹_›)))) | exact (And.right (And.right (And.right (And.right (And.right ‹_›))))) | exact (And.right (And.right (And.right (And.right (And.right (And.right ‹_›)))))) | exact (And.right (And.right (And.right (And.right (And.right (And.right (And.right ‹_›))))))) | exact (And.right (And.right (And.right (And.right (And.right (And.right (And.right (And.right ‹_›)))))))) | exact (And.right (And.right (And.right (And.right (And.right (And.right (And.right (And.right (And.right ‹_›))))))))) | exact (And.right (And.right (And.right (And.right (And.right (And.right (And.right (And.right (And.right (And.right ‹_›)))))))))))
  k_with "k_room" => (((simp only [depth_under_make, depth_under_kw, depth_in1, depth_deeper, depth_caller]); omega))
  k_with "k_all" => (assumption)
  k_with "eval Name" => (k_here; dsimp only)
  k_with "eval Call" => (k_here; dsimp only)
  k_with "eval Constant int" => (k_here; dsimp only)
  k_with "eval Attribute Name" => (k_here; dsimp only)
  k_with "eval BinOp" => (k_here; dsimp only)
  k_with "storeName" => (k_here; dsimp only)
  k_with "setAttr ref" => (k_here; dsimp only)
  k_with "eval Compare" => (k_here; dsimp only)
  k_with "isTrue Compare" => (k_here; dsimp only)
  k_with "eval Subscript" => (k_here; dsimp only)
  k_with "execs cons" => (k_here; first | (with_reducible rename News _ _ _ _ => nZ9; dsimp only at nZ9) | dsimp only | ((with_reducible show wpAny _ _ _ _ _ (Shared.mk _ _ _ (HAdd.hAdd _ _) _)); refine gen_toks ?_; intro _))
  k_with "eval Name" => (k_here; (fail_if_success (with_reducible show wpAny _ _ (eval _ (compEnvC _ _ _ _)) _ _ _)); (try dsimp only); k_dflt (first | (refine' nameX_L ?q9F ?q9v ?_ ?q9a ?q9b; (case q9F => k_asm); (case q9a => rfl); (case q9b => rfl); (case q9v => rfl); k_whole) | (refine' nameX_K ?q9F ?q9X ?q9T ?q9e ?_ ?q9a ?q9b; (case q9F => k_asm); (case q9X => k_asm); (case q9T => k_asm); (case q9a => rfl); (case q9b => rfl); (case q9e => k_is); k_whole) | (refine' nameX_B ?q9F ?q9X ?q9T ?q9e ?q9v ?q9n ?_ ?q9a ?q9b; (case q9F => k_asm); (case q9X => k_asm); (case q9T => k_asm); (case q9a => rfl); (case q9b => rfl); (case q9e => k_is); (case q9v => boot_fast); (case q9n => decide); k_whole)))
  k_with "execs cons" => (k_here; (try (with_reducible rename News _ _ _ _ => nZ9; dsimp only at nZ9)); (try dsimp only); (try ((with_reducible show wpAny _ _ _ _ _ (Shared.mk _ _ _ (HAdd.hAdd _ _) _)); refine gen_toks ?_; intro _)); (with_reducible refine wpAny_execs_cons ?_); (try dsimp only))
  k_with "eval Constant int" => (k_here; (try dsimp only); refine wpAny_Constant_int ?_)
  k_with "spliced" => (k_here; (fail_if_success (with_reducible show wpAny _ _ (spliced (backTo _ (starEach (PySem.Expr.Starred _ _ :: _) _))) _ _ _)); k_dflt (first | refine args_cons ?_ | (refine args_nil ?_; try simp only [List.cons_append, List.nil_append])))
  k_with "subscriptTail" => (k_here; (with_reducible show wpAny _ _ (subscriptTail _ _ (Value.ref _) (Value.int _ _)) _ _ _); k_dflt (refine' item_tupleT ?q9t ?q9a ?q9b ?q9c ?q9d ?_; (case q9t => exact News.isTup (by k_asm) (by k_mem)); (case q9a => decide); (case q9b => decide); (case q9c => rfl); (case q9d => rfl); k_whole))
  k_with "storeName" => (k_here; (fail_if_success (with_reducible show wpAny _ _ (storeName _ _ (compEnvC _ _ _ _)) _ _ _)); (try dsimp only); k_dflt (refine' storeX_L ?q9F ?q9N ?_ ?q9a ?q9b; (case q9F => k_asm); (case q9N => k_asm); (case q9a => rfl); (case q9b => rfl); k_whole; intro z9h z9F z9N; (try k_sweep)))
  k_with "callWith ref" => (k_here; k_dflt (first | (refine' callWith_K ?q9a ?q9b ?_; (case q9a => k_asm); (case q9b => k_is); k_whole) | (refine' callWith_K0 ?q9a ?q9b ?_; (case q9a => k_in); (case q9b => k_is); k_whole) | (refine' callWith_M0 ?q9a ?q9b ?_; (case q9a => k_meth); (case q9b => k_is); k_whole; try dsimp only [List.nil_append, List.cons_append]) | (refine' callWith_M ?q9a ?q9b ?q9c ?q9d ?_; (case q9a => k_asm); (case q9b => k_asm); (case q9c => k_mem); (case q9d => k_is); k_whole)))
  k_with "truthy bool" => (with_reducible refine wpAny_truthy_bool ?_)
  k_with "k_mem" => first | with_reducible assumption | assumption
  k_with "subscriptTail" => (k_here; (with_reducible show wpAny _ _ (subscriptTail _ _ (Value.ref _) (Value.int _ _)) _ _ _); (with_unfolding_all refine' item_litK ?q9k1 ?q9k2 ?q9k3 ?q9k4 ?_ ?q9k6; (case q9k1 => exact News.isList (by k_asm) (by k_mem)); (case q9k2 => decide); (case q9k3 => decide); (case q9k4 => rfl); (case q9k6 => with_unfolding_all rfl); k_whole))
  k_with "callWith" => ((with_reducible show wpAny _ _ (callWith _ (Value.builtin _) (_ :: _) (backTo _ (starEach (_ :: _) _)) []) _ _ _); k_dflt (refine callWith_method1 ?_))
  trivial
section
variable {prog : Program} {w : World} {p : Program} {loose : List Str} {mean : ExcName → Option Value} {mg mb : Str → Option Value}
 {dp un : Nat} {gd : Option (List Code)} {cn : Str} {cs : Scope} {a : Addr} {ccd : Value} {cl : List (Str × Addr)} {outer : List Env} {A₀ : Around} {base h₀ : Heap} {L : Addr} {m : Str → Option Value} {s : Shared} {Q E : Value → Shared → Prop}
section
open Builtin
theorem slot_find : Slot "bytes" "find" "bytes.find" :=
  .of (owner := "bytes") (n := "find") (by rw [typeLookup_type, builtinLookup_eq_fast]; kernel_rfl) (by decide +kernel) (by decide +kernel) (by decide +kernel)
    (by first | exact .inl (by decide +kernel) | exact .inr (by decide +kernel)) (by rw [isSubtype_type]; kernel_rfl)
theorem type_find : typeOf (.builtin "bytes.find") = pure (.type "method_descriptor") := by show builtinType _ = _; rw [builtinType_eq_fast]; kernel_rfl
theorem entry_find : entryFor table "bytes.find" = some Builtin.«bytes.find» := entryFor_of_tree (by kernel_rfl)
theorem args_find (a b : Value) : argsOk "bytes.find" ⟨[a, b], []⟩ := by
  unfold argsOk; rw [signature?_of (id := "bytes.find") (n := ['d', 'n', 'i', 'f']) (o := ['s', 'e', 't', 'y', 'b']) (by kernel_rfl) FB.owner_bytes]; kernel_rfl
theorem slot_replace : Slot "bytes" "replace" "bytes.replace" :=
  .of (owner := "bytes") (n := "replace") (by rw [typeLookup_type, builtinLookup_eq_fast]; kernel_rfl) (by decide +kernel) (by decide +kernel) (by decide +kernel)
    (by first | exact .inl (by decide +kernel) | exact .inr (by decide +kernel)) (by rw [isSubtype_type]; kernel_rfl)
theorem type_replace : typeOf (.builtin "bytes.replace") = pure (.type "method_descriptor") := by show builtinType _ = _; rw [builtinType_eq_fast]; kernel_rfl
theorem entry_replace : entryFor table "bytes.replace" = some Builtin.«bytes.replace» := entryFor_of_tree (by kernel_rfl)
theorem args_replace (a b c : Value) : argsOk "bytes.replace" ⟨[a, b, c], []⟩ := by
  unfold argsOk; rw [signature?_of (id := "bytes.replace") (n := ['e', 'c', 'a', 'l', 'p', 'e', 'r']) (o := ['s', 'e', 't', 'y', 'b']) (by kernel_rfl) FB.owner_bytes]; kernel_rfl
theorem slot_split : Slot "bytes" "split" "bytes.split" :=
  .of (owner := "bytes") (n := "split") (by rw [typeLookup_type, builtinLookup_eq_fast]; kernel_rfl) (by decide +kernel) (by decide +kernel) (by decide +kernel)
    (by first | exact .inl (by decide +kernel) | exact .inr (by decide +kernel)) (by rw [isSubtype_type]; kernel_rfl)
theorem type_split : typeOf (.builtin "bytes.split") = pure (.type "method_descriptor") := by show builtinType _ = _; rw [builtinType_eq_fast]; kernel_rfl
theorem entry_split : entryFor table "bytes.split" = some Builtin.«bytes.split» := entryFor_of_tree (by kernel_rfl)
theorem args_split (a b : Value) : argsOk "bytes.split" ⟨[a, b], []⟩ := by
  unfold argsOk; rw [signature?_of (id := "bytes.split") (n := ['t', 'i', 'l', 'p', 's']) (o := ['s', 'e', 't', 'y', 'b']) (by kernel_rfl) FB.owner_bytes]; kernel_rfl
theorem slot_join : Slot "bytes" "join" "bytes.join" :=
  .of (owner := "bytes") (n := "join") (by rw [typeLookup_type, builtinLookup_eq_fast]; kernel_rfl) (by decide +kernel) (by decide +kernel) (by decide +kernel)
    (by first | exact .inl (by decide +kernel) | exact .inr (by decide +kernel)) (by rw [isSubtype_type]; kernel_rfl)
theorem type_join : typeOf (.builtin "bytes.join") = pure (.type "method_descriptor") := by show builtinType _ = _; rw [builtinType_eq_fast]; kernel_rfl
theorem entry_join : entryFor table "bytes.join" = some Builtin.«bytes.join» := entryFor_of_tree (by kernel_rfl)
theorem args_join (a b : Value) : argsOk "bytes.join" ⟨[a, b], []⟩ := by
  unfold argsOk; rw [signature?_of (id := "bytes.join") (n := ['n', 'i', 'o', 'j']) (o := ['s', 'e', 't', 'y', 'b']) (by kernel_rfl) FB.owner_bytes]; kernel_rfl
theorem gives_find_blue (t u : Tok) : Gives (Builtin.«bytes.find» ⟨[.bytes #[98, 103, 61, 98, 108, 117, 101] t, .bytes #[61] u], []⟩) (.int 2) := .of_eq (by kernel_rfl)
theorem gives_find_def (t u : Tok) : Gives (Builtin.«bytes.find» ⟨[.bytes #[100, 101, 102, 97, 117, 108, 116] t, .bytes #[61] u], []⟩) (.int (-1)) := by
  have e : Builtin.«bytes.find» ⟨[.bytes #[100, 101, 102, 97, 117, 108, 116] t, .bytes #[61] u], []⟩ = (do rule "bytes.find.not-found"; retInt (-1)) := by kernel_rfl
  rw [e]; exact Gives.rule (.of_eq rfl)
theorem gives_replace_blue (t u v : Tok) : Gives (Builtin.«bytes.replace» ⟨[.bytes #[98, 103, 61, 98, 108, 117, 101] t, .bytes #[32] u, .bytes #[44] v], []⟩) (.val (.bytes #[98, 103, 61, 98, 108, 117, 101] t)) := by
  have e : Builtin.«bytes.replace» ⟨[.bytes #[98, 103, 61, 98, 108, 117, 101] t, .bytes #[32] u, .bytes #[44] v], []⟩ = (do rule "bytes.replace.nothing"; ret (.bytes #[98, 103, 61, 98, 108, 117, 101] t)) := by kernel_rfl
  rw [e]; exact Gives.rule (.of_eq rfl)
theorem gives_replace_def (t u v : Tok) : Gives (Builtin.«bytes.replace» ⟨[.bytes #[100, 101, 102, 97, 117, 108, 116] t, .bytes #[32] u, .bytes #[44] v], []⟩) (.val (.bytes #[100, 101, 102, 97, 117, 108, 116] t)) := by
  have e : Builtin.«bytes.replace» ⟨[.bytes #[100, 101, 102, 97, 117, 108, 116] t, .bytes #[32] u, .bytes #[44] v], []⟩ = (do rule "bytes.replace.nothing"; ret (.bytes #[100, 101, 102, 97, 117, 108, 116] t)) := by kernel_rfl
  rw [e]; exact Gives.rule (.of_eq rfl)
theorem gives_starts_def (t u : Tok) : Gives (Builtin.«bytes.startswith» ⟨[.bytes #[100, 101, 102, 97, 117, 108, 116] t, .bytes #[110, 111] u], []⟩) (.val (.bool false)) := .of_eq (by kernel_rfl)
end
theorem bindOpt_sep (id fname : String) (v : Value) : Builtin.Bytes.bindOptional id fname ["sep", "maxsplit"] [v] [] = pure [some v, none] := by
  unfold Builtin.Bytes.bindOptional
  simp only [List.length_cons, List.length_nil, List.any_nil, List.take, List.zipIdx, List.forIn_cons, List.forIn_nil, List.map, List.find?]
  rw [if_neg (show ¬ (0 + 1 + 0 > 0 + 1 + 1) by decide)]
  simp
theorem bm_split {A : Around} {news : Led} {b : Array UInt8} {t u : Tok} {Q : Value → Shared → Prop} (F : Fr h₀ L s.heap m) (N : News h₀ L s.heap news) (e : ((Builtin.Bytes.occurrences b #[44] 0 b.size).take (b.size + 1)).isEmpty = true)
    (h : ∀ D h', Fr h₀ L h' m → News h₀ L h' ((D, listOf #[.bytes b t] 0) :: news) → (∀ p ∈ news, p.1 < D) → Q (.ref D) { s with heap := h' }) : wpAny (model prog w) A (call (.builtin "bytes.split") [.bytes b t, .bytes #[44] u]) Q E s := by
  refine call_meets (S := fun A R s => ∀ prog w, wpAny (model prog w) A.in1 (newList [.bytes b t]) (fun x s' => R (.ok (.ret x)) s') (fun e s' => R (.error e) s') s) slot_split (typeIs_bytes _ _ _) entry_split (args_split _ _) (fun prog w A R s hS => ?_) ?_
  · unfold Builtin.«bytes.split» Builtin.Bytes.splitM
    refine wpAny_bind (wpAny_of_eq (a := [some (.bytes #[44] u), none]) (bindOpt_sep _ _ _) ?_)
    refine wpAny_bind (wpAny_of_eq (a := (-1 : Int)) rfl ?_)
    refine wpAny_bind (wpAny_of_eq (a := b) rfl ?_)
    refine wpAny_bind (wpAny_of_eq KBd.like_eq ?_)
    refine wpAny_ite_false rfl ?_
    refine wpAny_ite_true (decide_eq_true e) ?_
    exact wpAny_bind (wpAny_rule (wpAny_bind (wpAny_of_eq (a := .bytes b t) rfl (wpAny_bind (wpAny_mono (hS prog w) (fun x s' hx => wpAny_pure hx) (fun _ _ x => x))))))
  · exact fun prog w => newList_K F N (fun D h' F' N' l1 => h D h' F' N' l1) (by rw [sizeLine_eq]; simp)
theorem bm_find {M : Model} {A : Around} {b : Array UInt8} {t : Tok} {pl : Sem Bool} {Q : Value × List Value → Shared → Prop} (h : Q (.builtin "bytes.find", [.bytes b t]) s) : wpAny M A (getMethod (.bytes b t) (PySem.Str.ofString "find") pl) Q E s := by
  with_reducible exact KBd.method_of (.bytes b t) (typeIs_bytes _ _ _) slot_find type_find KBd.noRef h
theorem bm_replace {M : Model} {A : Around} {b : Array UInt8} {t : Tok} {pl : Sem Bool} {Q : Value × List Value → Shared → Prop} (h : Q (.builtin "bytes.replace", [.bytes b t]) s) : wpAny M A (getMethod (.bytes b t) (PySem.Str.ofString "replace") pl) Q E s := by
  with_reducible exact KBd.method_of (.bytes b t) (typeIs_bytes _ _ _) slot_replace type_replace KBd.noRef h
theorem bm_splitM {M : Model} {A : Around} {b : Array UInt8} {t : Tok} {pl : Sem Bool} {Q : Value × List Value → Shared → Prop} (h : Q (.builtin "bytes.split", [.bytes b t]) s) : wpAny M A (getMethod (.bytes b t) (PySem.Str.ofString "split") pl) Q E s := by
  with_reducible exact KBd.method_of (.bytes b t) (typeIs_bytes _ _ _) slot_split type_split KBd.noRef h
theorem bm_joinM {M : Model} {A : Around} {b : Array UInt8} {t : Tok} {pl : Sem Bool} {Q : Value × List Value → Shared → Prop} (h : Q (.builtin "bytes.join", [.bytes b t]) s) : wpAny M A (getMethod (.bytes b t) (PySem.Str.ofString "join") pl) Q E s := by
  with_reducible exact KBd.method_of (.bytes b t) (typeIs_bytes _ _ _) slot_join type_join KBd.noRef h
theorem bm_starts {M : Model} {A : Around} {b : Array UInt8} {t : Tok} {pl : Sem Bool} {Q : Value × List Value → Shared → Prop} (h : Q (.builtin "bytes.startswith", [.bytes b t]) s) : wpAny M A (getMethod (.bytes b t) (PySem.Str.ofString "startswith") pl) Q E s := by
  with_reducible exact KBd.method_of (.bytes b t) (typeIs_bytes _ _ _) FB.slot_bytes_startswith FB.type_bytes_startswith KBd.noRef h
theorem bc_find {A : Around} {b c : Array UInt8} {t u : Tok} {k : Int} {Q : Value → Shared → Prop} (g : Gives (Builtin.«bytes.find» ⟨[.bytes b t, .bytes c u], []⟩) (.int k)) (h : Q (.int k s.toks) { s with toks := s.toks + 1 }) : wpAny (model prog w) A (call (.builtin "bytes.find") [.bytes b t, .bytes c u]) Q E s :=
  call_gives slot_find (typeIs_bytes _ _ _) entry_find (args_find _ _) g h
theorem bc_starts {A : Around} {b c : Array UInt8} {t u : Tok} {z : Bool} {Q : Value → Shared → Prop} (g : Gives (Builtin.«bytes.startswith» ⟨[.bytes b t, .bytes c u], []⟩) (.val (.bool z))) (h : Q (.bool z) s) : wpAny (model prog w) A (call (.builtin "bytes.startswith") [.bytes b t, .bytes c u]) Q E s :=
  call_gives FB.slot_bytes_startswith (typeIs_bytes _ _ _) FB.entry_bytes_startswith (FB.args_bytes_startswith_2 _ _) g h
theorem bc_replace {A : Around} {b c d : Array UInt8} {t u v : Tok} {z : Value} {Q : Value → Shared → Prop} (g : Gives (Builtin.«bytes.replace» ⟨[.bytes b t, .bytes c u, .bytes d v], []⟩) (.val z)) (h : Q z s) : wpAny (model prog w) A (call (.builtin "bytes.replace") [.bytes b t, .bytes c u, .bytes d v]) Q E s :=
  call_gives slot_replace (typeIs_bytes _ _ _) entry_replace (args_replace _ _ _) g h
theorem eqBool_bytes {A : Around} {x y : Array UInt8} {t u : Tok} {Q : Bool → Shared → Prop} (h : Q (x.toList == y.toList) s) : wpAny (model prog w) A (eqBool (.bytes x t) (.bytes y u)) (fun b s' => Q b s') E s := by
  unfold eqBool
  show wpAny _ _ (if (Value.bytes x t == Value.bytes y u) = true then _ else _) _ E s
  by_cases hab : (Value.bytes x t == Value.bytes y u) = true
  · rw [if_pos hab]
    have e : x = y := by have := eq_of_beq hab; injection this
    subst e
    exact wpAny_bind (wpAny_rule (wpAny_pure (by simpa using h)))
  · rw [if_neg hab]
    exact wpAny_bind (eq_bytes (wpAny_truthy_bool h))
noncomputable def isB (b : Array UInt8) : Value → Bool
  | .bytes c _ => c.toList == b.toList
  | _ => false
noncomputable def isBy : Value → Bool
  | .bytes _ _ => true
  | _ => false
theorem eqAt_isB {A : Around} {y : Value} (b : Array UInt8) (t : Tok) (hy : isBy y = true) : SeqAt.EqAt A s y (.bytes b t) (isB b y) := by
  cases y with
  | bytes c u => exact fun prog w E Q hq => eqBool_bytes hq
  | _ => cases hy
theorem in_bt {A : Around} {tu : Addr} {vs : List Value} {b : Array UInt8} {t : Tok} {z : Bool} {Q : Value → Shared → Prop} (hl : s.heap.IsTuple tu vs.toArray) (ha : vs.all isBy = true) (hz : vs.any (isB b) = z) (h : Q (.bool z) s) :
    wpAny (model prog w) A (compareOp .In (.bytes b t) (.ref tu)) Q E s := by
  subst hz
  refine SeqAt.in_tupleAt (isB b) hl (fun y hy => eqAt_isB b t (List.all_eq_true.mp ha y (by simpa using hy))) ?_
  rw [← Array.any_toList]; exact h
theorem tl_tup {h : Heap} {a : Addr} {items : Array Value} (H : h.IsTuple a items) {vs : List Value} (e : vs = items.toList) : h.IsTuple a vs.toArray := by
  subst e; rw [Array.toArray_toList]; exact H
theorem idx_bt {A : Around} {tu : Addr} {v0 v1 v2 v3 v4 v5 v6 v7 : Value} {b : Array UInt8} {t : Tok} {Q : Value → Shared → Prop} (hl : s.heap.IsTuple tu [v0, v1, v2, v3, v4, v5, v6, v7].toArray) (ha : [v0, v1, v2, v3, v4].all isBy = true) (hz : [v0, v1, v2, v3, v4].map (isB b) = [false, false, false, false, true]) (h : ∀ k, Q (.int 4 k) { s with toks := s.toks + 1 }) :
    wpAny (model prog w) A (call (.builtin "tuple.index") [.ref tu, .bytes b t]) Q E s := by
  refine call_meets (S := fun A R s => s.heap.IsTuple tu [v0, v1, v2, v3, v4, v5, v6, v7].toArray ∧ ∀ k, R (.ok (.ret (.int 4 k))) { s with toks := s.toks + 1 }) F.slot_tuple_index hl.typeIs F.entry_tuple_index (F.args_tuple_index_2 _ _) (fun prog w A R s hS => ?_) ⟨hl, h⟩
  simp only [List.all_cons, List.all_nil, Bool.and_true, Bool.and_eq_true] at ha
  simp only [List.map_cons, List.map_nil, List.cons.injEq, and_true] at hz
  unfold Builtin.«tuple.index»
  refine wpAny_bind (wpAny_of_eq (a := (.ref tu, [.bytes b t])) rfl ?_)
  refine wpAny_bind (tupleItemsOf_ hS.1 ?_)
  show wpAny _ _ (pure 0 >>= _) _ _ s
  refine wpAny_bind (wpAny_pure ?_)
  refine wpAny_bind (wpAny_pure ?_)
  refine wpAny_bind ?_
  rw [Std.Legacy.Range.forIn_eq_forIn_range']
  have er : List.range' ([0:min ([v0, v1, v2, v3, v4, v5, v6, v7].toArray).size ([v0, v1, v2, v3, v4, v5, v6, v7].toArray).size]).start ([0:min ([v0, v1, v2, v3, v4, v5, v6, v7].toArray).size ([v0, v1, v2, v3, v4, v5, v6, v7].toArray).size]).size ([0:min ([v0, v1, v2, v3, v4, v5, v6, v7].toArray).size ([v0, v1, v2, v3, v4, v5, v6, v7].toArray).size]).step = [0, 1, 2, 3, 4, 5, 6, 7] := by simp [Std.Legacy.Range.size, List.range']
  rw [er]
  have step : ∀ {A : Around} {E : Value → Shared → Prop} {y : Value} {z : Bool} {Q : Bool → Shared → Prop}, isBy y = true → isB b y = z → Q z s → wpAny (model prog w) A (eqBool y (.bytes b t)) Q E s := fun hy hz hq => eqAt_isB b t hy prog w _ _ (by rw [hz]; exact hq)
  simp only [List.forIn_cons]
  refine wpAny_bind (wpAny_bind (step (y := v0) ha.1 hz.1 (wpAny_pure ?_)))
  refine wpAny_bind (wpAny_bind (step (y := v1) ha.2.1 hz.2.1 (wpAny_pure ?_)))
  refine wpAny_bind (wpAny_bind (step (y := v2) ha.2.2.1 hz.2.2.1 (wpAny_pure ?_)))
  refine wpAny_bind (wpAny_bind (step (y := v3) ha.2.2.2.1 hz.2.2.2.1 (wpAny_pure ?_)))
  refine wpAny_bind (wpAny_bind (step (y := v4) ha.2.2.2.2 hz.2.2.2.2 ?_))
  exact wpAny_bind (wpAny_bind (wpAny_mkInt (wpAny_pure (wpAny_pure (wpAny_pure (wpAny_pure (hS.2 _)))))))
noncomputable def bkKv (vs : List (Value × Value)) : List (List UInt8 × Value) := vs.map fun p => (match p.1 with | .bytes b _ => b.toList | _ => [], p.2)
theorem carries_b {prog : Program} {w : World} : ∀ (vs : List (Value × Value)), vs.all (fun p => isBy p.1) = true → Carries (bytesKind prog w) vs (bkKv vs)
  | [], _ => trivial
  | (k, v) :: vs, h => by
    simp only [List.all_cons, Bool.and_eq_true] at h
    cases k with
    | bytes b t => exact ⟨bk_is _ _ _ _, rfl, carries_b vs h.2⟩
    | _ => exact absurd h.1 (by simp [isBy])
theorem bm_tupidx {A : Around} {news : Led} {D : Addr} {its : Array Value} {n : Nat} {pl : Sem Bool} {Q : Value × List Value → Shared → Prop} (N : News h₀ L s.heap news) (hm : (D, ({ cls := .type "tuple", data := .seq its n } : Obj)) ∈ news)
    (h : Q (.builtin "tuple.index", [.ref D]) s) : wpAny (model prog w) A (getMethod (.ref D) (PySem.Str.ofString "index") pl) Q E s := by
  have hg := (N _ hm).1
  have hT : s.TypeIs (.ref D) "tuple" := ⟨_, hg, rfl⟩
  have hd : ∀ a, Value.ref D = .ref a → ∃ o, s.heap.get? a = some o ∧ o.dict = none := fun a e => by cases e; exact ⟨_, hg, rfl⟩
  with_reducible exact getMethod_builtin hT PySem.F.plainAttrs_tuple PySem.F.slot_tuple_index PySem.F.type_tuple_index hd h
theorem unrWk {h' : Heap} {m' : Str → Option Value} {I : Addr} {s₁ : Shared} {it : Obj} {post : Led} {rest : (Str → Option Value) → Led → Prop} {tk : Nat} (pre : Led) (F : Fr h₀ L h' m') (N : News h₀ L h' (pre ++ (I, it) :: post)) (offa : ∀ p ∈ pre, p.1 ≠ I) (off : ∀ p ∈ post, p.1 ≠ I) (r : rest m' (pre ++ post)) : UnrEndW h₀ L s₁ [(I, it)] rest { s₁ with heap := h', toks := tk } := by
  refine ⟨h', tk, m', pre ++ post, rfl, F, ?_, ?_, r⟩
  · intro p hp
    apply N
    simp only [List.mem_cons, List.mem_append, List.not_mem_nil, or_false] at hp ⊢
    rcases hp with hp | hp | hp
    · exact .inr (.inl hp)
    · exact .inl hp
    · exact .inr (.inr hp)
  · intro p hp q hq
    rw [List.mem_singleton.mp hq]
    exact (List.mem_append.mp hp).elim (offa p) (off p)
theorem off_nil {I : Addr} : ∀ p ∈ ([] : Led), p.1 ≠ I := fun _ h => nomatch h

end
end
section
theorem rg31 : True := by
  k_with_none
  k_with "omega" => (first | decide | (with_reducible first | exact Int.natCast_nonneg _ | exact rm1 ‹_› (by decide) | exact rm2 ‹_› (by decide) | exact rm3 ‹_› (by decide) | exact om_le ‹_› (by decide) | exact om_63 ‹_› (by decide) | exact om_eqle ‹_› ‹_› (by decide) | exact om_eq63 ‹_› ‹_› (by decide) | exact om_add ‹_› (by decide) | exact om_ne ‹_› (by decide) | exact om_le2 ‹_› ‹_› (by decide) | exact om_le2s ‹_› ‹_› (by decide) | exact om_le2_63 ‹_› ‹_› (by decide) | exact om_le2s_63 ‹_› ‹_› (by decide) | exact om_z62 ‹_› (by decide) | exact om_zn62 | exact om_kle ‹_› (by decide) | exact om_neg1 | exact om_pos | exact om_at ‹_› (by decide) | exact om_at0 ‹_› | exact om_add63 ‹_› (by decide) | exact Nat.ne_of_gt (by k_extra "pick") | exact Nat.ne_of_lt (by k_extra "pick")))
  k_with "ktr_room" => (first | exact rm0 (by assumption) | exact rm1 (by assumption) (Nat.le_of_ble_eq_true rfl))
  k_with "k_ne" => ((refine neN ?_; (try dsimp only); first | exact Nat.ne_of_gt (by assumption) | exact Nat.ne_of_lt (by assumption) | exact Nat.ne_of_gt (And.left (by assumption)) | exact Nat.ne_of_lt (And.left (by assumption)) | exact Nat.ne_of_gt (And.left (And.right (by assumption))) | exact Nat.ne_of_lt (And.left (And.right (by assumption))) | exact Nat.ne_of_gt (And.right (by assumption)) | exact Nat.ne_of_lt (And.right (by assumption)) | exact Nat.ne_of_gt (And.left (And.right (And.right (by assumption)))) | exact Nat.ne_of_lt (And.left (And.right (And.right (by assumption)))) | exact Nat.ne_of_gt (And.right (And.right (by assumption))) | exact Nat.ne_of_lt (And.right (And.right (by assumption)))))
  k_with "pick" => (with_reducible first | assumption | exact And.left ‹_› | exact And.left (And.right ‹_›) | exact And.left (And.right (And.right ‹_›)) | exact And.left (And.right (And.right (And.right ‹_›))) | exact And.left (And.right (And.right (And.right (And.right ‹_›)))) | exact And.left (And.right (And.right (And.right (And.right (And.right ‹_›))))) | exact And.left (And.right (And.right (And.right (And.right (And.right (And.right ‹_›)))))) | exact And.left (And.right (And.right (And.right (And.right (And.right (And.right (And.right ‹_›))))))) | exact And.left (And.right (And.right (And.right (And.right (And.right (And.right (And.right (And.right ‹_›)))))))) | exact And.left (And.right (And.right (And.right (And.right (And.right (And.right (And.right (And.right (And.right ‹_›))))))))) | exact And.left (And.right (And.right (And.right (And.right (And.right (And.right (And.right (And.right (And.right (And.right ‹_›)))))))))) | exact (And.right ‹_›) | exact (And.right (And.right ‹_›)) | exact (And.right (And.right (And.right ‹_›))) | exact (And.right (And.right (And.right (And.right ‹_›)))) | exact (And.right (And.right (And.right (And.right (And.right ‹_›))))) | exact (And.right (And.right (And.right (And.right (And.right (And.right ‹_›)))))) | exact (And.right (And.right (And.right (And.right (And.right (And.right (And.right ‹_›))))))) | exact (And.right (And.right (And.right (And.right (And.right (And.right (And.right (And.right ‹_›)))))))) | exact (And.right (And.right (And.right (And.right (And.right (And.right (And.right (And.right (And.right ‹_›))))))))) | exact (And.right (And.right (And.right (And.right (And.right (And.right (And.right (And.right (And.right (And.right ‹_›)))))))))))
  k_with "k_room" => (((simp only [depth_under_make, depth_under_kw, depth_in1, depth_deeper, depth_caller]); omega))
  k_with "k_all" => (assumption)
  k_with "eval Name" => (k_here; dsimp only)
  k_with "eval Call" => (k_here; dsimp only)
  k_with "eval Constant int" => (k_here; dsimp only)
  k_with "eval Attribute Name" => (k_here; dsimp only)
  k_with "eval BinOp" => (k_here; dsimp only)
  k_with "storeName" => (k_here; dsimp only)
  k_with "setAttr ref" => (k_here; dsimp only)
  k_with "eval Compare" => (k_here; dsimp only)
  k_with "isTrue Compare" => (k_here; dsimp only)
  k_with "eval Subscript" => (k_here; dsimp only)
  k_with "execs cons" => (k_here; first | (with_reducible rename News _ _ _ _ => nZ9; dsimp only at nZ9) | dsimp only | ((with_reducible show wpAny _ _ _ _ _ (Shared.mk _ _ _ (HAdd.hAdd _ _) _)); refine gen_toks ?_; intro _))
  k_with "eval Name" => (k_here; (fail_if_success (with_reducible show wpAny _ _ (eval _ (compEnvC _ _ _ _)) _ _ _)); (try dsimp only); k_dflt (first | (refine' nameX_L ?q9F ?q9v ?_ ?q9a ?q9b; (case q9F => k_asm); (case q9a => rfl); (case q9b => rfl); (case q9v => rfl); k_whole) | (refine' nameX_K ?q9F ?q9X ?q9T ?q9e ?_ ?q9a ?q9b; (case q9F => k_asm); (case q9X => k_asm); (case q9T => k_asm); (case q9a => rfl); (case q9b => rfl); (case q9e => k_is); k_whole) | (refine' nameX_B ?q9F ?q9X ?q9T ?q9e ?q9v ?q9n ?_ ?q9a ?q9b; (case q9F => k_asm); (case q9X => k_asm); (case q9T => k_asm); (case q9a => rfl); (case q9b => rfl); (case q9e => k_is); (case q9v => boot_fast); (case q9n => decide); k_whole)))
  k_with "execs cons" => (k_here; (try (with_reducible rename News _ _ _ _ => nZ9; dsimp only at nZ9)); (try dsimp only); (try ((with_reducible show wpAny _ _ _ _ _ (Shared.mk _ _ _ (HAdd.hAdd _ _) _)); refine gen_toks ?_; intro _)); (with_reducible refine wpAny_execs_cons ?_); (try dsimp only))
  k_with "eval Constant int" => (k_here; (try dsimp only); refine wpAny_Constant_int ?_)
  k_with "spliced" => (k_here; (fail_if_success (with_reducible show wpAny _ _ (spliced (backTo _ (starEach (PySem.Expr.Starred _ _ :: _) _))) _ _ _)); k_dflt (first | refine args_cons ?_ | (refine args_nil ?_; try simp only [List.cons_append, List.nil_append])))
  k_with "subscriptTail" => (k_here; (with_reducible show wpAny _ _ (subscriptTail _ _ (Value.ref _) (Value.int _ _)) _ _ _); k_dflt (refine' item_tupleT ?q9t ?q9a ?q9b ?q9c ?q9d ?_; (case q9t => exact News.isTup (by k_asm) (by k_mem)); (case q9a => decide); (case q9b => decide); (case q9c => rfl); (case q9d => rfl); k_whole))
  k_with "storeName" => (k_here; (fail_if_success (with_reducible show wpAny _ _ (storeName _ _ (compEnvC _ _ _ _)) _ _ _)); (try dsimp only); k_dflt (refine' storeX_L ?q9F ?q9N ?_ ?q9a ?q9b; (case q9F => k_asm); (case q9N => k_asm); (case q9a => rfl); (case q9b => rfl); k_whole; intro z9h z9F z9N; (try k_sweep)))
  k_with "callWith ref" => (k_here; k_dflt (first | (refine' callWith_K ?q9a ?q9b ?_; (case q9a => k_asm); (case q9b => k_is); k_whole) | (refine' callWith_K0 ?q9a ?q9b ?_; (case q9a => k_in); (case q9b => k_is); k_whole) | (refine' callWith_M0 ?q9a ?q9b ?_; (case q9a => k_meth); (case q9b => k_is); k_whole; try dsimp only [List.nil_append, List.cons_append]) | (refine' callWith_M ?q9a ?q9b ?q9c ?q9d ?_; (case q9a => k_asm); (case q9b => k_asm); (case q9c => k_mem); (case q9d => k_is); k_whole)))
  k_with "truthy bool" => (with_reducible refine wpAny_truthy_bool ?_)
  k_with "k_mem" => first | with_reducible assumption | assumption
  k_with "subscriptTail" => (k_here; (with_reducible show wpAny _ _ (subscriptTail _ _ (Value.ref _) (Value.int _ _)) _ _ _); (with_unfolding_all refine' item_litK ?q9k1 ?q9k2 ?q9k3 ?q9k4 ?_ ?q9k6; (case q9k1 => exact News.isList (by k_asm) (by k_mem)); (case q9k2 => decide); (case q9k3 => decide); (case q9k4 => rfl); (case q9k6 => with_unfolding_all rfl); k_whole))
  k_with "callWith" => ((with_reducible show wpAny _ _ (callWith _ (Value.builtin _) (_ :: _) (backTo _ (starEach (_ :: _) _)) []) _ _ _); k_dflt (refine callWith_method1 ?_))
  trivial
section
variable {prog : Program} {w : World} {p : Program} {loose : List Str} {mean : ExcName → Option Value} {mg mb : Str → Option Value}
 {dp un : Nat} {gd : Option (List Code)} {cn : Str} {cs : Scope} {a : Addr} {ccd : Value} {cl : List (Str × Addr)} {outer : List Env} {A₀ : Around} {base h₀ : Heap} {L : Addr} {m : Str → Option Value} {s : Shared} {Q E : Value → Shared → Prop}
noncomputable def frmT (ps : List (Str × Value)) (stored : List Str) (u m₀ : Str → Option Value) : Str → Option Value := fun y => match ps.lookup y with
  | some z => some z
  | none => if stored.contains y then u y else m₀ y
inductive TuNext {σ : Type} (h₀ : Heap) (L : Addr) (LedF : σ → Led) (ps : σ → List (Str × Value)) (stored : List Str) (m₀ : Str → Option Value) (I' : σ → Prop) (own : Led) (s₁ s₂ : Shared) : Prop
  | mk (c' : σ) (h' : Heap) (tk' : Nat) (m' : Str → Option Value) (nx : Led) (p1 : s₂ = { s₁ with heap := h', toks := tk' }) (p2 : Fr h₀ L h' m') (p3 : News h₀ L h' nx) (p4 : ∀ q ∈ LedF c', q ∈ nx) (p5 : ∀ q ∈ own, q ∈ nx) (p6 : OwnOff own ((LedF c').map (·.1))) (p7 : Has m' (ps c')) (p8 : ∀ z, (ps c').lookup z = none → stored.contains z = false → m' z = m₀ z) (p9 : I' c') : TuNext h₀ L LedF ps stored m₀ I' own s₁ s₂
inductive TuInv {σ : Type} (LedF : σ → Led) (ps : σ → List (Str × Value)) (stored : List Str) (m₀ : Str → Option Value) (I : Nat → σ → Prop) (i : Nat) (m : Str → Option Value) (nx : Led) : Prop
  | mk (c : σ) (p1 : nx = LedF c) (p2 : ∀ p ∈ ps c, m p.1 = some p.2) (p3 : ∀ z, (ps c).lookup z = none → stored.contains z = false → m z = m₀ z) (p4 : I i c) : TuInv LedF ps stored m₀ I i m nx
theorem frmT_eq {ps : List (Str × Value)} {stored : List Str} {m₁ m₀ : Str → Option Value} (hp : ∀ p ∈ ps, m₁ p.1 = some p.2) (hm : ∀ z, ps.lookup z = none → stored.contains z = false → m₁ z = m₀ z) : m₁ = frmT ps stored m₁ m₀ := by
  funext y
  unfold frmT
  cases h2 : ps.lookup y with
  | some z => exact hp _ (mem_of_lookup h2)
  | none =>
    show m₁ y = if stored.contains y then m₁ y else m₀ y
    cases h3 : stored.contains y with
    | true => rfl
    | false => exact hm y h2 h3
theorem tu_own {l I : Addr} {ol : Obj} {own nx : Led} {hh' h' : Heap} (ho : ∀ q ∈ own.filter (fun p => decide (p.1 = I)), q ∈ nx) (hn : (l, ol) ∈ nx) (N' : News h₀ L h' nx) (hown : ∀ p ∈ own, p.1 = I ∨ p.1 = l) (hget : ∀ p ∈ own, hh'.get? p.1 = some p.2) (hlo : hh'.get? l = some ol) : ∀ p ∈ own, h'.get? p.1 = some p.2 ∧ p.1 ≠ L ∧ h₀.get? p.1 = none := by
  intro p h
  by_cases hI : p.1 = I
  · exact N' p (ho p (List.mem_filter.mpr ⟨h, by simpa using hI⟩))
  · have h1 : p.1 = l := (hown p h).resolve_left hI
    have h2 : hh'.get? p.1 = some p.2 := hget p h
    rw [h1, hlo] at h2
    have h3 : p = (l, ol) := Prod.ext h1 (Option.some.inj h2).symm
    rw [h3]
    exact N' _ hn
noncomputable def TuPost {σ : Type} (h₀ : Heap) (L : Addr) (LedF : σ → Led) (ps : σ → List (Str × Value)) (stored : List Str) (m₀ : Str → Option Value) (I' : σ → Prop) (own : Led) (s₁ : Shared) (Q : Flow → Shared → Prop) (f : Flow) (s₂ : Shared) : Prop :=
  match f with
  | .ret v => Q (.ret v) s₂
  | .brk => Q .next s₂
  | _ => TuNext h₀ L LedF ps stored m₀ I' own s₁ s₂
theorem turns_st {σ : Type} {A : Around} {env : Env} {target : PySem.Expr} {body : List Stmt} {Q : Flow → Shared → Prop} {l : Addr} {cvs : List Value} {nc : Nat} {m₀ : Str → Option Value} (LedF : σ → Led) (ps : σ → List (Str × Value)) (stored : List Str) (I : Nat → σ → Prop) (c₀ : σ)
    (hh : A.handled = none) (hl : ∀ c, (l, listOf cvs.toArray nc) ∈ LedF c) (F : Fr h₀ env.locals s.heap m₀) (N : News h₀ env.locals s.heap (LedF c₀)) (hps : Has m₀ (ps c₀)) (h0 : I 0 c₀)
    (turn : ∀ i v c u h tk own, cvs[i]? = some v → OwnOff own ((LedF c).map (·.1)) → I i c → Fr h₀ env.locals h (frmT (ps c) stored u m₀) → News h₀ env.locals h (LedF c ++ own) →
      wpAny (model prog w) A (assign target env v) (fun _ s₃ => wpAny (model prog w) A (execs body env) (TuPost h₀ env.locals LedF ps stored m₀ (I (i + 1)) own { s with heap := h, toks := tk } Q) E s₃) E { s with heap := h, toks := tk })
    (done : ∀ c u h tk, I cvs.length c → Fr h₀ env.locals h (frmT (ps c) stored u m₀) → News h₀ env.locals h (LedF c) → Q .next { s with heap := h, toks := tk }) :
    wpAny (model prog w) A (pyIter (.ref l)) (fun it s₂ => TurnsAt prog w A h₀ env target body Q E it s₂) E s := by
  have hl₀ := hl c₀
  have hol : s.heap.get? l = some (listOf cvs.toArray nc) := (N _ hl₀).1
  have hls : s.heap.IsList l cvs.toArray := ⟨_, hol, rfl, nc, rfl⟩
  have hne : l ≠ s.heap.objs.size := Nat.ne_of_lt (Heap.lt_size hol)
  refine wpAny_pyIter_list hls ?_
  have W := Walks.list (prog := prog) (w := w) hh s.heap.objs.size l hne cvs.toArray
  have hlen : cvs.toArray.size = cvs.length := by simp
  rw [hlen] at W
  have W' := KTurns.ofWalks (target := target) W fun i v s Q E st q => letGo_listiter st.1 q
  refine ⟨_, _, _, cvs.length, _, _, _, m₀, LedF c₀, (TuInv LedF ps stored m₀ I), rfl, W', ?_, ?_, ?_, ⟨⟨_, Heap.get?_push_size _ rfl, rfl, rfl⟩, hls.at fun o e => Heap.get?_push_of_some _ e⟩, F.push _, (fun p hp => ⟨Heap.get?_push_of_some _ (N p hp).1, (N p hp).2⟩), ⟨c₀, rfl, hps, fun _ _ _ => rfl, h0⟩, ?_, ?_⟩
  · intro hm
    rcases List.mem_cons.mp hm with e | hm
    · exact absurd F.ns.lt (e ▸ Nat.lt_irrefl _)
    · exact (N _ hl₀).2.1 ((List.mem_singleton.mp hm).symm)
  · intro b hb
    rw [List.mem_singleton.mp hb]
    exact next_is_new F
  · intro p hp hI
    exact absurd (Heap.lt_size (N p hp).1) ((List.mem_singleton.mp hI) ▸ Nat.lt_irrefl _)
  · rintro i v m₁ news₁ hh' tk' own hin hP ⟨c, rfl, hp, hm, hI⟩ hoff hown hget hfp hst F₁ N₁
    have hP' : cvs[i]? = some v := by simpa using hP
    have hI0 : h₀.get? s.heap.objs.size = none := next_is_new F
    obtain ⟨⟨oI, hoI, _⟩, _⟩ := id hst
    have hIown : (s.heap.objs.size, oI) ∈ own.filter fun p => decide (p.1 = s.heap.objs.size) := List.mem_filter.mpr ⟨hfp _ (List.mem_cons.mpr (.inl rfl)) hI0 _ hoI, by simp⟩
    have hsep : OwnOff (own.filter fun p => decide (p.1 = s.heap.objs.size)) ((LedF c).map (·.1)) := by
      intro p hp b hb e
      obtain ⟨q, hq, rfl⟩ := List.mem_map.mp hb
      have h1 : p.1 = s.heap.objs.size := by simpa using (List.mem_filter.mp hp).2
      exact hoff q hq (List.mem_singleton.mpr (e ▸ h1))
    have N₂ : News h₀ env.locals hh' (LedF c ++ own.filter fun p => decide (p.1 = s.heap.objs.size)) := fun p hp => N₁ p ((List.mem_append.mp hp).elim (fun h => List.mem_append.mpr (.inr h)) fun h => List.mem_append.mpr (.inl ((List.mem_filter.mp h).1)))
    have hlo : hh'.get? l = some (listOf cvs.toArray nc) := (N₁ _ (List.mem_append.mpr (.inr (hl c)))).1
    rw [frmT_eq hp hm] at F₁
    refine wpAny_mono (turn i v c m₁ hh' tk' _ hP' hsep hI F₁ N₂) (fun _ s₃ p => wpAny_mono p (fun f s₂ p => ?_) fun _ _ e => e) fun _ _ e => e
    have fin : TuNext h₀ env.locals LedF ps stored m₀ (I (i + 1)) (own.filter fun p => decide (p.1 = s.heap.objs.size)) { s with heap := hh', toks := tk' } s₂ →
        LoopStepU h₀ env.locals [s.heap.objs.size] own (TuInv LedF ps stored m₀ I (i + 1)) { s with heap := hh', toks := tk' } .next s₂ := by
      rintro ⟨c', h', tk, m', nx, e, F', N', hn, ho, ha, hp', hm', hI'⟩
      refine ⟨rfl, h', tk, m', LedF c', e, F', fun p hp => ?_, fun p hp hq => ?_, c', rfl, hp', hm', hI'⟩
      · rcases List.mem_append.mp hp with h | h
        · exact tu_own ho (hn _ (hl c')) N' (fun p h => (List.mem_cons.mp (hown p h)).imp_right List.mem_singleton.mp) hget hlo p h
        · exact N' p (hn p h)
      · exact ha _ hIown p.1 (List.mem_map.mpr ⟨p, hp, rfl⟩) (List.mem_singleton.mp hq).symm
    cases f with
    | ret v => exact .ret p
    | brk => exact .brk p
    | next => exact .next (fin p)
    | cont => exact .cont (fin p)
  · rintro h' tk m' news' F' N' _ ⟨c, rfl, hp, hm, hI⟩
    rw [frmT_eq hp hm] at F'
    exact done c m' h' tk hI F' N'

end
end
section
theorem rg32 : True := by
  k_with_none
  k_with "omega" => (first | decide | (with_reducible first | exact Int.natCast_nonneg _ | exact rm1 ‹_› (by decide) | exact rm2 ‹_› (by decide) | exact rm3 ‹_› (by decide) | exact om_le ‹_› (by decide) | exact om_63 ‹_› (by decide) | exact om_eqle ‹_› ‹_› (by decide) | exact om_eq63 ‹_› ‹_› (by decide) | exact om_add ‹_› (by decide) | exact om_ne ‹_› (by decide) | exact om_le2 ‹_› ‹_› (by decide) | exact om_le2s ‹_› ‹_› (by decide) | exact om_le2_63 ‹_› ‹_› (by decide) | exact om_le2s_63 ‹_› ‹_› (by decide) | exact om_z62 ‹_› (by decide) | exact om_zn62 | exact om_kle ‹_› (by decide) | exact om_neg1 | exact om_pos | exact om_at ‹_› (by decide) | exact om_at0 ‹_› | exact om_add63 ‹_› (by decide) | exact Nat.ne_of_gt (by k_extra "pick") | exact Nat.ne_of_lt (by k_extra "pick")) | lia)
  k_with "ktr_room" => (first | exact rm0 (by assumption) | exact rm1 (by assumption) (Nat.le_of_ble_eq_true rfl))
  k_with "k_ne" => ((refine neN ?_; (try dsimp only); first | exact Nat.ne_of_gt (by assumption) | exact Nat.ne_of_lt (by assumption) | exact Nat.ne_of_gt (And.left (by assumption)) | exact Nat.ne_of_lt (And.left (by assumption)) | exact Nat.ne_of_gt (And.left (And.right (by assumption))) | exact Nat.ne_of_lt (And.left (And.right (by assumption))) | exact Nat.ne_of_gt (And.right (by assumption)) | exact Nat.ne_of_lt (And.right (by assumption)) | exact Nat.ne_of_gt (And.left (And.right (And.right (by assumption)))) | exact Nat.ne_of_lt (And.left (And.right (And.right (by assumption)))) | exact Nat.ne_of_gt (And.right (And.right (by assumption))) | exact Nat.ne_of_lt (And.right (And.right (by assumption)))))
  k_with "pick" => (with_reducible first | assumption | exact And.left ‹_› | exact And.left (And.right ‹_›) | exact And.left (And.right (And.right ‹_›)) | exact And.left (And.right (And.right (And.right ‹_›))) | exact And.left (And.right (And.right (And.right (And.right ‹_›)))) | exact And.left (And.right (And.right (And.right (And.right (And.right ‹_›))))) | exact And.left (And.right (And.right (And.right (And.right (And.right (And.right ‹_›)))))) | exact And.left (And.right (And.right (And.right (And.right (And.right (And.right (And.right ‹_›))))))) | exact And.left (And.right (And.right (And.right (And.right (And.right (And.right (And.right (And.right ‹_›)))))))) | exact And.left (And.right (And.right (And.right (And.right (And.right (And.right (And.right (And.right (And.right ‹_›))))))))) | exact And.left (And.right (And.right (And.right (And.right (And.right (And.right (And.right (And.right (And.right (And.right ‹_›)))))))))) | exact (And.right ‹_›) | exact (And.right (And.right ‹_›)) | exact (And.right (And.right (And.right ‹_›))) | exact (And.right (And.right (And.right (And.right ‹_›)))) | exact (And.right (And.right (And.right (And.right (And.right ‹_›))))) | exact (And.right (And.right (And.right (And.right (And.right (And.right ‹_›)))))) | exact (And.right (And.right (And.right (And.right (And.right (And.right (And.right ‹_›))))))) | exact (And.right (And.right (And.right (And.right (And.right (And.right (And.right (And.right ‹_›)))))))) | exact (And.right (And.right (And.right (And.right (And.right (And.right (And.right (And.right (And.right ‹_›))))))))) | exact (And.right (And.right (And.right (And.right (And.right (And.right (And.right (And.right (And.right (And.right ‹_›)))))))))))
  k_with "k_room" => (((simp only [depth_under_make, depth_under_kw, depth_in1, depth_deeper, depth_caller]); omega))
  k_with "k_all" => (assumption)
  k_with "eval Name" => (k_here; dsimp only)
  k_with "eval Call" => (k_here; dsimp only)
  k_with "eval Constant int" => (k_here; dsimp only)
  k_with "eval Attribute Name" => (k_here; dsimp only)
  k_with "eval BinOp" => (k_here; dsimp only)
  k_with "storeName" => (k_here; dsimp only)
  k_with "setAttr ref" => (k_here; dsimp only)
  k_with "eval Compare" => (k_here; dsimp only)
  k_with "isTrue Compare" => (k_here; dsimp only)
  k_with "eval Subscript" => (k_here; dsimp only)
  k_with "execs cons" => (k_here; first | (with_reducible rename News _ _ _ _ => nZ9; dsimp only at nZ9) | dsimp only | ((with_reducible show wpAny _ _ _ _ _ (Shared.mk _ _ _ (HAdd.hAdd _ _) _)); refine gen_toks ?_; intro _))
  k_with "eval Name" => (k_here; (fail_if_success (with_reducible show wpAny _ _ (eval _ (compEnvC _ _ _ _)) _ _ _)); (try dsimp only); k_dflt (first | (refine' nameX_L ?q9F ?q9v ?_ ?q9a ?q9b; (case q9F => k_asm); (case q9a => rfl); (case q9b => rfl); (case q9v => rfl); k_whole) | (refine' nameX_K ?q9F ?q9X ?q9T ?q9e ?_ ?q9a ?q9b; (case q9F => k_asm); (case q9X => k_asm); (case q9T => k_asm); (case q9a => rfl); (case q9b => rfl); (case q9e => k_is); k_whole) | (refine' nameX_B ?q9F ?q9X ?q9T ?q9e ?q9v ?q9n ?_ ?q9a ?q9b; (case q9F => k_asm); (case q9X => k_asm); (case q9T => k_asm); (case q9a => rfl); (case q9b => rfl); (case q9e => k_is); (case q9v => boot_fast); (case q9n => decide); k_whole)))
  k_with "execs cons" => (k_here; (try (with_reducible rename News _ _ _ _ => nZ9; dsimp only at nZ9)); (try dsimp only); (try ((with_reducible show wpAny _ _ _ _ _ (Shared.mk _ _ _ (HAdd.hAdd _ _) _)); refine gen_toks ?_; intro _)); (with_reducible refine wpAny_execs_cons ?_); (try dsimp only))
  k_with "eval Constant int" => (k_here; (try dsimp only); refine wpAny_Constant_int ?_)
  k_with "spliced" => (k_here; (fail_if_success (with_reducible show wpAny _ _ (spliced (backTo _ (starEach (PySem.Expr.Starred _ _ :: _) _))) _ _ _)); k_dflt (first | refine args_cons ?_ | (refine args_nil ?_; try simp only [List.cons_append, List.nil_append])))
  k_with "subscriptTail" => (k_here; (with_reducible show wpAny _ _ (subscriptTail _ _ (Value.ref _) (Value.int _ _)) _ _ _); k_dflt (refine' item_tupleT ?q9t ?q9a ?q9b ?q9c ?q9d ?_; (case q9t => exact News.isTup (by k_asm) (by k_mem)); (case q9a => decide); (case q9b => decide); (case q9c => rfl); (case q9d => rfl); k_whole))
  k_with "storeName" => (k_here; (fail_if_success (with_reducible show wpAny _ _ (storeName _ _ (compEnvC _ _ _ _)) _ _ _)); (try dsimp only); k_dflt (refine' storeX_L ?q9F ?q9N ?_ ?q9a ?q9b; (case q9F => k_asm); (case q9N => k_asm); (case q9a => rfl); (case q9b => rfl); k_whole; intro z9h z9F z9N; (try k_sweep)))
  k_with "callWith ref" => (k_here; k_dflt (first | (refine' callWith_K ?q9a ?q9b ?_; (case q9a => k_asm); (case q9b => k_is); k_whole) | (refine' callWith_K0 ?q9a ?q9b ?_; (case q9a => k_in); (case q9b => k_is); k_whole) | (refine' callWith_M0 ?q9a ?q9b ?_; (case q9a => k_meth); (case q9b => k_is); k_whole; try dsimp only [List.nil_append, List.cons_append]) | (refine' callWith_M ?q9a ?q9b ?q9c ?q9d ?_; (case q9a => k_asm); (case q9b => k_asm); (case q9c => k_mem); (case q9d => k_is); k_whole)))
  k_with "truthy bool" => (with_reducible refine wpAny_truthy_bool ?_)
  k_with "k_mem" => first | with_reducible assumption | assumption
  k_with "subscriptTail" => (k_here; (with_reducible show wpAny _ _ (subscriptTail _ _ (Value.ref _) (Value.int _ _)) _ _ _); (with_unfolding_all refine' item_litK ?q9k1 ?q9k2 ?q9k3 ?q9k4 ?_ ?q9k6; (case q9k1 => exact News.isList (by k_asm) (by k_mem)); (case q9k2 => decide); (case q9k3 => decide); (case q9k4 => rfl); (case q9k6 => with_unfolding_all rfl); k_whole))
  k_with "callWith" => ((with_reducible show wpAny _ _ (callWith _ (Value.builtin _) (_ :: _) (backTo _ (starEach (_ :: _) _)) []) _ _ _); k_dflt (refine callWith_method1 ?_))
  trivial
section
variable {prog : Program} {w : World} {p : Program} {loose : List Str} {mean : ExcName → Option Value} {mg mb : Str → Option Value}
 {dp un : Nat} {gd : Option (List Code)} {cn : Str} {cs : Scope} {a : Addr} {ccd : Value} {cl : List (Str × Addr)} {outer : List Env} {A₀ : Around} {base h₀ : Heap} {L : Addr} {m : Str → Option Value} {s : Shared} {Q E : Value → Shared → Prop}
structure FpS where
  done : List Int
  rest : List Int
  vs : List Value
  n : Nat
  tl : Led
  t : Tok
noncomputable def enc (c : Int) : List Int := if 19968 ≤ c then [228, 184, 128 + (c - 19968)] else [c]
noncomputable def encs (ss : List Int) : List Int := (ss.map enc).flatten
noncomputable def SignOk (c : Int) : Prop := (36 ≤ c ∧ c < 127) ∨ (19968 ≤ c ∧ c ≤ 19970)
theorem encs_append (a b : List Int) : encs (a ++ b) = encs a ++ encs b := by simp [encs]
theorem encs_cons (a : Int) (b : List Int) : encs (a :: b) = enc a ++ encs b := by simp [encs]
noncomputable def PieceV (l : Led) (v : Value) (c : Int) : Prop := ∃ x b t n, v = .ref x ∧ (x, tupO [.bool true, .bytes b t] n) ∈ l ∧ KBw.bInts b = enc c
inductive PiecesV (l : Led) : List Value → List Int → Prop
  | nil : PiecesV l [] []
  | cons {v : Value} {vs : List Value} {c : Int} {cs : List Int} : PieceV l v c → PiecesV l vs cs → PiecesV l (v :: vs) (c :: cs)
theorem PieceV.mono {l l' : Led} {v : Value} {c : Int} (h : PieceV l v c) (hs : ∀ p ∈ l, p ∈ l') : PieceV l' v c := by
  obtain ⟨x, b, t, n, e, hm, hb⟩ := h
  exact ⟨x, b, t, n, e, hs _ hm, hb⟩
theorem PiecesV.mono {l l' : Led} {vs : List Value} {cs : List Int} (h : PiecesV l vs cs) (hs : ∀ p ∈ l, p ∈ l') : PiecesV l' vs cs := by
  induction h with
  | nil => exact .nil
  | cons a _ ih => exact .cons (a.mono hs) ih
theorem PiecesV.snoc {l : Led} {vs : List Value} {cs : List Int} {v : Value} {c : Int} (h : PiecesV l vs cs) (k : PieceV l v c) : PiecesV l (vs ++ [v]) (cs ++ [c]) := by
  induction h with
  | nil => exact .cons k .nil
  | cons a _ ih => exact .cons a ih
theorem PiecesV.length {l : Led} {vs : List Value} {cs : List Int} (h : PiecesV l vs cs) : vs.length = cs.length := by
  induction h with
  | nil => rfl
  | cons _ _ ih => rw [List.length_cons, List.length_cons, ih]
theorem PiecesV.get {l : Led} {vs : List Value} {cs : List Int} (h : PiecesV l vs cs) {k : Nat} {v : Value} (hk : vs[k]? = some v) : ∃ c, cs[k]? = some c ∧ PieceV l v c := by
  induction h generalizing k with
  | nil => cases hk
  | cons a h ih => cases k with
    | zero => cases hk; exact ⟨_, rfl, a⟩
    | succ k => exact ih hk
noncomputable def At (ks : List Int) (i : Int) (x : Int) : Prop := 0 ≤ i ∧ ks[i.toNat]? = some x
noncomputable def Sl (ks : List Int) (i j : Int) (l : List Int) : Prop := 0 ≤ i ∧ 0 ≤ j ∧ (ks.drop i.toNat).take (j.toNat - i.toNat) = l
theorem at_k {pre more : List Int} {i x : Int} (k : Nat) (hi : i = (pre.length : Int) + k) (hx : more[k]? = some x) : At (pre ++ more) i x := by
  refine ⟨by (first | lia | omega), ?_⟩
  have e : i.toNat = pre.length + k := by (first | lia | omega)
  rw [e, List.getElem?_append_right (by (first | lia | omega)), Nat.add_sub_cancel_left]; exact hx
theorem sl_k {pre more l : List Int} {i j : Int} (k : Nat) (hi : i = (pre.length : Int)) (hj : j = (pre.length : Int) + k) (hl : more.take k = l) : Sl (pre ++ more) i j l := by
  refine ⟨by (first | lia | omega), by (first | lia | omega), ?_⟩
  have e : i.toNat = pre.length := by (first | lia | omega)
  have e2 : j.toNat - i.toNat = k := by (first | lia | omega)
  rw [e2, e, List.drop_left]; exact hl
theorem bt_item {A : Around} {value slice : PySem.Expr} {b : Array UInt8} {t ui : Tok} {ks : List Int} {i x : Int} {Q : Value → Shared → Prop} (hk : KBw.bInts b = ks) (hfit : ks.length ≤ 1000) (hx : At ks i x)
    (h : ∀ t' k, Q (.int x t') { s with toks := k })
    (hs : subscripted slice false (.bytes b t) (.int i ui) = operate [.bytes b t, .int i ui] (getItem (.bytes b t) (.int i ui)))
    (ht : ∀ r, letTemporaryGo value (.bytes b t) r = pure ()) : wpAny (model prog w) A (subscriptTail value slice (.bytes b t) (.int i ui)) Q E s := by
  obtain ⟨h0, hx⟩ := hx
  have hl : i.toNat < ks.length := (List.getElem?_eq_some_iff.mp hx).1
  refine KBw.item_K hk (by (first | lia | omega)) h0 (by (first | lia | omega)) (fun t' k _ _ => ?_) hs ht
  rw [List.getD_eq_getElem?_getD, hx]; exact h t' k
theorem bt_slice {A : Around} {news : Led} {value slice : PySem.Expr} {b : Array UInt8} {t t1 t2 : Tok} {ks l : List Int} {i j : Int} {Q : Value → Shared → Prop} (hF : Fr h₀ L s.heap m) (hN : News h₀ L s.heap news) (hk : KBw.bInts b = ks) (hfit : ks.length ≤ 1000) (hx : Sl ks i j l)
    (h : ∀ h' b' t' k, Fr h₀ L h' m → News h₀ L h' news → KBw.bInts b' = l → Q (.bytes b' t') { s with heap := h', toks := k })
    (hs : subscripted slice false (.bytes b t) (.ref s.heap.objs.size) = operate [.ref s.heap.objs.size, .bytes b t] (getItem (.bytes b t) (.ref s.heap.objs.size)))
    (ht : ∀ r, letTemporaryGo value (.bytes b t) r = pure ()) :
    wpAny (model prog w) A (subscriptTail value slice (.bytes b t) (.ref s.heap.objs.size)) Q E { s with heap := s.heap.push { cls := .type "slice", data := .fields #[.int i t1, .int j t2, .none] } } := by
  obtain ⟨h0, h1, hx⟩ := hx
  refine KBc.slice_K (lo := some i) (hi := some j) hF hN hk (by constructor) (by constructor) (by (first | lia | omega)) (fun h' t' k F' N' e => h h' _ t' k F' N' ?_) hs ht
  rw [e]
  have ei : clipAt ks.length i = min i.toNat ks.length := by rw [← clipAt_nat]; congr 1; (first | lia | omega)
  have ej : clipAt ks.length j = min j.toNat ks.length := by rw [← clipAt_nat]; congr 1; (first | lia | omega)
  show (ks.drop (clipAt ks.length i)).take (clipAt ks.length j - clipAt ks.length i) = l
  rw [ei, ej, ← hx]
  by_cases hi : i.toNat ≤ ks.length
  · rw [Nat.min_eq_left hi]
    by_cases hj : j.toNat ≤ ks.length
    · rw [Nat.min_eq_left hj]
    · rw [Nat.min_eq_right (show ks.length ≤ j.toNat by (first | lia | omega)), List.take_of_length_le (by rw [List.length_drop]; (first | lia | omega)), List.take_of_length_le (by rw [List.length_drop]; (first | lia | omega))]
  · rw [Nat.min_eq_right (show ks.length ≤ i.toNat by (first | lia | omega)), List.drop_eq_nil_of_le (Nat.le_refl _), List.drop_eq_nil_of_le (show ks.length ≤ i.toNat by (first | lia | omega))]
    simp
theorem bt_ne {A : Around} {b c : Array UInt8} {t u : Tok} {x y : Int} {r : List Int} {Q : Value → Shared → Prop} (h1 : KBw.bInts b = x :: r) (h2 : (KBw.bInts c).head? = some y) (hne : x ≠ y) (h : Q (.bool false) s) : wpAny (model prog w) A (compareOp .Eq (.bytes b t) (.bytes c u)) Q E s := by
  refine eq_bytes ?_
  have e : (b.toList == c.toList) = false := by
    rw [beq_eq_false_iff_ne]
    intro e
    have e2 : KBw.bInts b = KBw.bInts c := by unfold KBw.bInts; rw [e]
    rw [← e2, h1] at h2
    exact hne (Option.some.inj h2)
  rw [e]; exact h
theorem enc_nar {c : Int} (h : c < 127) : enc c = [c] := if_neg (by (first | lia | omega))
theorem enc_wide {c : Int} (h : 19968 ≤ c) : enc c = [228, 184, 128 + (c - 19968)] := if_pos h
theorem bt_len {A : Around} {b : Array UInt8} {t : Tok} {ks : List Int} {K : Int} {Q : Value → Shared → Prop} (hk : KBw.bInts b = ks) (hfit : ks.length ≤ 1000) (hl : (ks.length : Int) = K) (h : Q (.int K (s.toks + 1)) { s with toks := s.toks + 1 + 1 }) : wpAny (model prog w) A (call (.builtin "len") [.bytes b t]) Q E s := by
  subst hl
  exact KBw.len_K hk (by (first | lia | omega)) h
theorem rg33 : True := by
  k_with "k_mem" => first | with_reducible assumption | ((repeat (first | exact List.Mem.head _ | with_reducible assumption | exact List.mem_append_left _ (by assumption) | refine List.Mem.tail _ ?_ | refine List.mem_append_right _ ?_ | assumption | exact m_tr (by assumption) (by assumption) | exact m_tr (by assumption) (m_tr (by assumption) (by assumption)))); done)
  k_with "ite" => first | (refine ite_pos (by first | omega | (simp only [beq_iff_eq, decide_eq_true_eq]; omega)) ?_; walk_say "BY OMEGA") | (refine ite_neg (by first | omega | (simp only [beq_iff_eq, decide_eq_true_eq]; omega)) ?_; walk_say "BY OMEGA")
  k_with "call builtin:len" => (k_here; (with_reducible show wpAny _ _ (call (Value.builtin "len") [Value.bytes _ _]) _ _ _); k_dflt (refine' bt_len ?q9zk ?q9zf ?q9zx ?_; (case q9zk => assumption); (case q9zf => assumption); (case q9zx => assumption)))
  k_with "subscriptTail" => (k_here; (with_reducible show wpAny _ _ (subscriptTail _ _ (Value.bytes _ _) (Value.int _ _)) _ _ _); (refine' bt_item ?q9zk ?q9zf ?q9zx ?_ (by with_unfolding_all rfl) (by intro _; with_unfolding_all rfl); (case q9zk => assumption); (case q9zf => assumption); (case q9zx => assumption)); intro _ _)
  k_with "subscriptTail" => (k_here; (with_reducible show wpAny _ _ (subscriptTail _ (Expr.Slice _ _ none _) (Value.bytes _ _) (Value.ref _)) _ _ _); (with_reducible rename Fr _ _ _ _ => z9F'); (with_reducible rename News _ _ _ _ => z9N'); (refine' bt_slice (s := ⟨_, _, _, _, _⟩) z9F' z9N' ?q9zk ?q9zf ?q9zx ?_ (by with_unfolding_all rfl) (by intro _; with_unfolding_all rfl); (case q9zk => assumption); (case q9zf => assumption); (case q9zx => assumption)); intro _ _ _ _ z9F' z9N' _)
  k_with "compareOp Eq bytes bytes" => (k_here; (with_reducible show wpAny _ _ (compareOp CmpOp.Eq (Value.bytes _ _) (Value.bytes _ _)) _ _ _); k_dflt (refine' bt_ne (y := 35) ?q9zk ?q9zf ?q9zx ?_; (case q9zk => assumption); (case q9zf => with_unfolding_all rfl); (case q9zx => omega)))
  k_with "exec While Compare" => (refine stop_in ?_)
  k_with "exec While" => ((with_reducible show wpAny _ _ (exec (Stmt.While (PySem.Expr.BoolOp _ _ _) _ _ _) _) _ _ _); k_here; k_dflt (refine whl_start 100 ?_))
  k_with "exec While BoolOp" => (k_here; k_dflt (refine whl_start 100 ?_))
  k_with "WhlIf" => (first | (refine WhlIf.yes (by simp only [decide_eq_true_eq]; omega) ?_) | (refine WhlIf.no (by simp only [decide_eq_false_iff_not]; omega) ?_))
  trivial
noncomputable def fpL (D : Addr) (news : Led) (c : FpS) : Led := (D, listOf c.vs.toArray c.n) :: (c.tl ++ news)
noncomputable def fpOk (D : Addr) (news : Led) (ss : List Int) (c : FpS) : Prop := ss = c.done ++ c.rest ∧ PiecesV c.tl c.vs c.done ∧ (∀ p ∈ c.tl ++ news, p.1 ≠ D) ∧ ∀ p ∈ c.tl, @LT.lt Nat _ D p.1
noncomputable def fpPs (D : Addr) (c : FpS) : List (Str × Value) := [(Str.ofString "found", .ref D), (Str.ofString "at", .int ((encs c.done).length : Int) c.t)]
theorem encs_len {ss : List Int} : (encs ss).length ≤ 3 * ss.length := by
  induction ss with
  | nil => simp [encs]
  | cons a r ih =>
    rw [encs_cons, List.length_append, List.length_cons]
    have : (enc a).length ≤ 3 := by unfold enc; split <;> simp
    (first | lia | omega)
theorem fp_while {A : Around} {env : Env} {test : PySem.Expr} {body : List Stmt} {pos : Pos} {m₀ : Str → Option Value} {D : Addr} {news : Led} {ss : List Int} {t : Tok} {Q : Flow → Shared → Prop} (F : Fr h₀ L s.heap m₀) (N : News h₀ L s.heap ((D, listOf [].toArray 0) :: news)) (hoff : ∀ p ∈ news, @LT.lt Nat _ p.1 D) (hf : m₀ (Str.ofString "found") = some (.ref D)) (hat : m₀ (Str.ofString "at") = some (.int 0 t))
    (turn : ∀ (c : FpS) (u : Str → Option Value) h tk, fpOk D news ss c → Fr h₀ L h (kstB (fun z => if [Str.ofString "end"].contains z then u z else m₀ z) (fpPs D c)) → News h₀ L h (fpL D news c) →
      wpAny (model prog w) A (isTrue test env (eval test env)) (fun b s₂ =>
        if b = true then wpAny (model prog w) A (execs body env) (KswPost h₀ L s (fpL D news) (fpPs D) (fpOk D news ss) [Str.ofString "end"] m₀ (fun _ => True) (fun c => c.rest.length) Q c) E s₂ else Q .next s₂) E { s with heap := h, toks := tk })
    (hE : PassesOwn (model prog w) A env E) :
    wpAny (model prog w) A (exec (.While test body [] pos) env) Q E s :=
  ksw_while (fpL D news) (fpPs D) (fpOk D news ss) [Str.ofString "end"] (fun _ => True) (fun c => c.rest.length) ⟨[], ss, [], 0, [], t⟩ F N ⟨rfl, .nil, fun p hp => Nat.ne_of_lt (hoff p hp), fun _ hp => nomatch hp⟩ (psc hf (ps1 hat)) trivial (fun c u h tk hok _ => turn c u h tk hok) hE
theorem fp_end {D x : Addr} {news tl : Led} {ss done r : List Int} {c : Int} {vs : List Value} {n tk : Nat} {ta t2 tb : Tok} {b : Array UInt8} {h' : Heap} {m' m₀ : Str → Option Value} {K2 : Int} {nz : Nat}
   (F : Fr h₀ L h' m') (N : News h₀ L h' ((x, tupO [.bool true, .bytes b tb] nz) :: (D, listOf (vs.toArray.push (.ref x)) (n + 1)) :: (tl ++ news))) (hlt : @LT.lt Nat _ D x) (hss : ss = done ++ c :: r) (hP : PiecesV tl vs done) (hoff : ∀ p ∈ tl ++ news, p.1 ≠ D) (hgt : ∀ p ∈ tl, @LT.lt Nat _ D p.1) (hb : KBw.bInts b = enc c)
   (hf : m' (Str.ofString "found") = some (.ref D)) (hat : m' (Str.ofString "at") = some (.int K2 t2)) (hK2 : K2 = ((encs (done ++ [c])).length : Int)) (hr : ∀ z, z ≠ Str.ofString "found" → z ≠ Str.ofString "at" → z ≠ Str.ofString "end" → m' z = m₀ z) :
   KswEnd h₀ L s (fpL D news) (fpPs D) (fpOk D news ss) [Str.ofString "end"] m₀ (fun _ => True) (fun c => c.rest.length) ⟨done, c :: r, vs, n, tl, ta⟩ { s with heap := h', toks := tk } := by
  subst hK2
  refine ksw_end ⟨done ++ [c], r, vs ++ [.ref x], n + 1, (x, tupO [.bool true, .bytes b tb] nz) :: tl, t2⟩ F N ?_ ⟨?_, ?_, ?_, ?_⟩ (psc hf (ps1 hat)) (fun z h1 h2 => hr z (h1 _ (.head _)) (h1 _ (.tail _ (.head _))) (by simpa using h2)) trivial (Nat.lt_succ_self _)
  · intro p hp
    unfold fpL at hp
    dsimp only at hp
    rw [show (vs ++ [Value.ref x]).toArray = vs.toArray.push (.ref x) by simp] at hp
    simp only [List.mem_cons, List.cons_append] at hp ⊢
    rcases hp with hp | hp | hp
    · exact .inr (.inl hp)
    · exact .inl hp
    · exact .inr (.inr hp)
  · rw [hss]; simp
  · exact (hP.mono fun q hq => .tail _ hq).snoc ⟨x, b, tb, nz, rfl, .head _, hb⟩
  · intro p hp
    rcases List.mem_cons.mp hp with rfl | hp
    · exact Nat.ne_of_gt hlt
    · exact hoff p hp
  · intro p hp
    rcases List.mem_cons.mp hp with rfl | hp
    · exact hlt
    · exact hgt p hp
theorem encs_next {c : Int} {r : List Int} (h : SignOk c) : ∃ y q, encs (c :: r) = y :: q ∧ (y < 128 ∨ y = 228) := by
  rcases h with ⟨h1, h2⟩ | ⟨h1, h2⟩
  · exact ⟨c, encs r, by rw [encs_cons, enc_nar h2]; rfl, .inl (by (first | lia | omega))⟩
  · exact ⟨228, 184 :: (128 + (c - 19968)) :: encs r, by rw [encs_cons, enc_wide h1]; rfl, .inr rfl⟩
theorem format_pieces_ok {news : Led} {ss : List Int} {oc : Array UInt8} {t0 : Tok} (B : Below A₀ base outer h₀) (F : Fr h₀ L s.heap m) (X : (Mine.frag.heap_1 w.params).In h₀) (N : News h₀ L s.heap news) (T : Top p loose mean mg mb h₀) (hk : cs.kind = .function)
   (hd : dp + 3 < recursionLimit) (hu : un + 32 < cLine)
   (hb : KBw.bInts oc = encs ss) (hok : ∀ c ∈ ss, SignOk c) (hl : ss.length ≤ 40)
   (hret : ∀ l vs n tl h' tk', Fr h₀ L h' m → News h₀ L h' ((l, listOf vs.toArray n) :: (tl ++ news)) → (∀ q ∈ news, @LT.lt Nat _ q.1 l) → (∀ q ∈ tl, @LT.lt Nat _ l q.1) → PiecesV tl vs ss → Q (.ref l) { s with heap := h', toks := tk' }) :
   wpAny (model prog w) (ktrTop dp un gd cn cs L a ccd cl outer) (call (.ref 130) [.bytes oc t0]) Q E s := by
  have hN : (encs ss).length ≤ 1000 := by have := encs_len (ss := ss); omega
  refine wpAny_call ?_
  k_dflt ktr_enter
  k_steps
  rename Fr _ _ _ _ => F1
  rename News _ _ _ _ => N1
  rename ∀ p : Addr × Obj, p ∈ news → _ => hlt
  refine fp_while (ss := ss) F1 (news_tl N1) hlt rfl rfl ?_ (by passes_own)
  rintro ⟨done, rest, vs, n, tl, ta⟩ u h tk ⟨hss, hP, hoff, hgt⟩ F2 N2
  unfold fpL at N2
  unfold fpPs at F2
  dsimp only at *
  have hvl := hP.length
  have hdl : done.length ≤ 40 := by rw [hss, List.length_append] at hl; omega
  have hss2 : encs ss = encs done ++ encs rest := by rw [hss, encs_append]
  have hK : ((encs ss).length : Int) = ((encs done).length : Int) + ((encs rest).length : Int) := by rw [hss2, List.length_append]; omega
  generalize hKd : ((encs ss).length : Int) = K at hK
  generalize had : ((encs done).length : Int) = a0 at *
  have ha0 : 0 ≤ a0 := by omega
  generalize hks : encs ss = ks at *
  cases rest with
  | nil =>
    have e0 : ((encs []).length : Int) = 0 := rfl
    rw [e0] at hK
    rw [List.append_nil] at hss
    k_steps
    rename News h₀ _ _ _ => kN
    exact hret _ _ _ _ _ _ (by assumption) kN hlt hgt (hss ▸ hP)
  | cons c r =>
    have hc := hok c (by rw [hss]; exact List.mem_append.mpr (.inr (.head _)))
    rcases hc with ⟨h36, h127⟩ | ⟨hw0, hw1⟩
    · have ec : encs (c :: r) = c :: encs r := by rw [encs_cons, enc_nar h127]; rfl
      rw [ec] at hss2 hK
      have a1 : At ks a0 c := hss2 ▸ at_k 0 (by omega) rfl
      have s1 : Sl ks a0 (a0 + 1) [c] := hss2 ▸ sl_k 1 (by omega) (by omega) rfl
      have s2 : Sl ks a0 (a0 + 2) (c :: (encs r).take 1) := hss2 ▸ sl_k 2 (by omega) (by omega) rfl
      have s3 : Sl ks a0 (a0 + 3) (c :: (encs r).take 2) := hss2 ▸ sl_k 3 (by omega) (by omega) rfl
      have e9 : a0 + 1 = ((encs (done ++ [c])).length : Int) := by rw [encs_append, encs_cons, enc_nar h127, List.length_append, ← had]; rfl
      cases r with
      | nil =>
        have hK2 : K = a0 + 1 := by rw [hK]; rfl
        k_steps
        rename News _ _ _ _ => kN
        rename _ ∧ AllLt _ (tl ++ news) => hlt9
        exact fp_end (by assumption) kN hlt9.1 hss hP hoff hgt (by rw [enc_nar h127]; assumption) rfl rfl e9 (by (intro z h1 h2 h3; (try rw [if_neg h2]); (repeat rw [if_neg h3]); (show (if z = Str.ofString "found" then _ else if z = Str.ofString "at" then _ else if _ then _ else _) = _); rw [if_neg h1, if_neg h2, if_neg (by simpa using h3)]))
      | cons c2 r2 =>
        obtain ⟨y, q, ey, hy⟩ := encs_next (r := r2) (hok c2 (by rw [hss]; simp))
        rw [ey] at hss2 hK
        have a2 : At ks (a0 + 1) y := hss2 ▸ at_k 1 (by omega) rfl
        have hK2 : K ≥ a0 + 2 := by rw [hK]; simp only [List.length_cons]; omega
        clear hK
        rcases hy with hy | hy
        all_goals k_steps
        all_goals rename News _ _ _ _ => kN
        all_goals rename _ ∧ AllLt _ (tl ++ news) => hlt9
        all_goals exact fp_end (by assumption) kN hlt9.1 hss hP hoff hgt (by rw [enc_nar h127]; assumption) rfl rfl e9 (by (intro z h1 h2 h3; (try rw [if_neg h2]); (repeat rw [if_neg h3]); (show (if z = Str.ofString "found" then _ else if z = Str.ofString "at" then _ else if _ then _ else _) = _); rw [if_neg h1, if_neg h2, if_neg (by simpa using h3)]))
    · have ec : encs (c :: r) = 228 :: 184 :: (128 + (c - 19968)) :: encs r := by rw [encs_cons, enc_wide hw0]; rfl
      rw [ec] at hss2 hK
      have a1 : At ks a0 228 := hss2 ▸ at_k 0 (by omega) rfl
      have a2 : At ks (a0 + 1) 184 := hss2 ▸ at_k 1 (by omega) rfl
      have a3 : At ks (a0 + 1 + 1) (128 + (c - 19968)) := hss2 ▸ at_k 2 (by omega) rfl
      have s1 : Sl ks a0 (a0 + 1 + 1 + 1) [228, 184, 128 + (c - 19968)] := hss2 ▸ sl_k 3 (by omega) (by omega) rfl
      have s2 : Sl ks a0 (a0 + 2) [228, 184] := hss2 ▸ sl_k 2 (by omega) (by omega) rfl
      have s3 : Sl ks a0 (a0 + 3) [228, 184, 128 + (c - 19968)] := hss2 ▸ sl_k 3 (by omega) (by omega) rfl
      have e9 : a0 + 1 + 1 + 1 = ((encs (done ++ [c])).length : Int) := by rw [encs_append, encs_cons, enc_wide hw0, List.length_append, ← had]; simp [encs]; omega
      cases r with
      | nil =>
        have hK2 : K = a0 + 1 + 1 + 1 := by rw [hK]; simp [encs]; omega
        clear hK
        k_steps
        rename News _ _ _ _ => kN
        rename _ ∧ AllLt _ (tl ++ news) => hlt9
        exact fp_end (by assumption) kN hlt9.1 hss hP hoff hgt (by rw [enc_wide hw0]; assumption) rfl rfl e9 (by (intro z h1 h2 h3; (try rw [if_neg h2]); (repeat rw [if_neg h3]); (show (if z = Str.ofString "found" then _ else if z = Str.ofString "at" then _ else if _ then _ else _) = _); rw [if_neg h1, if_neg h2, if_neg (by simpa using h3)]))
      | cons c2 r2 =>
        obtain ⟨y, q, ey, hy⟩ := encs_next (r := r2) (hok c2 (by rw [hss]; simp))
        rw [ey] at hss2 hK
        have a4 : At ks (a0 + 1 + 1 + 1) y := hss2 ▸ at_k 3 (by omega) rfl
        have hK2 : K ≥ a0 + 4 := by rw [hK]; simp only [List.length_cons]; omega
        clear hK
        rcases hy with hy | hy
        all_goals k_steps
        all_goals rename News _ _ _ _ => kN
        all_goals rename _ ∧ AllLt _ (tl ++ news) => hlt9
        all_goals exact fp_end (by assumption) kN hlt9.1 hss hP hoff hgt (by rw [enc_wide hw0]; assumption) rfl rfl e9 (by (intro z h1 h2 h3; (try rw [if_neg h2]); (repeat rw [if_neg h3]); (show (if z = Str.ofString "found" then _ else if z = Str.ofString "at" then _ else if _ then _ else _) = _); rw [if_neg h1, if_neg h2, if_neg (by simpa using h3)]))

end
end
section
theorem rg34 : True := by
  k_with_none
  k_with "omega" => (first | decide | (with_reducible first | exact Int.natCast_nonneg _ | exact rm1 ‹_› (by decide) | exact rm2 ‹_› (by decide) | exact rm3 ‹_› (by decide) | exact om_le ‹_› (by decide) | exact om_63 ‹_› (by decide) | exact om_eqle ‹_› ‹_› (by decide) | exact om_eq63 ‹_› ‹_› (by decide) | exact om_add ‹_› (by decide) | exact om_ne ‹_› (by decide) | exact om_le2 ‹_› ‹_› (by decide) | exact om_le2s ‹_› ‹_› (by decide) | exact om_le2_63 ‹_› ‹_› (by decide) | exact om_le2s_63 ‹_› ‹_› (by decide) | exact om_z62 ‹_› (by decide) | exact om_zn62 | exact om_kle ‹_› (by decide) | exact om_neg1 | exact om_pos | exact om_at ‹_› (by decide) | exact om_at0 ‹_› | exact om_add63 ‹_› (by decide) | exact Nat.ne_of_gt (by k_extra "pick") | exact Nat.ne_of_lt (by k_extra "pick")))
  k_with "ktr_room" => (first | exact rm0 (by assumption) | exact rm1 (by assumption) (Nat.le_of_ble_eq_true rfl))
  k_with "k_ne" => ((refine neN ?_; (try dsimp only); first | exact Nat.ne_of_gt (by assumption) | exact Nat.ne_of_lt (by assumption) | exact Nat.ne_of_gt (And.left (by assumption)) | exact Nat.ne_of_lt (And.left (by assumption)) | exact Nat.ne_of_gt (And.left (And.right (by assumption))) | exact Nat.ne_of_lt (And.left (And.right (by assumption))) | exact Nat.ne_of_gt (And.right (by assumption)) | exact Nat.ne_of_lt (And.right (by assumption)) | exact Nat.ne_of_gt (And.left (And.right (And.right (by assumption)))) | exact Nat.ne_of_lt (And.left (And.right (And.right (by assumption)))) | exact Nat.ne_of_gt (And.right (And.right (by assumption))) | exact Nat.ne_of_lt (And.right (And.right (by assumption)))))
  k_with "pick" => (with_reducible first | assumption | exact And.left ‹_› | exact And.left (And.right ‹_›) | exact And.left (And.right (And.right ‹_›)) | exact And.left (And.right (And.right (And.right ‹_›))) | exact And.left (And.right (And.right (And.right (And.right ‹_›)))) | exact And.left (And.right (And.right (And.right (And.right (And.right ‹_›))))) | exact And.left (And.right (And.right (And.right (And.right (And.right (And.right ‹_›)))))) | exact And.left (And.right (And.right (And.right (And.right (And.right (And.right (And.right ‹_›))))))) | exact And.left (And.right (And.right (And.right (And.right (And.right (And.right (And.right (And.right ‹_›)))))))) | exact And.left (And.right (And.right (And.right (And.right (And.right (And.right (And.right (And.right (And.right ‹_›))))))))) | exact And.left (And.right (And.right (And.right (And.right (And.right (And.right (And.right (And.right (And.right (And.right ‹_›)))))))))) | exact (And.right ‹_›) | exact (And.right (And.right ‹_›)) | exact (And.right (And.right (And.right ‹_›))) | exact (And.right (And.right (And.right (And.right ‹_›)))) | exact (And.right (And.right (And.right (And.right (And.right ‹_›))))) | exact (And.right (And.right (And.right (And.right (And.right (And.right ‹_›)))))) | exact (And.right (And.right (And.right (And.right (And.right (And.right (And.right ‹_›))))))) | exact (And.right (And.right (And.right (And.right (And.right (And.right (And.right (And.right ‹_›)))))))) | exact (And.right (And.right (And.right (And.right (And.right (And.right (And.right (And.right (And.right ‹_›))))))))) | exact (And.right (And.right (And.right (And.right (And.right (And.right (And.right (And.right (And.right (And.right ‹_›)))))))))))
  k_with "k_room" => (((simp only [depth_under_make, depth_under_kw, depth_in1, depth_deeper, depth_caller]); omega))
  k_with "k_all" => (assumption)
  k_with "eval Name" => (k_here; dsimp only)
  k_with "eval Call" => (k_here; dsimp only)
  k_with "eval Constant int" => (k_here; dsimp only)
  k_with "eval Attribute Name" => (k_here; dsimp only)
  k_with "eval BinOp" => (k_here; dsimp only)
  k_with "storeName" => (k_here; dsimp only)
  k_with "setAttr ref" => (k_here; dsimp only)
  k_with "eval Compare" => (k_here; dsimp only)
  k_with "isTrue Compare" => (k_here; dsimp only)
  k_with "eval Subscript" => (k_here; dsimp only)
  k_with "execs cons" => (k_here; first | (with_reducible rename News _ _ _ _ => nZ9; dsimp only at nZ9) | dsimp only | ((with_reducible show wpAny _ _ _ _ _ (Shared.mk _ _ _ (HAdd.hAdd _ _) _)); refine gen_toks ?_; intro _))
  k_with "eval Name" => (k_here; (fail_if_success (with_reducible show wpAny _ _ (eval _ (compEnvC _ _ _ _)) _ _ _)); (try dsimp only); k_dflt (first | (refine' nameX_L ?q9F ?q9v ?_ ?q9a ?q9b; (case q9F => k_asm); (case q9a => rfl); (case q9b => rfl); (case q9v => rfl); k_whole) | (refine' nameX_K ?q9F ?q9X ?q9T ?q9e ?_ ?q9a ?q9b; (case q9F => k_asm); (case q9X => k_asm); (case q9T => k_asm); (case q9a => rfl); (case q9b => rfl); (case q9e => k_is); k_whole) | (refine' nameX_B ?q9F ?q9X ?q9T ?q9e ?q9v ?q9n ?_ ?q9a ?q9b; (case q9F => k_asm); (case q9X => k_asm); (case q9T => k_asm); (case q9a => rfl); (case q9b => rfl); (case q9e => k_is); (case q9v => boot_fast); (case q9n => decide); k_whole)))
  k_with "execs cons" => (k_here; (try (with_reducible rename News _ _ _ _ => nZ9; dsimp only at nZ9)); (try dsimp only); (try ((with_reducible show wpAny _ _ _ _ _ (Shared.mk _ _ _ (HAdd.hAdd _ _) _)); refine gen_toks ?_; intro _)); (with_reducible refine wpAny_execs_cons ?_); (try dsimp only))
  k_with "eval Constant int" => (k_here; (try dsimp only); refine wpAny_Constant_int ?_)
  k_with "spliced" => (k_here; (fail_if_success (with_reducible show wpAny _ _ (spliced (backTo _ (starEach (PySem.Expr.Starred _ _ :: _) _))) _ _ _)); k_dflt (first | refine args_cons ?_ | (refine args_nil ?_; try simp only [List.cons_append, List.nil_append])))
  k_with "subscriptTail" => (k_here; (with_reducible show wpAny _ _ (subscriptTail _ _ (Value.ref _) (Value.int _ _)) _ _ _); k_dflt (refine' item_tupleT ?q9t ?q9a ?q9b ?q9c ?q9d ?_; (case q9t => exact News.isTup (by k_asm) (by k_mem)); (case q9a => decide); (case q9b => decide); (case q9c => rfl); (case q9d => rfl); k_whole))
  k_with "storeName" => (k_here; (fail_if_success (with_reducible show wpAny _ _ (storeName _ _ (compEnvC _ _ _ _)) _ _ _)); (try dsimp only); k_dflt (refine' storeX_L ?q9F ?q9N ?_ ?q9a ?q9b; (case q9F => k_asm); (case q9N => k_asm); (case q9a => rfl); (case q9b => rfl); k_whole; intro z9h z9F z9N; (try k_sweep)))
  k_with "callWith ref" => (k_here; k_dflt (first | (refine' callWith_K ?q9a ?q9b ?_; (case q9a => k_asm); (case q9b => k_is); k_whole) | (refine' callWith_K0 ?q9a ?q9b ?_; (case q9a => k_in); (case q9b => k_is); k_whole) | (refine' callWith_M0 ?q9a ?q9b ?_; (case q9a => k_meth); (case q9b => k_is); k_whole; try dsimp only [List.nil_append, List.cons_append]) | (refine' callWith_M ?q9a ?q9b ?q9c ?q9d ?_; (case q9a => k_asm); (case q9b => k_asm); (case q9c => k_mem); (case q9d => k_is); k_whole)))
  k_with "truthy bool" => (with_reducible refine wpAny_truthy_bool ?_)
  k_with "k_mem" => first | with_reducible assumption | assumption
  k_with "subscriptTail" => (k_here; (with_reducible show wpAny _ _ (subscriptTail _ _ (Value.ref _) (Value.int _ _)) _ _ _); (with_unfolding_all refine' item_litK ?q9k1 ?q9k2 ?q9k3 ?q9k4 ?_ ?q9k6; (case q9k1 => exact News.isList (by k_asm) (by k_mem)); (case q9k2 => decide); (case q9k3 => decide); (case q9k4 => rfl); (case q9k6 => with_unfolding_all rfl); k_whole))
  k_with "callWith" => ((with_reducible show wpAny _ _ (callWith _ (Value.builtin _) (_ :: _) (backTo _ (starEach (_ :: _) _)) []) _ _ _); k_dflt (refine callWith_method1 ?_))
  trivial
section
variable {prog : Program} {w : World} {p : Program} {loose : List Str} {mean : ExcName → Option Value} {mg mb : Str → Option Value}
 {dp un : Nat} {gd : Option (List Code)} {cn : Str} {cs : Scope} {a : Addr} {ccd : Value} {cl : List (Str × Addr)} {outer : List Env} {A₀ : Around} {base h₀ : Heap} {L : Addr} {m : Str → Option Value} {s : Shared} {Q E : Value → Shared → Prop}
theorem rg35 : True := by
  k_with "k_mem" => first | with_reducible assumption | ((repeat (first | exact List.Mem.head _ | with_reducible assumption | exact List.mem_append_left _ (by assumption) | refine List.Mem.tail _ ?_ | refine List.mem_append_right _ ?_ | assumption | exact m_tr (by assumption) (by assumption) | exact m_tr (by assumption) (m_tr (by assumption) (by assumption)))); done)
  k_with "setItem" => (k_here; (with_reducible show wpAny _ _ (setItem (Value.ref _) (Value.bytes _ _) _) _ _ _); k_dflt (refine' kda_set (knd := bytesKind _ _) ?q9F ?q9N ?q9U ?q9d (bk_is _ _ _ _) ?q9z ?_; (case q9F => k_asm); (case q9N => k_asm); (case q9U => k_updF); (case q9d => first | assumption | exact bk_empty (by assumption)); (case q9z => rw [sizeLine_eq]; exact Nat.le_of_ble_eq_true (by with_unfolding_all rfl))); intro _ _ _ z9N' _; (try dsimp only at z9N'))
  k_with "subscriptTail" => (k_here; (with_reducible show wpAny _ _ (subscriptTail _ _ (Value.ref _) (Value.bytes _ _)) _ _ _); k_dflt (refine kda_item (knd := bytesKind _ _) (by k_asm) (by k_mem) (by assumption) (bk_is _ _ _ _) (by with_unfolding_all rfl) ?_))
  k_with "compareOp In bytes ref" => (k_here; (with_reducible show wpAny _ _ (compareOp CmpOp.In (Value.bytes _ _) (Value.ref _)) _ _ _); k_dflt (first | refine kda_in (knd := bytesKind _ _) (by k_asm) (by k_mem) (by assumption) (by assumption) (bk_is _ _ _ _) true (by with_unfolding_all rfl) ?_ | refine kda_in (knd := bytesKind _ _) (by k_asm) (by k_mem) (by assumption) (by assumption) (bk_is _ _ _ _) false (by with_unfolding_all rfl) ?_))
  k_with "compareOp NotIn bytes ref" => (k_here; (with_reducible show wpAny _ _ (compareOp CmpOp.NotIn (Value.bytes _ _) (Value.ref _)) _ _ _); k_dflt (first | refine kdg_notin (knd := bytesKind _ _) (by k_asm) (by k_mem) (by assumption) (by assumption) (bk_is _ _ _ _) true (by with_unfolding_all rfl) ?_ | refine kdg_notin (knd := bytesKind _ _) (by k_asm) (by k_mem) (by assumption) (by assumption) (bk_is _ _ _ _) false (by with_unfolding_all rfl) ?_))
  k_with "eval Dict" => (k_here; k_dflt (refine' kdn_eval (knd := bytesKind _ _) ?q9F ?q9N ?q9b ?q9a ?q9l ?q9e ?q9n ?_; (case q9F => k_asm); (case q9N => first | k_asm | exact News.nil); (case q9b => exact Top.nolimit (by k_asm)); (case q9a => rfl); (case q9l => rfl); (case q9e => exact List.cons_ne_nil _ _); (case q9n => exact Nat.le_of_ble_eq_true rfl)); intro _ _ _ _ _ z9l1 _ _; (try k_lt z9l1))
  k_with "KdnMade" => (k_here; (try dsimp only); k_dflt (refine' kdn_made_b (bkKv _) ?q9zF ?q9zN ?q9zU ?q9zd (carries_b _ ?q9zk) ?q9zn ?_; (case q9zF => k_asm); (case q9zN => k_asm); (case q9zU => k_updF); (case q9zd => k_asm); (case q9zk => exact rfl); (case q9zn => exact of_decide_eq_true (by first | rfl | kernel_rfl!))); intro _ _ _ z9N' z9hd'; (try dsimp only at z9N'); (try simp only [bkKv, List.map_cons, List.map_nil] at z9hd'))
  k_with "call ref" => ((with_reducible show wpAny _ _ (call (Value.ref 408) _) _ _ _); k_dflt (refine' status_put_ok ?q9B ?q9F ?q9X ?q9N ?q9T ?q9hk ?q9hd ?q9hu ?q9m1 ?q9m2 ?q9m3 ?q9m4 ?q9m5 ?q9m6 ?q9m7 ?q9m8 ?_; (case q9B => k_asm); (case q9F => k_asm); (case q9X => k_asm); (case q9N => k_asm); (case q9T => k_asm); (case q9hk => exact rfl); (case q9m1 => assumption); (case q9m2 => assumption); (case q9m3 => assumption); (case q9m4 => assumption); (case q9m5 => assumption); (case q9m6 => assumption); (case q9m7 => first | assumption | omega); (case q9m8 => assumption); (case q9hd => (first | exact rm2 (by assumption) (Nat.le_of_ble_eq_true rfl) | exact rm1 (by assumption) (Nat.le_of_ble_eq_true rfl) | (first | exact rm2 (by assumption) (Nat.le_of_ble_eq_true rfl) | exact rm1 (by assumption) (Nat.le_of_ble_eq_true rfl) | (show _ + _ < _; simp only [depth_deeper]; omega)))); (case q9hu => (first | exact rm2 (by assumption) (Nat.le_of_ble_eq_true rfl) | exact rm1 (by assumption) (Nat.le_of_ble_eq_true rfl) | (first | exact rm2 (by assumption) (Nat.le_of_ble_eq_true rfl) | exact rm1 (by assumption) (Nat.le_of_ble_eq_true rfl) | (show _ + _ < _; simp only [units_deeper]; omega))))); intro _ _ _ _ _ _ _ _ _)
  k_with "compareOp Eq bytes bytes" => (k_here; (with_reducible show wpAny _ _ (compareOp CmpOp.Eq (Value.bytes _ _) (Value.bytes _ _)) _ _ _); k_dflt (refine' bt_ne (y := 35) ?q9zk ?q9zf ?q9zx ?_; (case q9zk => assumption); (case q9zf => with_unfolding_all rfl); (case q9zx => omega)))
  trivial
noncomputable def tDict (prog : Program) (w : World) (o : Obj) (l : Addr) : Prop := ∃ l1 l2 l3, o.IsDictOf (bytesKind prog w) [([108, 101, 102, 116], .ref l), ([99, 101, 110, 116, 114, 101], .ref l1), ([114, 105, 103, 104, 116], .ref l2), ([97, 98, 115, 111, 108, 117, 116, 101, 45, 99, 101, 110, 116, 114, 101], .ref l3)]
inductive TextV (prog : Program) (w : World) (led : Led) (x l : Addr) (pv : Value) (t : Addr) : Prop
  | mk (d dc : Addr) (o : Obj) (la : Addr) (h1 h2 h3 h4 h5 h6 h7 : Int) (k1 k2 k3 k4 k5 k6 k7 t1 n : Nat) (p1 : (x, instObj 453 d) ∈ led)
  (p2 : (d, dictOf [⟨h1, .str (Str.ofString "table") k1, .ref t⟩, ⟨h2, .str (Str.ofString "base") k2, pv⟩, ⟨h3, .str (Str.ofString "aside") k3, .ref la⟩, ⟨h4, .str (Str.ofString "pen") k4, pv⟩, ⟨h5, .str (Str.ofString "fill") k5, .none⟩, ⟨h6, .str (Str.ofString "align") k6, .bytes #[108, 101, 102, 116] t1⟩, ⟨h7, .str (Str.ofString "cells") k7, .ref dc⟩] n) ∈ led)
  (p3 : (dc, o) ∈ led) (p4 : (dc == sysModules) = false) (p5 : tDict prog w o l) : TextV prog w led x l pv t
theorem TextV.mono {l l' : Led} {x a t : Addr} {pv : Value} (h : TextV prog w l x a pv t) (hs : ∀ p ∈ l, p ∈ l') : TextV prog w l' x a pv t := by
  obtain ⟨d, dc, o, la, h1, h2, h3, h4, h5, h6, h7, k1, k2, k3, k4, k5, k6, k7, t1, n, a, b, c, e, e2⟩ := h
  exact ⟨d, dc, o, la, h1, h2, h3, h4, h5, h6, h7, k1, k2, k3, k4, k5, k6, k7, t1, n, hs _ a, hs _ b, hs _ c, e, e2⟩
theorem enc_head {c : Int} (h : SignOk c) : ∃ y q, enc c = y :: q ∧ y ≠ 35 := by
  rcases h with ⟨h1, h2⟩ | ⟨h1, h2⟩
  · exact ⟨c, [], enc_nar h2, by (first | lia | omega)⟩
  · exact ⟨228, _, enc_wide h1, by decide⟩
theorem utf8_ok {news : Led} {oc : Array UInt8} {t0 : Tok} {c : Int} (B : Below A₀ base outer h₀) (F : Fr h₀ L s.heap m) (X : (Mine.frag.heap_1 w.params).In h₀) (N : News h₀ L s.heap news) (T : Top p loose mean mg mb h₀) (hk : cs.kind = .function)
   (hd : dp + 6 < recursionLimit) (hu : un + 120 < cLine)
   (hbi : KBw.bInts oc = enc c) (hc : SignOk c)
   (hret : ∀ l vs n h' tk', Fr h₀ L h' m → News h₀ L h' ((l, listOf vs.toArray n) :: news) → (∀ q ∈ news, @LT.lt Nat _ q.1 l) → IntsAre vs [c] → Q (.ref l) { s with heap := h', toks := tk' }) :
   wpAny (model prog w) (ktrTop dp un gd cn cs L a ccd cl outer) (call (.ref 400) [.bytes oc t0]) Q E s := by
  rcases hc with ⟨h1, h2⟩ | ⟨h1, h2⟩
  · rw [enc_nar h2] at hbi
    exact utf8_n B F X N T hk hd hu hbi (by (first | lia | omega)) h2 hret
  · rw [enc_wide h1] at hbi
    refine utf8_w B F X N T hk hd hu hbi (by (first | lia | omega)) (by (first | lia | omega)) ?_
    intro l vs n h' tk' F' N' hlt hI
    rw [show 19968 + (128 + (c - 19968) - 128) = c by (first | lia | omega)] at hI
    exact hret l vs n h' tk' F' N' hlt hI
noncomputable def offL (l : Addr) (news : Led) : Led := news.filter fun p => decide (@Ne Nat p.1 l)
theorem rg36 : True := by
  k_with "call ref" => ((with_reducible show wpAny _ _ (call (Value.ref 400) _) _ _ _); k_dflt (refine' utf8_ok ?q9zB ?q9zF ?q9zX ?q9zN ?q9zT ?q9zk ?q9zd ?q9zu ?q9zb ?q9zl ?_); ((case q9zB => k_asm); (case q9zF => k_asm); (case q9zX => k_asm); (case q9zN => k_asm); (case q9zT => k_asm); (case q9zk => k_dflt (exact rfl)); (case q9zb => k_dflt (assumption)); (case q9zl => k_dflt (assumption)); (case q9zd => first | (first | exact rm2 (by assumption) (Nat.le_of_ble_eq_true rfl) | exact rm1 (by assumption) (Nat.le_of_ble_eq_true rfl) | (first | exact rm2 (by assumption) (Nat.le_of_ble_eq_true rfl) | exact rm1 (by assumption) (Nat.le_of_ble_eq_true rfl) | (show _ + _ < _; simp only [depth_deeper]; omega))) | decide +kernel); (case q9zu => first | (first | exact rm2 (by assumption) (Nat.le_of_ble_eq_true rfl) | exact rm1 (by assumption) (Nat.le_of_ble_eq_true rfl) | (first | exact rm2 (by assumption) (Nat.le_of_ble_eq_true rfl) | exact rm1 (by assumption) (Nat.le_of_ble_eq_true rfl) | (show _ + _ < _; simp only [units_deeper]; omega))) | decide +kernel)); intro _ _ _ _ _ _ _ _ _)
  trivial
theorem PenV.ref {l : Led} {pv : Value} {bg : Int} (h : PenV l pv bg) : ∃ r, pv = .ref r := by
  rcases h with ⟨rfl, _⟩ | ⟨pa, _, _, _, _, _, _, rfl, _⟩
  · exact ⟨_, rfl⟩
  · exact ⟨_, rfl⟩
theorem text_put_ok {tl TT : Led} {l t x : Addr} {vs : List Value} {n k : Nat} {c bg : Int} {t0 : Tok} {oc : Array UInt8} {pv : Value} {gs : List Glyph} (B : Below A₀ base outer h₀) (F : Fr h₀ L s.heap m) (X : (Mine.frag.heap_1 w.params).In h₀) (N : News h₀ L s.heap ((l, listOf vs.toArray n) :: tl)) (T : Top p loose mean mg mb h₀) (hk : cs.kind = .function)
   (hd : dp + 8 < recursionLimit) (hu : un + 140 < cLine)
   (hsub : ∀ p ∈ TT, p ∈ tl) (hoff : ∀ p ∈ tl, p.1 ≠ l) (hcs : CellsV TT bg vs (cellsOf gs)) (hp : PenV TT pv bg) (hT : TabV TT t) (hX : TextV prog w TT x l pv t) (hg : GoodG k gs) (hk90 : k ≤ 90) (hb : KBw.bInts oc = enc c) (hc : SignOk c)
   (hret : ∀ vs' n' tl' h' tk', Fr h₀ L h' m → News h₀ L h' ((l, listOf vs'.toArray n') :: (tl' ++ tl)) → Above tl' ((l, listOf vs.toArray n) :: tl) → CellsV (tl' ++ TT) bg vs' (cellsOf (putG gs c)) → Q .none { s with heap := h', toks := tk' }) :
   wpAny (model prog w) (ktrTop dp un gd cn cs L a ccd cl outer) (call (.ref 436) [.ref x, .bytes oc t0]) Q E s := by
  obtain ⟨d, dc, o, la, h1, h2, h3, h4, h5, h6, h7, k1, k2, k3, k4, k5, k6, k7, t1, nd, m1, m2, m3, lo', l1, l2, l3, hD⟩ := hX
  obtain ⟨y, q, ey, hy⟩ := enc_head hc
  obtain ⟨pr, rfl⟩ := hp.ref
  have hb2 : KBw.bInts oc = y :: q := by rw [hb, ey]
  refine wpAny_call ?_
  k_dflt ktr_enter
  k_steps
  rename Fr _ _ _ _ => F1
  rename News _ _ _ _ => N1
  rename IntsAre _ [c] => hI1
  rename ∀ q ∈ (l, W.listOf vs.toArray n) :: tl, q.1 < _ => hlt1
  rename_i lc lvs ln lh ltk
  have hne1 := Nat.ne_of_gt (hlt1 _ (.head _))
  refine loop_mut [] (fun i o tl' => ∃ vs1 n1, o = listOf vs1.toArray n1 ∧ CellsV (tl' ++ TT) bg vs1 (cellsOf (if i = 0 then gs else putG gs c)) ∧ Above tl' ((l, listOf vs.toArray n) :: tl)) (by rfl) (.head _) F1 (news_mv [_] N1) (fun p hp => (List.mem_cons.mp hp).elim (fun e => e ▸ hne1) (hoff p)) ⟨vs, n, rfl, hcs, above_nil⟩ ?_ ?_
  · rintro i v o tl9 u h tk own hv hne ⟨vs9, n9, rfl, hC, hA9⟩ F2 N2
    (try ((show wpAny _ _ _ _ _ _); k_fold))
    have hil : i < 1 := by have h9 := hI1.length; have h8 := (List.getElem?_eq_some_iff.mp hv).1; simp only [List.length_singleton] at h9; omega
    obtain rfl : i = 0 := by omega
    obtain ⟨t9, hx⟩ := hI1.get 0 c rfl
    have ev : v = .int c t9 := by rw [hx] at hv; exact (Option.some.inj hv).symm
    subst ev
    have hsub9 : ∀ p ∈ tl9 ++ TT, p ∈ tl9 ++ ((lc, listOf lvs.toArray ln) :: tl ++ own) := fun p hp => (List.mem_append.mp hp).elim (fun h => List.mem_append.mpr (.inl h)) fun h => List.mem_append.mpr (.inr (List.mem_append.mpr (.inl (.tail _ (hsub p h)))))
    have hp' : PenV (tl9 ++ TT) (.ref pr) bg := hp.mono fun q hq => List.mem_append.mpr (.inr hq)
    have hT' : TabV (tl9 ++ TT) t := hT.mono fun q hq => List.mem_append.mpr (.inr hq)
    have hok' : OkCode c := by unfold OkCode; rcases hc with h | h <;> omega
    have m1' := hsub _ m1
    have m2' := hsub _ m2
    have m3' := hsub _ m3
    rw [if_pos rfl] at hC
    k_steps
    rename Above _ _ => hab
    rename CellsV _ _ _ _ => hC2
    refine ⟨_, _, _, _, _, rfl, by assumption, ?_, by assumption, hab, _, _, rfl, ?_, ?_⟩
    · intro z h1 h2; unfold frm; rw [if_neg h1]; simp
    · rw [if_neg (by decide), List.append_assoc]; exact hC2
    · intro p hp q hq
      rcases List.mem_append.mp hp with hp | hp
      · rcases List.mem_cons.mp hq with rfl | hq
        · exact hab p hp (l, listOf vs9.toArray n9) (.head _)
        · exact hab p hp q (.tail _ (List.mem_append.mpr (.inr (List.mem_append.mpr (.inl (.tail _ hq))))))
      · exact hA9 p hp q hq
  · rintro o tl9 h tk u hne ⟨vs9, n9, rfl, hC, hA9⟩ F2 N2
    k_steps
    rename News h₀ _ _ _ => kN
    rw [if_neg (by rw [hI1.length]; exact Nat.one_ne_zero)] at hC
    refine hret vs9 n9 (tl9 ++ [(lc, listOf lvs.toArray ln)]) _ _ (by assumption) (news_sub kN ?_) ?_ (hC.mono ?_)
    · intro p hp
      simp only [List.mem_cons, List.mem_append, List.not_mem_nil, or_false] at hp ⊢
      rcases hp with hp | (hp | hp) | hp
      · exact .inl hp
      · exact .inr (.inl hp)
      · exact .inr (.inr (.inl hp))
      · exact .inr (.inr (.inr hp))
    · intro p hp q hq
      rcases List.mem_append.mp hp with hp | hp
      · exact hA9 p hp q hq
      · rw [List.mem_singleton.mp hp]
        exact hlt1 q hq
    · intro p hp
      simp only [List.mem_append] at hp ⊢
      rcases hp with hp | hp
      · exact .inl (.inl hp)
      · exact .inr hp

end
end
section
theorem rg37 : True := by
  k_with_none
  k_with "omega" => (first | decide | (with_reducible first | exact Int.natCast_nonneg _ | exact rm1 ‹_› (by decide) | exact rm2 ‹_› (by decide) | exact rm3 ‹_› (by decide) | exact om_le ‹_› (by decide) | exact om_63 ‹_› (by decide) | exact om_eqle ‹_› ‹_› (by decide) | exact om_eq63 ‹_› ‹_› (by decide) | exact om_add ‹_› (by decide) | exact om_ne ‹_› (by decide) | exact om_le2 ‹_› ‹_› (by decide) | exact om_le2s ‹_› ‹_› (by decide) | exact om_le2_63 ‹_› ‹_› (by decide) | exact om_le2s_63 ‹_› ‹_› (by decide) | exact om_z62 ‹_› (by decide) | exact om_zn62 | exact om_kle ‹_› (by decide) | exact om_neg1 | exact om_pos | exact om_at ‹_› (by decide) | exact om_at0 ‹_› | exact om_add63 ‹_› (by decide) | exact Nat.ne_of_gt (by k_extra "pick") | exact Nat.ne_of_lt (by k_extra "pick")))
  k_with "ktr_room" => (first | exact rm0 (by assumption) | exact rm1 (by assumption) (Nat.le_of_ble_eq_true rfl))
  k_with "k_ne" => ((refine neN ?_; (try dsimp only); first | exact Nat.ne_of_gt (by assumption) | exact Nat.ne_of_lt (by assumption) | exact Nat.ne_of_gt (And.left (by assumption)) | exact Nat.ne_of_lt (And.left (by assumption)) | exact Nat.ne_of_gt (And.left (And.right (by assumption))) | exact Nat.ne_of_lt (And.left (And.right (by assumption))) | exact Nat.ne_of_gt (And.right (by assumption)) | exact Nat.ne_of_lt (And.right (by assumption)) | exact Nat.ne_of_gt (And.left (And.right (And.right (by assumption)))) | exact Nat.ne_of_lt (And.left (And.right (And.right (by assumption)))) | exact Nat.ne_of_gt (And.right (And.right (by assumption))) | exact Nat.ne_of_lt (And.right (And.right (by assumption)))))
  k_with "pick" => (with_reducible first | assumption | exact And.left ‹_› | exact And.left (And.right ‹_›) | exact And.left (And.right (And.right ‹_›)) | exact And.left (And.right (And.right (And.right ‹_›))) | exact And.left (And.right (And.right (And.right (And.right ‹_›)))) | exact And.left (And.right (And.right (And.right (And.right (And.right ‹_›))))) | exact And.left (And.right (And.right (And.right (And.right (And.right (And.right ‹_›)))))) | exact And.left (And.right (And.right (And.right (And.right (And.right (And.right (And.right ‹_›))))))) | exact And.left (And.right (And.right (And.right (And.right (And.right (And.right (And.right (And.right ‹_›)))))))) | exact And.left (And.right (And.right (And.right (And.right (And.right (And.right (And.right (And.right (And.right ‹_›))))))))) | exact And.left (And.right (And.right (And.right (And.right (And.right (And.right (And.right (And.right (And.right (And.right ‹_›)))))))))) | exact (And.right ‹_›) | exact (And.right (And.right ‹_›)) | exact (And.right (And.right (And.right ‹_›))) | exact (And.right (And.right (And.right (And.right ‹_›)))) | exact (And.right (And.right (And.right (And.right (And.right ‹_›))))) | exact (And.right (And.right (And.right (And.right (And.right (And.right ‹_›)))))) | exact (And.right (And.right (And.right (And.right (And.right (And.right (And.right ‹_›))))))) | exact (And.right (And.right (And.right (And.right (And.right (And.right (And.right (And.right ‹_›)))))))) | exact (And.right (And.right (And.right (And.right (And.right (And.right (And.right (And.right (And.right ‹_›))))))))) | exact (And.right (And.right (And.right (And.right (And.right (And.right (And.right (And.right (And.right (And.right ‹_›)))))))))))
  k_with "k_room" => (((simp only [depth_under_make, depth_under_kw, depth_in1, depth_deeper, depth_caller]); omega))
  k_with "k_all" => (assumption)
  k_with "eval Name" => (k_here; dsimp only)
  k_with "eval Call" => (k_here; dsimp only)
  k_with "eval Constant int" => (k_here; dsimp only)
  k_with "eval Attribute Name" => (k_here; dsimp only)
  k_with "eval BinOp" => (k_here; dsimp only)
  k_with "storeName" => (k_here; dsimp only)
  k_with "setAttr ref" => (k_here; dsimp only)
  k_with "eval Compare" => (k_here; dsimp only)
  k_with "isTrue Compare" => (k_here; dsimp only)
  k_with "eval Subscript" => (k_here; dsimp only)
  k_with "execs cons" => (k_here; first | (with_reducible rename News _ _ _ _ => nZ9; dsimp only at nZ9) | dsimp only | ((with_reducible show wpAny _ _ _ _ _ (Shared.mk _ _ _ (HAdd.hAdd _ _) _)); refine gen_toks ?_; intro _))
  k_with "eval Name" => (k_here; (fail_if_success (with_reducible show wpAny _ _ (eval _ (compEnvC _ _ _ _)) _ _ _)); (try dsimp only); k_dflt (first | (refine' nameX_L ?q9F ?q9v ?_ ?q9a ?q9b; (case q9F => k_asm); (case q9a => rfl); (case q9b => rfl); (case q9v => rfl); k_whole) | (refine' nameX_K ?q9F ?q9X ?q9T ?q9e ?_ ?q9a ?q9b; (case q9F => k_asm); (case q9X => k_asm); (case q9T => k_asm); (case q9a => rfl); (case q9b => rfl); (case q9e => k_is); k_whole) | (refine' nameX_B ?q9F ?q9X ?q9T ?q9e ?q9v ?q9n ?_ ?q9a ?q9b; (case q9F => k_asm); (case q9X => k_asm); (case q9T => k_asm); (case q9a => rfl); (case q9b => rfl); (case q9e => k_is); (case q9v => boot_fast); (case q9n => decide); k_whole)))
  k_with "execs cons" => (k_here; (try (with_reducible rename News _ _ _ _ => nZ9; dsimp only at nZ9)); (try dsimp only); (try ((with_reducible show wpAny _ _ _ _ _ (Shared.mk _ _ _ (HAdd.hAdd _ _) _)); refine gen_toks ?_; intro _)); (with_reducible refine wpAny_execs_cons ?_); (try dsimp only))
  k_with "eval Constant int" => (k_here; (try dsimp only); refine wpAny_Constant_int ?_)
  k_with "spliced" => (k_here; (fail_if_success (with_reducible show wpAny _ _ (spliced (backTo _ (starEach (PySem.Expr.Starred _ _ :: _) _))) _ _ _)); k_dflt (first | refine args_cons ?_ | (refine args_nil ?_; try simp only [List.cons_append, List.nil_append])))
  k_with "subscriptTail" => (k_here; (with_reducible show wpAny _ _ (subscriptTail _ _ (Value.ref _) (Value.int _ _)) _ _ _); k_dflt (refine' item_tupleT ?q9t ?q9a ?q9b ?q9c ?q9d ?_; (case q9t => exact News.isTup (by k_asm) (by k_mem)); (case q9a => decide); (case q9b => decide); (case q9c => rfl); (case q9d => rfl); k_whole))
  k_with "storeName" => (k_here; (fail_if_success (with_reducible show wpAny _ _ (storeName _ _ (compEnvC _ _ _ _)) _ _ _)); (try dsimp only); k_dflt (refine' storeX_L ?q9F ?q9N ?_ ?q9a ?q9b; (case q9F => k_asm); (case q9N => k_asm); (case q9a => rfl); (case q9b => rfl); k_whole; intro z9h z9F z9N; (try k_sweep)))
  k_with "callWith ref" => (k_here; k_dflt (first | (refine' callWith_K ?q9a ?q9b ?_; (case q9a => k_asm); (case q9b => k_is); k_whole) | (refine' callWith_K0 ?q9a ?q9b ?_; (case q9a => k_in); (case q9b => k_is); k_whole) | (refine' callWith_M0 ?q9a ?q9b ?_; (case q9a => k_meth); (case q9b => k_is); k_whole; try dsimp only [List.nil_append, List.cons_append]) | (refine' callWith_M ?q9a ?q9b ?q9c ?q9d ?_; (case q9a => k_asm); (case q9b => k_asm); (case q9c => k_mem); (case q9d => k_is); k_whole)))
  k_with "truthy bool" => (with_reducible refine wpAny_truthy_bool ?_)
  k_with "k_mem" => first | with_reducible assumption | assumption
  k_with "subscriptTail" => (k_here; (with_reducible show wpAny _ _ (subscriptTail _ _ (Value.ref _) (Value.int _ _)) _ _ _); (with_unfolding_all refine' item_litK ?q9k1 ?q9k2 ?q9k3 ?q9k4 ?_ ?q9k6; (case q9k1 => exact News.isList (by k_asm) (by k_mem)); (case q9k2 => decide); (case q9k3 => decide); (case q9k4 => rfl); (case q9k6 => with_unfolding_all rfl); k_whole))
  k_with "callWith" => ((with_reducible show wpAny _ _ (callWith _ (Value.builtin _) (_ :: _) (backTo _ (starEach (_ :: _) _)) []) _ _ _); k_dflt (refine callWith_method1 ?_))
  trivial
section
variable {prog : Program} {w : World} {p : Program} {loose : List Str} {mean : ExcName → Option Value} {mg mb : Str → Option Value}
 {dp un : Nat} {gd : Option (List Code)} {cn : Str} {cs : Scope} {a : Addr} {ccd : Value} {cl : List (Str × Addr)} {outer : List Env} {A₀ : Around} {base h₀ : Heap} {L : Addr} {m : Str → Option Value} {s : Shared} {Q E : Value → Shared → Prop}
noncomputable abbrev Col := Option (List Int)
noncomputable def colOf (c : Cell) : Col := if c.w = 0 then none else some c.codes
noncomputable def fixFirstP : List Col → List Col
  | none :: r => some [] :: r
  | l => l
noncomputable def lastP : Col → Col
  | none => none
  | some _ => some []
noncomputable def fixLastP : List Col → List Col
  | [] => []
  | [c] => [lastP c]
  | c :: d :: r => c :: fixLastP (d :: r)
theorem fixLastP_snoc (d : Col) : ∀ rc : List Col, fixLastP (rc ++ [d]) = rc ++ [lastP d]
  | [] => rfl
  | [e] => rfl
  | e :: f :: rc => congrArg (e :: ·) (fixLastP_snoc d (f :: rc))
noncomputable def cutP (cols : List Col) (lo hi : Nat) : List Col :=
  if cols[hi]? = some none then fixLastP (fixFirstP ((cols.take hi).drop lo)) else fixFirstP ((cols.take hi).drop lo)
noncomputable def WfC (cs : List Cell) : Prop := ∀ (i : Nat) (c : Cell), cs[i]? = some c → (@Eq Int c.w 0 ∨ @Eq Int c.w 1 ∨ @Eq Int c.w 2) ∧ (@Eq Int c.w 2 → ∃ d : Cell, cs[i + 1]? = some d ∧ @Eq Int d.w 0) ∧ (@Eq Int c.w 0 → ∃ (j : Nat) (d : Cell), i = j + 1 ∧ cs[j]? = some d ∧ @Eq Int d.w 2)
theorem wf_cells (gs : List Glyph) : WfC (cellsOf gs) := by
  induction gs with
  | nil => intro i c h; cases h
  | cons g r ih =>
    intro i c h
    have e : cellsOf (g :: r) = cellsG g ++ cellsOf r := rfl
    rw [e] at h ⊢
    obtain ⟨gc, gw⟩ := g
    cases gw with
    | false =>
      have e2 : cellsG (gc, false) = [⟨gc, 1⟩] := rfl
      rw [e2] at h ⊢
      cases i with
      | zero =>
        have e3 : c = ⟨gc, 1⟩ := (Option.some.inj h).symm
        subst e3
        exact ⟨.inr (.inl rfl), fun h => absurd h (by simp), fun h => absurd h (by simp)⟩
      | succ i =>
        obtain ⟨a, b, c'⟩ := ih i c h
        exact ⟨a, b, fun hz => by obtain ⟨j, d, e, f, g⟩ := c' hz; exact ⟨j + 1, d, by (first | lia | omega), f, g⟩⟩
    | true =>
      have e2 : cellsG (gc, true) = [⟨gc, 2⟩, ⟨[], 0⟩] := rfl
      rw [e2] at h ⊢
      cases i with
      | zero =>
        have e3 : c = ⟨gc, 2⟩ := (Option.some.inj h).symm
        subst e3
        exact ⟨.inr (.inr rfl), fun h => ⟨_, rfl, rfl⟩, fun h => absurd h (by simp)⟩
      | succ i =>
        cases i with
        | zero =>
          have e3 : c = ⟨[], 0⟩ := (Option.some.inj h).symm
          subst e3
          exact ⟨.inl rfl, fun h => absurd h (by simp), fun h => ⟨0, _, rfl, rfl, rfl⟩⟩
        | succ i =>
          obtain ⟨a, b, c'⟩ := ih i c h
          exact ⟨a, b, fun hz => by obtain ⟨j, d, e, f, g⟩ := c' hz; exact ⟨j + 2, d, by (first | lia | omega), f, g⟩⟩
theorem slice_idx {α : Type} {l : List α} {lo hi : Nat} {x : α} {r : List α} (h : (l.take hi).drop lo = r ++ [x]) : ∃ j, l[j]? = some x ∧ j < hi ∧ j = lo + r.length ∧ (j + 1 = hi ∨ l.length = j + 1) := by
  have hl := congrArg List.length h
  simp only [List.length_drop, List.length_take, List.length_append, List.length_singleton] at hl
  have hx : (r ++ [x])[r.length]? = some x := by rw [List.getElem?_append_right (Nat.le_refl _)]; simp
  rw [← h, List.getElem?_drop, List.getElem?_take] at hx
  refine ⟨lo + r.length, ?_, by (first | lia | omega), rfl, by (first | lia | omega)⟩
  split at hx
  · exact hx
  · cases hx
theorem last_iff {cs : List Cell} (hw : WfC cs) {lo hi : Nat} {d : Cell} {r : List Cell} (h : (cs.take hi).drop lo = r ++ [d]) : ((cs.map colOf)[hi]? = some none) ↔ d.w = 2 := by
  obtain ⟨j, hj, hlt, _, hor⟩ := slice_idx h
  rw [List.getElem?_map]
  constructor
  · intro e
    cases he : cs[hi]? with
    | none => rw [he] at e; cases e
    | some c =>
      rw [he] at e
      have hz : c.w = 0 := by
        have e2 : colOf c = none := Option.some.inj e
        unfold colOf at e2
        split at e2
        · assumption
        · cases e2
      obtain ⟨k, d', hk, hd', hw2⟩ := (hw hi c he).2.2 hz
      rcases hor with hor | hor
      · have : k = j := by (first | lia | omega)
        subst this
        rw [hj] at hd'; cases hd'; exact hw2
      · have := (List.getElem?_eq_some_iff.mp he).1; (first | lia | omega)
  · intro e
    obtain ⟨c, hc, hz⟩ := (hw j d hj).2.1 e
    have := (List.getElem?_eq_some_iff.mp hc).1
    have e1 : j + 1 = hi := by (first | lia | omega)
    rw [e1] at hc
    rw [hc]
    show some (colOf c) = some none
    unfold colOf; rw [if_pos hz]
theorem col_blank : colOf blankC = some [] := rfl
theorem col_first (c : Cell) : colOf (fixW c 0) = (if c.w = 0 then some [] else colOf c) := by
  unfold fixW; split <;> rfl
theorem fixFirstP_col (c : Cell) (r : List Col) : fixFirstP (colOf c :: r) = colOf (fixW c 0) :: r := by
  rw [col_first]
  by_cases h : c.w = 0
  · have e : colOf c = none := if_pos h
    rw [e, if_pos h]; rfl
  · have e : colOf c = some c.codes := if_neg h
    rw [e, if_neg h]; rfl
theorem lastP_col2 {c : Cell} (h : c.w = 2) : lastP (colOf c) = colOf (fixW c 2) := by
  have e : colOf c = some c.codes := if_neg (by (first | lia | omega))
  rw [e]; unfold fixW; rw [if_pos h]; rfl
theorem slice_cut {cs : List Cell} (hw : WfC cs) (lo hi : Nat) : (sliceC cs lo hi).map colOf = cutP (cs.map colOf) lo hi := by
  unfold sliceC cutP
  rw [← List.map_take, ← List.map_drop]
  rcases List.eq_nil_or_concat ((cs.take hi).drop lo) with h | ⟨r, d, h⟩
  · rw [h]; simp [fixFirst, fixLast, fixFirstP, fixLastP]
  · rw [List.concat_eq_append] at h
    have hl := last_iff hw h
    rw [h]
    cases r with
    | nil =>
      show [colOf (fixW (fixW d 0) 2)] = if _ then fixLastP (fixFirstP [colOf d]) else fixFirstP [colOf d]
      rw [fixFirstP_col]
      show _ = if _ then [lastP (colOf (fixW d 0))] else [colOf (fixW d 0)]
      by_cases h2 : d.w = 2
      · rw [if_pos (hl.mpr h2), fixW_n (c := d) (z := 0) (by (first | lia | omega)), lastP_col2 h2]
      · rw [if_neg (fun e => h2 (hl.mp e))]
        by_cases h0 : d.w = 0
        · rw [fixW_y (c := d) (z := 0) h0, fixW_n (c := blankC) (z := 2) (by decide)]
        · rw [fixW_n (c := d) (z := 0) h0, fixW_n (c := d) (z := 2) h2]
    | cons c r =>
      show (fixLast (fixFirst (c :: (r ++ [d])))).map colOf = _
      rw [fixFL_two]
      show _ = if _ then fixLastP (fixFirstP (colOf c :: (r ++ [d]).map colOf)) else fixFirstP (colOf c :: (r ++ [d]).map colOf)
      rw [fixFirstP_col, List.map_append]
      have e9 : fixLastP (colOf (fixW c 0) :: (r.map colOf ++ [colOf d])) = colOf (fixW c 0) :: (r.map colOf ++ [lastP (colOf d)]) := fixLastP_snoc (colOf d) (colOf (fixW c 0) :: r.map colOf)
      show colOf (fixW c 0) :: (r ++ [fixW d 2]).map colOf = if _ then fixLastP (colOf (fixW c 0) :: (r.map colOf ++ [colOf d])) else colOf (fixW c 0) :: (r.map colOf ++ [colOf d])
      rw [e9, List.map_append]
      show colOf (fixW c 0) :: (r.map colOf ++ [colOf (fixW d 2)]) = _
      by_cases h2 : d.w = 2
      · rw [if_pos (hl.mpr h2), lastP_col2 h2]
      · rw [if_neg (fun e => h2 (hl.mp e)), fixW_n (c := d) (z := 2) h2]
theorem cut_cut {cs : List Cell} (hw : WfC cs) (k : Nat) : (cutC cs k).map colOf = cutP (cs.map colOf) 0 k := by
  unfold cutC
  split
  · exact slice_cut hw 0 k
  · rename_i h
    unfold cutP
    rw [List.getElem?_eq_none (by rw [List.length_map]; (first | lia | omega)), if_neg (by intro e; cases e), List.take_of_length_le (by rw [List.length_map]; (first | lia | omega)), List.drop_zero]
    cases cs with
    | nil => rfl
    | cons c r =>
      show _ = fixFirstP (colOf c :: _)
      rw [fixFirstP_col, fixW_n]
      · rfl
      · intro h0
        obtain ⟨j, d, e, _⟩ := (hw 0 c rfl).2.2 h0
        (first | lia | omega)
theorem fixFirstP_len (l : List Col) : (fixFirstP l).length = l.length := by
  cases l with
  | nil => rfl
  | cons c r => cases c <;> rfl
theorem cutP_nil {cols : List Col} {lo hi : Nat} (h : cols.length ≤ lo) : cutP cols lo hi = [] := by
  unfold cutP
  have e : (cols.take hi).drop lo = [] := List.drop_eq_nil_of_le (by rw [List.length_take]; (first | lia | omega))
  rw [e]; split <;> rfl
noncomputable def typedC (cs : List Cell) (off room : Nat) : List Cell := if off < cs.length then sliceC cs off (off + room) else []
theorem typed_cut {cs : List Cell} (hw : WfC cs) (off room : Nat) : (typedC cs off room).map colOf = cutP (cs.map colOf) off (off + room) := by
  unfold typedC
  split
  · exact slice_cut hw _ _
  · rw [cutP_nil (by rw [List.length_map]; (first | lia | omega))]; rfl
theorem typed_len (cs : List Cell) (off room : Nat) : (typedC cs off room).length ≤ room := by
  unfold typedC
  split
  · rw [sliceC_len]; (first | lia | omega)
  · exact Nat.zero_le _
theorem filled_fit {cs : List Cell} {k : Nat} (h : cs.length ≤ k) : filledC cs k = cs ++ List.replicate (k - cs.length) blankC := by
  unfold filledC
  have e : cutC cs k = cs := if_neg (by (first | lia | omega))
  rw [e]
theorem plain_law {a b : List Cell} (ha : WfC a) (hb : WfC b) (w off : Nat) (hw : 1 ≤ w) :
    (filledC (cutC a (w - 1) ++ typedC b off (w - (cutC a (w - 1)).length)) w).map colOf =
      (cutP (a.map colOf) 0 (w - 1) ++ cutP (b.map colOf) off (off + (w - (cutC a (w - 1)).length))) ++
        List.replicate (w - (cutP (a.map colOf) 0 (w - 1) ++ cutP (b.map colOf) off (off + (w - (cutC a (w - 1)).length))).length) (some []) := by
  have hl1 := cutC_len a (w - 1)
  have hl2 := typed_len b off (w - (cutC a (w - 1)).length)
  rw [filled_fit (by rw [List.length_append]; (first | lia | omega)), List.map_append, List.map_append, cut_cut ha, typed_cut hb, List.map_replicate, col_blank]
  congr 2
  rw [← cut_cut ha, ← typed_cut hb, List.length_append, List.length_append, List.length_map, List.length_map]
noncomputable def ShowOk (c : Cell) : Prop := c.codes.length ≤ 90 ∧ (c.w = 0 ∨ (c.w = 1 ∧ c.codes = []) ∨ (∃ x r, c.codes = x :: r ∧ x ≠ 32 ∧ ((c.w = 1 ∧ x < 19968) ∨ (c.w = 2 ∧ 19968 ≤ x))))
noncomputable def GlyphOk (g : Glyph) : Prop := ∃ x r, g.1 = x :: r ∧ x ≠ 32 ∧ g.2 = decide (19968 ≤ x)
theorem markLast_ok {gs : List Glyph} (h : ∀ g ∈ gs, GlyphOk g) : ∀ g ∈ markLast gs, GlyphOk g := by
  rcases List.eq_nil_or_concat gs with rfl | ⟨r, g, rfl⟩
  · exact h
  · rw [List.concat_eq_append] at h ⊢
    rw [markLast_snoc]
    intro g' hg'
    rcases List.mem_append.mp hg' with hg' | hg'
    · exact h g' (List.mem_append.mpr (.inl hg'))
    · rw [List.mem_singleton.mp hg']
      obtain ⟨x, q, e, h1, h2⟩ := h g (List.mem_append.mpr (.inr (List.mem_singleton.mpr rfl)))
      exact ⟨x, q ++ [768], by rw [e]; rfl, h1, h2⟩
theorem putG_ok {gs : List Glyph} {c : Int} (h : ∀ g ∈ gs, GlyphOk g) (hc : c ≠ 32) : ∀ g ∈ putG gs c, GlyphOk g := by
  unfold putG
  split
  · exact h
  · split
    · exact markLast_ok h
    · intro g hg
      rcases List.mem_append.mp hg with hg | hg
      · exact h g hg
      · rw [List.mem_singleton.mp hg]; exact ⟨c, [], rfl, hc, rfl⟩
theorem putAll_ok {codes : List Int} (h : ∀ c ∈ codes, c ≠ 32) : ∀ g ∈ putAll codes, GlyphOk g := by
  unfold putAll
  have go : ∀ (codes : List Int) (gs : List Glyph), (∀ c ∈ codes, c ≠ 32) → (∀ g ∈ gs, GlyphOk g) → ∀ g ∈ codes.foldl putG gs, GlyphOk g := by
    intro codes
    induction codes with
    | nil => intro gs _ h; exact h
    | cons c r ih => intro gs hc h; exact ih _ (fun x hx => hc x (.tail _ hx)) (putG_ok h (hc c (.head _)))
  exact go codes [] h (fun _ h => nomatch h)
theorem cells_show {gs : List Glyph} (h : ∀ g ∈ gs, GlyphOk g) (hl : ∀ g ∈ gs, g.1.length ≤ 90) : ∀ c ∈ cellsOf gs, ShowOk c := by
  intro c hc
  obtain ⟨g, hg, hcg⟩ := List.mem_flatMap.mp hc
  obtain ⟨x, r, e, h1, h2⟩ := h g hg
  unfold cellsG at hcg
  split at hcg
  · rename_i hw
    have hx : 19968 ≤ x := by rw [h2] at hw; exact of_decide_eq_true hw
    rcases List.mem_cons.mp hcg with rfl | hcg
    · exact ⟨hl g hg, .inr (.inr ⟨x, r, e, h1, .inr ⟨rfl, hx⟩⟩)⟩
    · rw [List.mem_singleton.mp hcg]; exact ⟨Nat.zero_le _, .inl rfl⟩
  · rename_i hw
    have hx : ¬ 19968 ≤ x := by rw [h2] at hw; intro hx; exact hw (decide_eq_true hx)
    rw [List.mem_singleton.mp hcg]; exact ⟨hl g hg, .inr (.inr ⟨x, r, e, h1, .inl ⟨rfl, by (first | lia | omega)⟩⟩)⟩
theorem blank_show : ShowOk blankC := ⟨Nat.zero_le _, .inr (.inl ⟨rfl, rfl⟩)⟩
theorem fixW_show {c : Cell} (z : Int) (h : ShowOk c) : ShowOk (fixW c z) := by
  unfold fixW; split
  · exact blank_show
  · exact h
theorem fixLast_show : ∀ {l : List Cell}, (∀ c ∈ l, ShowOk c) → ∀ c ∈ fixLast l, ShowOk c
  | [], h => h
  | [c], h => by intro d hd; rw [List.mem_singleton.mp hd]; exact fixW_show 2 (h c (.head _))
  | c :: d :: r, h => by
    intro e he
    rcases List.mem_cons.mp he with rfl | he
    · exact h _ (.head _)
    · exact fixLast_show (fun x hx => h x (.tail _ hx)) e he
theorem slice_show {cs : List Cell} (h : ∀ c ∈ cs, ShowOk c) (lo hi : Nat) : ∀ c ∈ sliceC cs lo hi, ShowOk c := by
  unfold sliceC
  refine fixLast_show ?_
  have h2 : ∀ c ∈ (cs.take hi).drop lo, ShowOk c := fun c hc => h c (List.mem_of_mem_take (List.mem_of_mem_drop hc))
  generalize (cs.take hi).drop lo = l at h2
  cases l with
  | nil => exact h2
  | cons c r =>
    intro d hd
    rcases List.mem_cons.mp hd with rfl | hd
    · exact fixW_show 0 (h2 _ (.head _))
    · exact h2 d (.tail _ hd)
theorem cutC_show {cs : List Cell} (h : ∀ c ∈ cs, ShowOk c) (k : Nat) : ∀ c ∈ cutC cs k, ShowOk c := by
  unfold cutC; split
  · exact slice_show h _ _
  · exact h
theorem typed_show {cs : List Cell} (h : ∀ c ∈ cs, ShowOk c) (off room : Nat) : ∀ c ∈ typedC cs off room, ShowOk c := by
  unfold typedC; split
  · exact slice_show h _ _
  · exact fun _ h => nomatch h
theorem filled_show {cs : List Cell} (h : ∀ c ∈ cs, ShowOk c) (k : Nat) : ∀ c ∈ filledC cs k, ShowOk c := by
  unfold filledC
  intro c hc
  rcases List.mem_append.mp hc with hc | hc
  · exact cutC_show h k c hc
  · rw [List.eq_of_mem_replicate hc]; exact blank_show

end
end
section
theorem rg38 : True := by
  k_with_none
  k_with "omega" => (first | decide | (with_reducible first | exact Int.natCast_nonneg _ | exact rm1 ‹_› (by decide) | exact rm2 ‹_› (by decide) | exact rm3 ‹_› (by decide) | exact om_le ‹_› (by decide) | exact om_63 ‹_› (by decide) | exact om_eqle ‹_› ‹_› (by decide) | exact om_eq63 ‹_› ‹_› (by decide) | exact om_add ‹_› (by decide) | exact om_ne ‹_› (by decide) | exact om_le2 ‹_› ‹_› (by decide) | exact om_le2s ‹_› ‹_› (by decide) | exact om_le2_63 ‹_› ‹_› (by decide) | exact om_le2s_63 ‹_› ‹_› (by decide) | exact om_z62 ‹_› (by decide) | exact om_zn62 | exact om_kle ‹_› (by decide) | exact om_neg1 | exact om_pos | exact om_at ‹_› (by decide) | exact om_at0 ‹_› | exact om_add63 ‹_› (by decide) | exact Nat.ne_of_gt (by k_extra "pick") | exact Nat.ne_of_lt (by k_extra "pick")))
  k_with "ktr_room" => (first | exact rm0 (by assumption) | exact rm1 (by assumption) (Nat.le_of_ble_eq_true rfl))
  k_with "k_ne" => ((refine neN ?_; (try dsimp only); first | exact Nat.ne_of_gt (by assumption) | exact Nat.ne_of_lt (by assumption) | exact Nat.ne_of_gt (And.left (by assumption)) | exact Nat.ne_of_lt (And.left (by assumption)) | exact Nat.ne_of_gt (And.left (And.right (by assumption))) | exact Nat.ne_of_lt (And.left (And.right (by assumption))) | exact Nat.ne_of_gt (And.right (by assumption)) | exact Nat.ne_of_lt (And.right (by assumption)) | exact Nat.ne_of_gt (And.left (And.right (And.right (by assumption)))) | exact Nat.ne_of_lt (And.left (And.right (And.right (by assumption)))) | exact Nat.ne_of_gt (And.right (And.right (by assumption))) | exact Nat.ne_of_lt (And.right (And.right (by assumption)))))
  k_with "pick" => (with_reducible first | assumption | exact And.left ‹_› | exact And.left (And.right ‹_›) | exact And.left (And.right (And.right ‹_›)) | exact And.left (And.right (And.right (And.right ‹_›))) | exact And.left (And.right (And.right (And.right (And.right ‹_›)))) | exact And.left (And.right (And.right (And.right (And.right (And.right ‹_›))))) | exact And.left (And.right (And.right (And.right (And.right (And.right (And.right ‹_›)))))) | exact And.left (And.right (And.right (And.right (And.right (And.right (And.right (And.right ‹_›))))))) | exact And.left (And.right (And.right (And.right (And.right (And.right (And.right (And.right (And.right ‹_›)))))))) | exact And.left (And.right (And.right (And.right (And.right (And.right (And.right (And.right (And.right (And.right ‹_›))))))))) | exact And.left (And.right (And.right (And.right (And.right (And.right (And.right (And.right (And.right (And.right (And.right ‹_›)))))))))) | exact (And.right ‹_›) | exact (And.right (And.right ‹_›)) | exact (And.right (And.right (And.right ‹_›))) | exact (And.right (And.right (And.right (And.right ‹_›)))) | exact (And.right (And.right (And.right (And.right (And.right ‹_›))))) | exact (And.right (And.right (And.right (And.right (And.right (And.right ‹_›)))))) | exact (And.right (And.right (And.right (And.right (And.right (And.right (And.right ‹_›))))))) | exact (And.right (And.right (And.right (And.right (And.right (And.right (And.right (And.right ‹_›)))))))) | exact (And.right (And.right (And.right (And.right (And.right (And.right (And.right (And.right (And.right ‹_›))))))))) | exact (And.right (And.right (And.right (And.right (And.right (And.right (And.right (And.right (And.right (And.right ‹_›)))))))))))
  k_with "k_room" => (((simp only [depth_under_make, depth_under_kw, depth_in1, depth_deeper, depth_caller]); omega))
  k_with "k_all" => (assumption)
  k_with "eval Name" => (k_here; dsimp only)
  k_with "eval Call" => (k_here; dsimp only)
  k_with "eval Constant int" => (k_here; dsimp only)
  k_with "eval Attribute Name" => (k_here; dsimp only)
  k_with "eval BinOp" => (k_here; dsimp only)
  k_with "storeName" => (k_here; dsimp only)
  k_with "setAttr ref" => (k_here; dsimp only)
  k_with "eval Compare" => (k_here; dsimp only)
  k_with "isTrue Compare" => (k_here; dsimp only)
  k_with "eval Subscript" => (k_here; dsimp only)
  k_with "execs cons" => (k_here; first | (with_reducible rename News _ _ _ _ => nZ9; dsimp only at nZ9) | dsimp only | ((with_reducible show wpAny _ _ _ _ _ (Shared.mk _ _ _ (HAdd.hAdd _ _) _)); refine gen_toks ?_; intro _))
  k_with "eval Name" => (k_here; (fail_if_success (with_reducible show wpAny _ _ (eval _ (compEnvC _ _ _ _)) _ _ _)); (try dsimp only); k_dflt (first | (refine' nameX_L ?q9F ?q9v ?_ ?q9a ?q9b; (case q9F => k_asm); (case q9a => rfl); (case q9b => rfl); (case q9v => rfl); k_whole) | (refine' nameX_K ?q9F ?q9X ?q9T ?q9e ?_ ?q9a ?q9b; (case q9F => k_asm); (case q9X => k_asm); (case q9T => k_asm); (case q9a => rfl); (case q9b => rfl); (case q9e => k_is); k_whole) | (refine' nameX_B ?q9F ?q9X ?q9T ?q9e ?q9v ?q9n ?_ ?q9a ?q9b; (case q9F => k_asm); (case q9X => k_asm); (case q9T => k_asm); (case q9a => rfl); (case q9b => rfl); (case q9e => k_is); (case q9v => boot_fast); (case q9n => decide); k_whole)))
  k_with "execs cons" => (k_here; (try (with_reducible rename News _ _ _ _ => nZ9; dsimp only at nZ9)); (try dsimp only); (try ((with_reducible show wpAny _ _ _ _ _ (Shared.mk _ _ _ (HAdd.hAdd _ _) _)); refine gen_toks ?_; intro _)); (with_reducible refine wpAny_execs_cons ?_); (try dsimp only))
  k_with "eval Constant int" => (k_here; (try dsimp only); refine wpAny_Constant_int ?_)
  k_with "spliced" => (k_here; (fail_if_success (with_reducible show wpAny _ _ (spliced (backTo _ (starEach (PySem.Expr.Starred _ _ :: _) _))) _ _ _)); k_dflt (first | refine args_cons ?_ | (refine args_nil ?_; try simp only [List.cons_append, List.nil_append])))
  k_with "subscriptTail" => (k_here; (with_reducible show wpAny _ _ (subscriptTail _ _ (Value.ref _) (Value.int _ _)) _ _ _); k_dflt (refine' item_tupleT ?q9t ?q9a ?q9b ?q9c ?q9d ?_; (case q9t => exact News.isTup (by k_asm) (by k_mem)); (case q9a => decide); (case q9b => decide); (case q9c => rfl); (case q9d => rfl); k_whole))
  k_with "storeName" => (k_here; (fail_if_success (with_reducible show wpAny _ _ (storeName _ _ (compEnvC _ _ _ _)) _ _ _)); (try dsimp only); k_dflt (refine' storeX_L ?q9F ?q9N ?_ ?q9a ?q9b; (case q9F => k_asm); (case q9N => k_asm); (case q9a => rfl); (case q9b => rfl); k_whole; intro z9h z9F z9N; (try k_sweep)))
  k_with "callWith ref" => (k_here; k_dflt (first | (refine' callWith_K ?q9a ?q9b ?_; (case q9a => k_asm); (case q9b => k_is); k_whole) | (refine' callWith_K0 ?q9a ?q9b ?_; (case q9a => k_in); (case q9b => k_is); k_whole) | (refine' callWith_M0 ?q9a ?q9b ?_; (case q9a => k_meth); (case q9b => k_is); k_whole; try dsimp only [List.nil_append, List.cons_append]) | (refine' callWith_M ?q9a ?q9b ?q9c ?q9d ?_; (case q9a => k_asm); (case q9b => k_asm); (case q9c => k_mem); (case q9d => k_is); k_whole)))
  k_with "truthy bool" => (with_reducible refine wpAny_truthy_bool ?_)
  k_with "k_mem" => first | with_reducible assumption | assumption
  k_with "subscriptTail" => (k_here; (with_reducible show wpAny _ _ (subscriptTail _ _ (Value.ref _) (Value.int _ _)) _ _ _); (with_unfolding_all refine' item_litK ?q9k1 ?q9k2 ?q9k3 ?q9k4 ?_ ?q9k6; (case q9k1 => exact News.isList (by k_asm) (by k_mem)); (case q9k2 => decide); (case q9k3 => decide); (case q9k4 => rfl); (case q9k6 => with_unfolding_all rfl); k_whole))
  k_with "callWith" => ((with_reducible show wpAny _ _ (callWith _ (Value.builtin _) (_ :: _) (backTo _ (starEach (_ :: _) _)) []) _ _ _); k_dflt (refine callWith_method1 ?_))
  trivial
section
variable {prog : Program} {w : World} {p : Program} {loose : List Str} {mean : ExcName → Option Value} {mg mb : Str → Option Value}
 {dp un : Nat} {gd : Option (List Code)} {cn : Str} {cs : Scope} {a : Addr} {ccd : Value} {cl : List (Str × Addr)} {outer : List Env} {A₀ : Around} {base h₀ : Heap} {L : Addr} {m : Str → Option Value} {s : Shared} {Q E : Value → Shared → Prop}
theorem rg39 : True := by
  k_with "k_mem" => first | with_reducible assumption | ((repeat (first | exact List.Mem.head _ | with_reducible assumption | exact List.mem_append_left _ (by assumption) | refine List.Mem.tail _ ?_ | refine List.mem_append_right _ ?_ | assumption | exact m_tr (by assumption) (by assumption) | exact m_tr (by assumption) (m_tr (by assumption) (by assumption)))); done)
  k_with "call ref" => ((with_reducible show wpAny _ _ (call (Value.ref 130) _) _ _ _); k_dflt (refine' format_pieces_ok ?q9zB ?q9zF ?q9zX ?q9zN ?q9zT ?q9zk ?q9zd ?q9zu ?q9zb ?q9zo ?q9zl ?_); ((case q9zB => k_asm); (case q9zF => k_asm); (case q9zX => k_asm); (case q9zN => k_asm); (case q9zT => k_asm); (case q9zk => k_dflt (exact rfl)); (case q9zb => k_dflt (assumption)); (case q9zo => k_dflt (assumption)); (case q9zl => k_dflt (omega)); (case q9zd => first | (first | exact rm2 (by assumption) (Nat.le_of_ble_eq_true rfl) | exact rm1 (by assumption) (Nat.le_of_ble_eq_true rfl) | (first | exact rm2 (by assumption) (Nat.le_of_ble_eq_true rfl) | exact rm1 (by assumption) (Nat.le_of_ble_eq_true rfl) | (show _ + _ < _; simp only [depth_deeper]; omega))) | decide +kernel); (case q9zu => first | (first | exact rm2 (by assumption) (Nat.le_of_ble_eq_true rfl) | exact rm1 (by assumption) (Nat.le_of_ble_eq_true rfl) | (first | exact rm2 (by assumption) (Nat.le_of_ble_eq_true rfl) | exact rm1 (by assumption) (Nat.le_of_ble_eq_true rfl) | (show _ + _ < _; simp only [units_deeper]; omega))) | decide +kernel)); intro _ _ _ _ _ _ _ _ _ _ _)
  k_with "call ref" => ((with_reducible show wpAny _ _ (call (Value.ref 436) _) _ _ _); k_dflt (refine' text_put_ok ?q9zB ?q9zF ?q9zX ?q9zN ?q9zT ?q9zk ?q9zd ?q9zu ?q9zs ?q9zo ?q9zc ?q9zp ?q9zt ?q9zx ?q9zg ?q9zk9 ?q9zb ?q9ze ?_); ((case q9zB => k_asm); (case q9zF => k_asm); (case q9zX => k_asm); (case q9zN => k_asm); (case q9zT => k_asm); (case q9zk => k_dflt (exact rfl)); (case q9zs => k_dflt (assumption)); (case q9zo => k_dflt (assumption)); (case q9zc => k_dflt (assumption)); (case q9zp => k_dflt (assumption)); (case q9zt => k_dflt (assumption)); (case q9zx => k_dflt (assumption)); (case q9zg => k_dflt (assumption)); (case q9zk9 => k_dflt (assumption)); (case q9zb => k_dflt (assumption)); (case q9ze => k_dflt (assumption)); (case q9zd => first | (first | exact rm2 (by assumption) (Nat.le_of_ble_eq_true rfl) | exact rm1 (by assumption) (Nat.le_of_ble_eq_true rfl) | (first | exact rm2 (by assumption) (Nat.le_of_ble_eq_true rfl) | exact rm1 (by assumption) (Nat.le_of_ble_eq_true rfl) | (show _ + _ < _; simp only [depth_deeper]; omega))) | decide +kernel); (case q9zu => first | (first | exact rm2 (by assumption) (Nat.le_of_ble_eq_true rfl) | exact rm1 (by assumption) (Nat.le_of_ble_eq_true rfl) | (first | exact rm2 (by assumption) (Nat.le_of_ble_eq_true rfl) | exact rm1 (by assumption) (Nat.le_of_ble_eq_true rfl) | (show _ + _ < _; simp only [units_deeper]; omega))) | decide +kernel)); intro _ _ _ _ _ _ _ _ _)
  k_with "exec For Tuple Call cons nil" => (k_here; (rename Fr _ _ _ _ => z9lF'); (with_unfolding_all refine' For_turns z9lF' ?_; k_whole))
  k_with "pyIter ref" => ((with_reducible show wpAny _ _ (pyIter (Value.ref _)) (fun it s₂ => TurnsAt _ _ _ _ _ _ _ _ _ it s₂) _ _); refine stop_in ?_)
  trivial
structure RdS where
  vs : List Value
  n : Nat
  tl : Led
theorem ownOff_map {own : Led} {l : Led} (h : ∀ p ∈ own, ∀ q ∈ l, p.1 ≠ q.1) : OwnOff own (l.map (·.1)) := fun p hp b hb => by
  obtain ⟨q, hq, rfl⟩ := List.mem_map.mp hb
  exact h p hp q hq
theorem contains_ne {stored : List Str} {y z : Str} (h : stored.contains z = false) (hm : y ∈ stored) : z ≠ y := by
  rintro rfl
  rw [List.contains_iff_mem.mpr hm] at h
  cases h
theorem frmT_out {z : Str} {ps : List (Str × Value)} {stored : List Str} {u m₀ : Str → Option Value} (q2 : ps.lookup z = none) (q3 : stored.contains z = false) : frmT ps stored u m₀ z = m₀ z := by
  unfold frmT
  rw [q2]
  show (if stored.contains z then u z else m₀ z) = m₀ z
  rw [q3]; rfl
theorem text_read_ok {tl TT : Led} {l t x : Addr} {vs : List Value} {n : Nat} {ss : List Int} {bg : Int} {t0 : Tok} {oc : Array UInt8} {pv : Value} (B : Below A₀ base outer h₀) (F : Fr h₀ L s.heap m) (X : (Mine.frag.heap_1 w.params).In h₀) (N : News h₀ L s.heap ((l, listOf vs.toArray n) :: tl)) (T : Top p loose mean mg mb h₀) (hk : cs.kind = .function)
   (hd : dp + 10 < recursionLimit) (hu : un + 160 < cLine)
   (hsub : ∀ p ∈ TT, p ∈ tl) (hoff : ∀ p ∈ tl, p.1 ≠ l) (hcs : CellsV TT bg vs []) (hp : PenV TT pv bg) (hT : TabV TT t) (hX : TextV prog w TT x l pv t) (hl : ss.length ≤ 40) (hb : KBw.bInts oc = encs ss) (hc : ∀ c ∈ ss, SignOk c)
   (hret : ∀ vs' n' tl' h' tk', Fr h₀ L h' m → News h₀ L h' ((l, listOf vs'.toArray n') :: (tl' ++ tl)) → (∀ p ∈ tl', p.1 ≠ l) → CellsV (tl' ++ TT) bg vs' (cellsOf (putAll ss)) → Q .none { s with heap := h', toks := tk' }) :
   wpAny (model prog w) (ktrTop dp un gd cn cs L a ccd cl outer) (call (.ref 450) [.ref x, .bytes oc t0]) Q E s := by
  refine wpAny_call ?_
  k_dflt ktr_enter
  k_steps
  rename Fr _ _ _ _ => F1
  rename News _ _ _ _ => N1
  rename PiecesV _ _ _ => hP
  rename ∀ q ∈ (l, W.listOf vs.toArray n) :: tl, q.1 < _ => hlt1
  rename ∀ q : Addr × Obj, q ∈ _ → @LT.lt Nat _ _ q.1 => hgt1
  rename_i lc pvs pn ptl lh ltk
  have hPl := hP.length
  have hltl := hlt1 _ (.head _)
  refine turns_st (σ := RdS) (fun c => (l, listOf c.vs.toArray c.n) :: (c.tl ++ ((lc, listOf pvs.toArray pn) :: (ptl ++ tl)))) (fun _ => []) [Str.ofString "is_sign", Str.ofString "part", Str.ofString "parts"]
    (fun i c => CellsV (c.tl ++ TT) bg c.vs (cellsOf (putAll (ss.take i))) ∧ (∀ p ∈ c.tl, p.1 ≠ l)) ⟨vs, n, []⟩ rfl (fun c => .tail _ (List.mem_append.mpr (.inr (.head _)))) F1 (news_sub N1 ?_) (fun _ h => nomatch h) ⟨hcs, fun _ h => nomatch h⟩ ?_ ?_
  · intro q hq
    simp only [List.mem_cons, List.mem_append, List.nil_append] at hq ⊢
    rcases hq with hq | hq | hq | hq
    · exact .inr (.inr (.inl hq))
    · exact .inl hq
    · exact .inr (.inl hq)
    · exact .inr (.inr (.inr hq))
  · rintro i v ⟨vs9, n9, tl9⟩ u h tk own hv hown ⟨hC, hn⟩ F2 N2
    (try ((show wpAny _ _ _ _ _ _); k_fold))
    dsimp only at *
    have hil : i < ss.length := by rw [← hPl]; exact (List.getElem?_eq_some_iff.mp hv).1
    obtain ⟨c, hcc, x0, b0, tb0, nb0, rfl, hx0, hb0⟩ := hP.get hv
    have hx0' : (x0, tupO [.bool true, .bytes b0 tb0] nb0) ∈ (l, listOf vs9.toArray n9) :: ((tl9 ++ ((lc, listOf pvs.toArray pn) :: (ptl ++ tl))) ++ own) := by simp [hx0]
    replace N2 : News _ _ h ((l, listOf vs9.toArray n9) :: ((tl9 ++ ((lc, listOf pvs.toArray pn) :: (ptl ++ tl))) ++ own)) := N2
    have hsub9 : ∀ p ∈ tl9 ++ TT, p ∈ (tl9 ++ ((lc, listOf pvs.toArray pn) :: (ptl ++ tl))) ++ own := by
      intro p hp
      simp only [List.mem_cons, List.mem_append] at hp ⊢
      rcases hp with hp | hp
      · exact .inl (.inl hp)
      · exact .inl (.inr (.inr (.inr (hsub p hp))))
    have hne9 : ∀ p ∈ (tl9 ++ ((lc, listOf pvs.toArray pn) :: (ptl ++ tl))) ++ own, p.1 ≠ l := by
      intro p hp
      simp only [List.mem_cons, List.mem_append] at hp
      rcases hp with (hp | rfl | hp | hp) | hp
      · exact hn p hp
      · exact Nat.ne_of_gt hltl
      · exact Nat.ne_of_gt (Nat.lt_trans hltl (hgt1 p hp))
      · exact hoff p hp
      · exact hown p hp l (.head _)
    have hp' : PenV (tl9 ++ TT) pv bg := hp.mono fun q hq => List.mem_append.mpr (.inr hq)
    have hT' : TabV (tl9 ++ TT) t := hT.mono fun q hq => List.mem_append.mpr (.inr hq)
    have hX' : TextV prog w (tl9 ++ TT) x l pv t := hX.mono fun q hq => List.mem_append.mpr (.inr hq)
    have hok' : SignOk c := hc _ (List.mem_iff_getElem?.mpr ⟨_, hcc⟩)
    have hg := putAll_good0 (ss.take i)
    have hgl : (ss.take i).length ≤ 90 := by rw [List.length_take]; omega
    obtain ⟨d, dc, o, la, h1, h2, h3, h4, h5, h6, h7, k1, k2, k3, k4, k5, k6, k7, t1, nd, m1, m2, m3, lo', l1, l2, l3, hD⟩ := id hX'
    have m1' := hsub9 _ m1
    have m2' := hsub9 _ m2
    have m3' := hsub9 _ m3
    k_steps
    rename Above _ _ => hab
    rename CellsV _ _ _ _ => hC2
    rename News _ _ _ ((l, _) :: (_ ++ _)) => kN
    rename Fr _ _ _ _ => kF
    rename_i vs8 n8 tl8 _ _
    refine ⟨⟨vs8, n8, tl8 ++ tl9⟩, _, _, _, _, rfl, kF, kN, ?_, ?_, ?_, (fun _ h => nomatch h), ?_, ?_, ?_⟩
    · intro q hq
      simp only [List.mem_cons, List.mem_append] at hq ⊢
      rcases hq with hq | (hq | hq) | hq | hq | hq
      · exact .inl hq
      · exact .inr (.inl hq)
      · exact .inr (.inr (.inl (.inl hq)))
      · exact .inr (.inr (.inl (.inr (.inl hq))))
      · exact .inr (.inr (.inl (.inr (.inr (.inl hq)))))
      · exact .inr (.inr (.inl (.inr (.inr (.inr hq)))))
    · intro q hq
      exact .tail _ (List.mem_append.mpr (.inr (List.mem_append.mpr (.inr hq))))
    · refine ownOff_map fun p hp q hq => ?_
      simp only [List.mem_cons, List.mem_append] at hq
      rcases hq with rfl | (hq | hq) | rfl | hq | hq
      · exact hown p hp _ (.head _)
      · exact Nat.ne_of_lt (hab q hq p (.tail _ (List.mem_append.mpr (.inr hp))))
      all_goals (refine hown p hp _ (List.mem_map.mpr ⟨_, ?_, rfl⟩); first | simp [hq] | simp)
    · intro z _ h3
      rw [if_neg (contains_ne h3 (by simp)), if_neg (contains_ne h3 (by simp)), if_neg (contains_ne h3 (by simp))]
      exact frmT_out rfl h3
    · show CellsV ((tl8 ++ tl9) ++ TT) _ _ _
      rw [putAll_take hcc, List.append_assoc]; exact hC2
    · intro p hp
      rcases List.mem_append.mp hp with hp | hp
      · exact Nat.ne_of_gt (hab p hp _ (.head _))
      · exact hn p hp
  · rintro ⟨vs9, n9, tl9⟩ u h tk ⟨hC, hn⟩ F2 N2
    dsimp only at *
    k_steps
    rename News h₀ _ _ _ => kN
    rw [hPl, List.take_length] at hC
    have e9 : tl9 ++ (lc, listOf pvs.toArray pn) :: (ptl ++ tl) = (tl9 ++ (lc, listOf pvs.toArray pn) :: ptl) ++ tl := by simp
    rw [e9] at kN
    refine hret _ _ _ _ _ (by assumption) kN ?_ (hC.mono ?_)
    · intro p hp
      rcases List.mem_append.mp hp with hp | hp
      · exact hn p hp
      · rcases List.mem_cons.mp hp with rfl | hp
        · exact Nat.ne_of_gt hltl
        · exact Nat.ne_of_gt (Nat.lt_trans hltl (hgt1 p hp))
    · intro p hp
      rcases List.mem_append.mp hp with hp | hp
      · exact List.mem_append.mpr (.inl (List.mem_append.mpr (.inl hp)))
      · exact List.mem_append.mpr (.inr hp)

end
end
section
theorem rg40 : True := by
  k_with_none
  k_with "omega" => (first | decide | (with_reducible first | exact Int.natCast_nonneg _ | exact rm1 ‹_› (by decide) | exact rm2 ‹_› (by decide) | exact rm3 ‹_› (by decide) | exact om_le ‹_› (by decide) | exact om_63 ‹_› (by decide) | exact om_eqle ‹_› ‹_› (by decide) | exact om_eq63 ‹_› ‹_› (by decide) | exact om_add ‹_› (by decide) | exact om_ne ‹_› (by decide) | exact om_le2 ‹_› ‹_› (by decide) | exact om_le2s ‹_› ‹_› (by decide) | exact om_le2_63 ‹_› ‹_› (by decide) | exact om_le2s_63 ‹_› ‹_› (by decide) | exact om_z62 ‹_› (by decide) | exact om_zn62 | exact om_kle ‹_› (by decide) | exact om_neg1 | exact om_pos | exact om_at ‹_› (by decide) | exact om_at0 ‹_› | exact om_add63 ‹_› (by decide) | exact Nat.ne_of_gt (by k_extra "pick") | exact Nat.ne_of_lt (by k_extra "pick")))
  k_with "ktr_room" => (first | exact rm0 (by assumption) | exact rm1 (by assumption) (Nat.le_of_ble_eq_true rfl))
  k_with "k_ne" => ((refine neN ?_; (try dsimp only); first | exact Nat.ne_of_gt (by assumption) | exact Nat.ne_of_lt (by assumption) | exact Nat.ne_of_gt (And.left (by assumption)) | exact Nat.ne_of_lt (And.left (by assumption)) | exact Nat.ne_of_gt (And.left (And.right (by assumption))) | exact Nat.ne_of_lt (And.left (And.right (by assumption))) | exact Nat.ne_of_gt (And.right (by assumption)) | exact Nat.ne_of_lt (And.right (by assumption)) | exact Nat.ne_of_gt (And.left (And.right (And.right (by assumption)))) | exact Nat.ne_of_lt (And.left (And.right (And.right (by assumption)))) | exact Nat.ne_of_gt (And.right (And.right (by assumption))) | exact Nat.ne_of_lt (And.right (And.right (by assumption)))))
  k_with "pick" => (with_reducible first | assumption | exact And.left ‹_› | exact And.left (And.right ‹_›) | exact And.left (And.right (And.right ‹_›)) | exact And.left (And.right (And.right (And.right ‹_›))) | exact And.left (And.right (And.right (And.right (And.right ‹_›)))) | exact And.left (And.right (And.right (And.right (And.right (And.right ‹_›))))) | exact And.left (And.right (And.right (And.right (And.right (And.right (And.right ‹_›)))))) | exact And.left (And.right (And.right (And.right (And.right (And.right (And.right (And.right ‹_›))))))) | exact And.left (And.right (And.right (And.right (And.right (And.right (And.right (And.right (And.right ‹_›)))))))) | exact And.left (And.right (And.right (And.right (And.right (And.right (And.right (And.right (And.right (And.right ‹_›))))))))) | exact And.left (And.right (And.right (And.right (And.right (And.right (And.right (And.right (And.right (And.right (And.right ‹_›)))))))))) | exact (And.right ‹_›) | exact (And.right (And.right ‹_›)) | exact (And.right (And.right (And.right ‹_›))) | exact (And.right (And.right (And.right (And.right ‹_›)))) | exact (And.right (And.right (And.right (And.right (And.right ‹_›))))) | exact (And.right (And.right (And.right (And.right (And.right (And.right ‹_›)))))) | exact (And.right (And.right (And.right (And.right (And.right (And.right (And.right ‹_›))))))) | exact (And.right (And.right (And.right (And.right (And.right (And.right (And.right (And.right ‹_›)))))))) | exact (And.right (And.right (And.right (And.right (And.right (And.right (And.right (And.right (And.right ‹_›))))))))) | exact (And.right (And.right (And.right (And.right (And.right (And.right (And.right (And.right (And.right (And.right ‹_›)))))))))))
  k_with "k_room" => (((simp only [depth_under_make, depth_under_kw, depth_in1, depth_deeper, depth_caller]); omega))
  k_with "k_all" => (assumption)
  k_with "eval Name" => (k_here; dsimp only)
  k_with "eval Call" => (k_here; dsimp only)
  k_with "eval Constant int" => (k_here; dsimp only)
  k_with "eval Attribute Name" => (k_here; dsimp only)
  k_with "eval BinOp" => (k_here; dsimp only)
  k_with "storeName" => (k_here; dsimp only)
  k_with "setAttr ref" => (k_here; dsimp only)
  k_with "eval Compare" => (k_here; dsimp only)
  k_with "isTrue Compare" => (k_here; dsimp only)
  k_with "eval Subscript" => (k_here; dsimp only)
  k_with "execs cons" => (k_here; first | (with_reducible rename News _ _ _ _ => nZ9; dsimp only at nZ9) | dsimp only | ((with_reducible show wpAny _ _ _ _ _ (Shared.mk _ _ _ (HAdd.hAdd _ _) _)); refine gen_toks ?_; intro _))
  k_with "eval Name" => (k_here; (fail_if_success (with_reducible show wpAny _ _ (eval _ (compEnvC _ _ _ _)) _ _ _)); (try dsimp only); k_dflt (first | (refine' nameX_L ?q9F ?q9v ?_ ?q9a ?q9b; (case q9F => k_asm); (case q9a => rfl); (case q9b => rfl); (case q9v => rfl); k_whole) | (refine' nameX_K ?q9F ?q9X ?q9T ?q9e ?_ ?q9a ?q9b; (case q9F => k_asm); (case q9X => k_asm); (case q9T => k_asm); (case q9a => rfl); (case q9b => rfl); (case q9e => k_is); k_whole) | (refine' nameX_B ?q9F ?q9X ?q9T ?q9e ?q9v ?q9n ?_ ?q9a ?q9b; (case q9F => k_asm); (case q9X => k_asm); (case q9T => k_asm); (case q9a => rfl); (case q9b => rfl); (case q9e => k_is); (case q9v => boot_fast); (case q9n => decide); k_whole)))
  k_with "execs cons" => (k_here; (try (with_reducible rename News _ _ _ _ => nZ9; dsimp only at nZ9)); (try dsimp only); (try ((with_reducible show wpAny _ _ _ _ _ (Shared.mk _ _ _ (HAdd.hAdd _ _) _)); refine gen_toks ?_; intro _)); (with_reducible refine wpAny_execs_cons ?_); (try dsimp only))
  k_with "eval Constant int" => (k_here; (try dsimp only); refine wpAny_Constant_int ?_)
  k_with "spliced" => (k_here; (fail_if_success (with_reducible show wpAny _ _ (spliced (backTo _ (starEach (PySem.Expr.Starred _ _ :: _) _))) _ _ _)); k_dflt (first | refine args_cons ?_ | (refine args_nil ?_; try simp only [List.cons_append, List.nil_append])))
  k_with "subscriptTail" => (k_here; (with_reducible show wpAny _ _ (subscriptTail _ _ (Value.ref _) (Value.int _ _)) _ _ _); k_dflt (refine' item_tupleT ?q9t ?q9a ?q9b ?q9c ?q9d ?_; (case q9t => exact News.isTup (by k_asm) (by k_mem)); (case q9a => decide); (case q9b => decide); (case q9c => rfl); (case q9d => rfl); k_whole))
  k_with "storeName" => (k_here; (fail_if_success (with_reducible show wpAny _ _ (storeName _ _ (compEnvC _ _ _ _)) _ _ _)); (try dsimp only); k_dflt (refine' storeX_L ?q9F ?q9N ?_ ?q9a ?q9b; (case q9F => k_asm); (case q9N => k_asm); (case q9a => rfl); (case q9b => rfl); k_whole; intro z9h z9F z9N; (try k_sweep)))
  k_with "callWith ref" => (k_here; k_dflt (first | (refine' callWith_K ?q9a ?q9b ?_; (case q9a => k_asm); (case q9b => k_is); k_whole) | (refine' callWith_K0 ?q9a ?q9b ?_; (case q9a => k_in); (case q9b => k_is); k_whole) | (refine' callWith_M0 ?q9a ?q9b ?_; (case q9a => k_meth); (case q9b => k_is); k_whole; try dsimp only [List.nil_append, List.cons_append]) | (refine' callWith_M ?q9a ?q9b ?q9c ?q9d ?_; (case q9a => k_asm); (case q9b => k_asm); (case q9c => k_mem); (case q9d => k_is); k_whole)))
  k_with "truthy bool" => (with_reducible refine wpAny_truthy_bool ?_)
  k_with "k_mem" => first | with_reducible assumption | assumption
  k_with "subscriptTail" => (k_here; (with_reducible show wpAny _ _ (subscriptTail _ _ (Value.ref _) (Value.int _ _)) _ _ _); (with_unfolding_all refine' item_litK ?q9k1 ?q9k2 ?q9k3 ?q9k4 ?_ ?q9k6; (case q9k1 => exact News.isList (by k_asm) (by k_mem)); (case q9k2 => decide); (case q9k3 => decide); (case q9k4 => rfl); (case q9k6 => with_unfolding_all rfl); k_whole))
  k_with "callWith" => ((with_reducible show wpAny _ _ (callWith _ (Value.builtin _) (_ :: _) (backTo _ (starEach (_ :: _) _)) []) _ _ _); k_dflt (refine callWith_method1 ?_))
  trivial
section
variable {prog : Program} {w : World} {p : Program} {loose : List Str} {mean : ExcName → Option Value} {mg mb : Str → Option Value}
 {dp un : Nat} {gd : Option (List Code)} {cn : Str} {cs : Scope} {a : Addr} {ccd : Value} {cl : List (Str × Addr)} {outer : List Env} {A₀ : Around} {base h₀ : Heap} {L : Addr} {m : Str → Option Value} {s : Shared} {Q E : Value → Shared → Prop}
theorem rg41 : True := by
  k_with "k_mem" => first | with_reducible assumption | ((repeat (first | exact List.Mem.head _ | with_reducible assumption | exact List.mem_append_left _ (by assumption) | refine List.Mem.tail _ ?_ | refine List.mem_append_right _ ?_ | assumption | exact m_tr (by assumption) (by assumption) | exact m_tr (by assumption) (m_tr (by assumption) (by assumption)))); done)
  k_with "setItem" => (k_here; (with_reducible show wpAny _ _ (setItem (Value.ref _) (Value.bytes _ _) _) _ _ _); k_dflt (refine' kda_set (knd := bytesKind _ _) ?q9F ?q9N ?q9U ?q9d (bk_is _ _ _ _) ?q9z ?_; (case q9F => k_asm); (case q9N => k_asm); (case q9U => k_updF); (case q9d => first | assumption | exact bk_empty (by assumption)); (case q9z => rw [sizeLine_eq]; exact Nat.le_of_ble_eq_true (by with_unfolding_all rfl))); intro _ _ _ z9N' _; (try dsimp only at z9N'))
  k_with "subscriptTail" => (k_here; (with_reducible show wpAny _ _ (subscriptTail _ _ (Value.ref _) (Value.bytes _ _)) _ _ _); k_dflt (refine kda_item (knd := bytesKind _ _) (by k_asm) (by k_mem) (by assumption) (bk_is _ _ _ _) (by with_unfolding_all rfl) ?_))
  k_with "compareOp In bytes ref" => (k_here; (with_reducible show wpAny _ _ (compareOp CmpOp.In (Value.bytes _ _) (Value.ref _)) _ _ _); k_dflt (first | refine kda_in (knd := bytesKind _ _) (by k_asm) (by k_mem) (by assumption) (by assumption) (bk_is _ _ _ _) true (by with_unfolding_all rfl) ?_ | refine kda_in (knd := bytesKind _ _) (by k_asm) (by k_mem) (by assumption) (by assumption) (bk_is _ _ _ _) false (by with_unfolding_all rfl) ?_))
  k_with "compareOp NotIn bytes ref" => (k_here; (with_reducible show wpAny _ _ (compareOp CmpOp.NotIn (Value.bytes _ _) (Value.ref _)) _ _ _); k_dflt (first | refine kdg_notin (knd := bytesKind _ _) (by k_asm) (by k_mem) (by assumption) (by assumption) (bk_is _ _ _ _) true (by with_unfolding_all rfl) ?_ | refine kdg_notin (knd := bytesKind _ _) (by k_asm) (by k_mem) (by assumption) (by assumption) (bk_is _ _ _ _) false (by with_unfolding_all rfl) ?_))
  k_with "eval Dict" => (k_here; k_dflt (refine' kdn_eval (knd := bytesKind _ _) ?q9F ?q9N ?q9b ?q9a ?q9l ?q9e ?q9n ?_; (case q9F => k_asm); (case q9N => first | k_asm | exact News.nil); (case q9b => exact Top.nolimit (by k_asm)); (case q9a => rfl); (case q9l => rfl); (case q9e => exact List.cons_ne_nil _ _); (case q9n => exact Nat.le_of_ble_eq_true rfl)); intro _ _ _ _ _ z9l1 _ _; (try k_lt z9l1))
  k_with "KdnMade" => (k_here; (try dsimp only); k_dflt (refine' kdn_made_b (bkKv _) ?q9zF ?q9zN ?q9zU ?q9zd (carries_b _ ?q9zk) ?q9zn ?_; (case q9zF => k_asm); (case q9zN => k_asm); (case q9zU => k_updF); (case q9zd => k_asm); (case q9zk => exact rfl); (case q9zn => exact of_decide_eq_true (by first | rfl | kernel_rfl!))); intro _ _ _ z9N' z9hd'; (try dsimp only at z9N'); (try simp only [bkKv, List.map_cons, List.map_nil] at z9hd'))
  k_with "UnrEndW" => k_dflt (first | (refine' unrW0 ?q9zF ?q9zN ?q9za ⟨?q9zk, ?_⟩; (case q9zF => assumption); (case q9zN => assumption); (case q9za => (repeat (first | exact off_lt (by assumption) | (refine' off_cons ?q9zz ?_; (case q9zz => k_ne))))); (case q9zk => trivial)) | (refine' unrW1 ?q9zF ?q9zN ?q9zb ?q9za ⟨?q9zk, ?_⟩; (case q9zF => assumption); (case q9zN => assumption); (case q9zb => k_ne); (case q9za => (repeat (first | exact off_lt (by assumption) | (refine' off_cons ?q9zz ?_; (case q9zz => k_ne))))); (case q9zk => trivial)))
  k_with "exec For Name Name cons nil" => (k_here; (rename Fr _ _ _ _ => z9lF'); (with_unfolding_all refine' For_turnsG z9lF' ?q9zg ?_; (case q9zg => exact rfl); k_whole))
  k_with "call ref" => ((with_reducible show wpAny _ _ (call (Value.ref 450) _) _ _ _); refine stop_in ?_)
  trivial
theorem upd_mid {d : Addr} {o o' : Obj} {pre post : Led} (a : ∀ p ∈ pre, p.1 ≠ d) (b : ∀ p ∈ post, p.1 ≠ d) : Upd d o o' (pre ++ (d, o) :: post) (pre ++ (d, o') :: post) := upd_app a (.head b)
theorem ext_any {A : Around} {news : Led} {D b : Addr} {vs ws : List Value} {n n2 : Nat} {g : Obj → Led} {Q : Value → Shared → Prop} (F : Fr h₀ L s.heap m) (N : News h₀ L s.heap news) (hb : (b, listOf ws.toArray n2) ∈ news) (U : UpdF D (listOf vs.toArray n) news g) (hz : vs.length + ws.length ≤ 1000)
    (h : ∀ h' n', Fr h₀ L h' m → News h₀ L h' (g (listOf (vs ++ ws).toArray n')) → Q .none { s with heap := h' }) : wpAny (model prog w) A (call (.builtin "list.extend") [.ref D, .ref b]) Q E s := by
  obtain ⟨pre, post, rfl, hg, a, c⟩ := U.split
  have hz1 : ¬(!vs.toArray.isEmpty && Builtin.List.listTooLong (vs.toArray.size + ws.toArray.size)) = true := extend_door (by rw [sizeLine_eq]; simp; (first | lia | omega))
  by_cases hw : ws = []
  · subst hw
    refine kxn_extend F N hb rfl (upd_mid a c) hz1 (by rw [sizeLine_eq]; simp; (first | lia | omega)) (by rw [sizeLine_eq]; simp; (first | lia | omega)) (fun h' F' N' => h h' n F' ?_)
    rw [hg, List.append_nil]; exact N'
  · refine kl_extend (l := vs ++ ws) F N hb rfl ?_ (upd_mid a c) hz1 (by rw [sizeLine_eq]; simp; (first | lia | omega)) (by rw [sizeLine_eq]; simp; (first | lia | omega)) (fun h' F' N' => h h' (n + 1) F' ?_)
    · intro e; exact hw (List.eq_nil_of_length_eq_zero (by simpa using e))
    · rw [hg]; exact N'
theorem ext_some {A : Around} {news : Led} {D b : Addr} {ws : List Value} {n n2 : Nat} {g : Obj → Led} {Q : Value → Shared → Prop} (F : Fr h₀ L s.heap m) (N : News h₀ L s.heap news) (hb : (b, listOf ws.toArray n2) ∈ news) (U : UpdF D (listOf #[] n) news g) (hz : ws.length ≤ 1000)
    (h : ∀ h' n', Fr h₀ L h' m → News h₀ L h' (g (listOf ws.toArray n')) → Q .none { s with heap := h' }) : wpAny (model prog w) A (call (.builtin "list.extend") [.ref D, .ref b]) Q E s :=
  ext_any (vs := []) F N hb U (by simp; (first | lia | omega)) h
theorem ext_nil {A : Around} {news : Led} {D b : Addr} {vs : List Value} {n n2 : Nat} {g : Obj → Led} {Q : Value → Shared → Prop} (F : Fr h₀ L s.heap m) (N : News h₀ L s.heap news) (hb : (b, listOf #[] n2) ∈ news) (U : UpdF D (listOf vs.toArray n) news g) (hz : vs.length ≤ 1000)
    (h : ∀ h' n', Fr h₀ L h' m → News h₀ L h' (g (listOf vs.toArray n')) → Q .none { s with heap := h' }) : wpAny (model prog w) A (call (.builtin "list.extend") [.ref D, .ref b]) Q E s :=
  ext_any (ws := []) F N hb U (by simp; (first | lia | omega)) (fun h' n' F' N' => h h' n' F' (by rw [List.append_nil] at N'; exact N'))
theorem rg42 : True := by
  k_with "call builtin:list.extend" => (k_here; (with_reducible show wpAny _ _ (call (Value.builtin _) [Value.ref _, Value.ref _]) _ _ _); k_dflt (refine' ext_nil ?q9zF ?q9zN ?q9zb ?q9zU ?q9zz ?_; (case q9zF => k_asm); (case q9zN => k_asm); (case q9zb => k_mem); (case q9zU => k_updF); (case q9zz => omega)); intro _ _ _ z9N'; (try dsimp only at z9N'))
  k_with "call builtin:list.extend" => (k_here; (with_reducible show wpAny _ _ (call (Value.builtin _) [Value.ref _, Value.ref _]) _ _ _); k_dflt (refine' ext_some ?q9zF ?q9zN ?q9zb ?q9zU ?q9zz ?_; (case q9zF => k_asm); (case q9zN => k_asm); (case q9zb => k_mem); (case q9zU => k_updF); (case q9zz => omega)); intro _ _ _ z9N'; (try dsimp only at z9N'))
  trivial
theorem styled_cells_ok {news : Led} {t : Addr} {ss : List Int} {bg : Int} {t0 : Tok} {oc : Array UInt8} {pv : Value} (B : Below A₀ base outer h₀) (F : Fr h₀ L s.heap m) (X : (Mine.frag.heap_1 w.params).In h₀) (N : News h₀ L s.heap news) (T : Top p loose mean mg mb h₀) (hk : cs.kind = .function)
   (hd : dp + 12 < recursionLimit) (hu : un + 180 < cLine)
   (hp : PenV news pv bg) (hT : TabV news t) (hl : ss.length ≤ 40) (hb : KBw.bInts oc = encs ss) (hc : ∀ c ∈ ss, SignOk c)
   (hret : ∀ l vs n news' h' tk', Fr h₀ L h' m → News h₀ L h' news' → (∀ q ∈ news, q ∈ news') → (l, listOf vs.toArray n) ∈ news' → CellsV news' bg vs (cellsOf (putAll ss)) → Q (.ref l) { s with heap := h', toks := tk' }) :
   wpAny (model prog w) (ktrTop dp un gd cn cs L a ccd cl outer) (call (.ref 464) [.bytes oc t0, pv, .ref t]) Q E s := by
  obtain ⟨pr, rfl⟩ := hp.ref
  refine wpAny_call ?_
  k_dflt ktr_enter
  k_steps
  (show wpAny _ _ (call (Value.ref 450) _) _ _ _)
  rename News _ _ _ _ => N1
  rename Obj.IsDictOf (bytesKind prog w) _ (stored _ _ _) => hD1
  have N2 := news_mv [_, _, _] N1
  refine' text_read_ok (vs := []) ?zB ?zF ?zX N2 ?zT ?zk ?zd ?zu (fun p hp => hp) ?z1 .nil (hp.mono ?z2) (hT.mono ?z3) ?z4 hl hb hc ?z5
  case zB => k_asm
  case zF => k_asm
  case zX => k_asm
  case zT => k_asm
  case zk => exact rfl
  case zd => (first | exact rm2 (by assumption) (Nat.le_of_ble_eq_true rfl) | exact rm1 (by assumption) (Nat.le_of_ble_eq_true rfl) | (show _ + _ < _; simp only [depth_deeper]; omega))
  case zu => (first | exact rm2 (by assumption) (Nat.le_of_ble_eq_true rfl) | exact rm1 (by assumption) (Nat.le_of_ble_eq_true rfl) | (show _ + _ < _; simp only [units_deeper]; omega))
  · intro p hp
    simp only [List.mem_cons, List.mem_append, List.cons_append, List.nil_append] at hp
    rcases hp with rfl | rfl | rfl | rfl | rfl | rfl | rfl | hp
    all_goals first
      | exact Nat.ne_of_gt (by k_extra "pick")
      | exact Nat.ne_of_lt (by k_extra "pick")
      | exact Nat.ne_of_lt (lt_of_all (by k_extra "pick") _ (by assumption))
  · (intro qq hqq; first | exact hqq | simp only [List.mem_cons, List.mem_append, hqq, or_true, true_or])
  · (intro qq hqq; first | exact hqq | simp only [List.mem_cons, List.mem_append, hqq, or_true, true_or])
  · exact ⟨_, _, _, _, _, _, _, _, _, _, _, _, _, _, _, _, _, _, _, _, .tail _ (.tail _ (.tail _ (.tail _ (.tail _ (.head _))))), .tail _ (.tail _ (.tail _ (.tail _ (.tail _ (.tail _ (.head _)))))), .tail _ (.tail _ (.tail _ (.head _))), by assumption, _, _, _, hD1⟩
  · intro vs' n' tl' h' tk' F' N' hne' hC'
    have hlen' : vs'.length ≤ 1000 := by
      have h1 := hC'.length
      have h2 := cellsOf_len (putAll ss)
      have h3 := (putAll_good0 ss).1
      omega
    k_steps
    rename News h₀ _ _ _ => kN
    exact hret _ _ _ _ _ _ (by assumption) kN (by (intro qq hqq; first | exact hqq | simp only [List.mem_cons, List.mem_append, hqq, or_true, true_or])) (.head _) (hC'.mono fun q hq => .tail _ (.tail _ hq))

end
end
section
theorem rg43 : True := by
  k_with_none
  k_with "omega" => (first | decide | (with_reducible first | exact Int.natCast_nonneg _ | exact rm1 ‹_› (by decide) | exact rm2 ‹_› (by decide) | exact rm3 ‹_› (by decide) | exact om_le ‹_› (by decide) | exact om_63 ‹_› (by decide) | exact om_eqle ‹_› ‹_› (by decide) | exact om_eq63 ‹_› ‹_› (by decide) | exact om_add ‹_› (by decide) | exact om_ne ‹_› (by decide) | exact om_le2 ‹_› ‹_› (by decide) | exact om_le2s ‹_› ‹_› (by decide) | exact om_le2_63 ‹_› ‹_› (by decide) | exact om_le2s_63 ‹_› ‹_› (by decide) | exact om_z62 ‹_› (by decide) | exact om_zn62 | exact om_kle ‹_› (by decide) | exact om_neg1 | exact om_pos | exact om_at ‹_› (by decide) | exact om_at0 ‹_› | exact om_add63 ‹_› (by decide) | exact Nat.ne_of_gt (by k_extra "pick") | exact Nat.ne_of_lt (by k_extra "pick")))
  k_with "ktr_room" => (first | exact rm0 (by assumption) | exact rm1 (by assumption) (Nat.le_of_ble_eq_true rfl))
  k_with "k_ne" => ((refine neN ?_; (try dsimp only); first | exact Nat.ne_of_gt (by assumption) | exact Nat.ne_of_lt (by assumption) | exact Nat.ne_of_gt (And.left (by assumption)) | exact Nat.ne_of_lt (And.left (by assumption)) | exact Nat.ne_of_gt (And.left (And.right (by assumption))) | exact Nat.ne_of_lt (And.left (And.right (by assumption))) | exact Nat.ne_of_gt (And.right (by assumption)) | exact Nat.ne_of_lt (And.right (by assumption)) | exact Nat.ne_of_gt (And.left (And.right (And.right (by assumption)))) | exact Nat.ne_of_lt (And.left (And.right (And.right (by assumption)))) | exact Nat.ne_of_gt (And.right (And.right (by assumption))) | exact Nat.ne_of_lt (And.right (And.right (by assumption)))))
  k_with "pick" => (with_reducible first | assumption | exact And.left ‹_› | exact And.left (And.right ‹_›) | exact And.left (And.right (And.right ‹_›)) | exact And.left (And.right (And.right (And.right ‹_›))) | exact And.left (And.right (And.right (And.right (And.right ‹_›)))) | exact And.left (And.right (And.right (And.right (And.right (And.right ‹_›))))) | exact And.left (And.right (And.right (And.right (And.right (And.right (And.right ‹_›)))))) | exact And.left (And.right (And.right (And.right (And.right (And.right (And.right (And.right ‹_›))))))) | exact And.left (And.right (And.right (And.right (And.right (And.right (And.right (And.right (And.right ‹_›)))))))) | exact And.left (And.right (And.right (And.right (And.right (And.right (And.right (And.right (And.right (And.right ‹_›))))))))) | exact And.left (And.right (And.right (And.right (And.right (And.right (And.right (And.right (And.right (And.right (And.right ‹_›)))))))))) | exact (And.right ‹_›) | exact (And.right (And.right ‹_›)) | exact (And.right (And.right (And.right ‹_›))) | exact (And.right (And.right (And.right (And.right ‹_›)))) | exact (And.right (And.right (And.right (And.right (And.right ‹_›))))) | exact (And.right (And.right (And.right (And.right (And.right (And.right ‹_›)))))) | exact (And.right (And.right (And.right (And.right (And.right (And.right (And.right ‹_›))))))) | exact (And.right (And.right (And.right (And.right (And.right (And.right (And.right (And.right ‹_›)))))))) | exact (And.right (And.right (And.right (And.right (And.right (And.right (And.right (And.right (And.right ‹_›))))))))) | exact (And.right (And.right (And.right (And.right (And.right (And.right (And.right (And.right (And.right (And.right ‹_›)))))))))))
  k_with "k_room" => (((simp only [depth_under_make, depth_under_kw, depth_in1, depth_deeper, depth_caller]); omega))
  k_with "k_all" => (assumption)
  k_with "eval Name" => (k_here; dsimp only)
  k_with "eval Call" => (k_here; dsimp only)
  k_with "eval Constant int" => (k_here; dsimp only)
  k_with "eval Attribute Name" => (k_here; dsimp only)
  k_with "eval BinOp" => (k_here; dsimp only)
  k_with "storeName" => (k_here; dsimp only)
  k_with "setAttr ref" => (k_here; dsimp only)
  k_with "eval Compare" => (k_here; dsimp only)
  k_with "isTrue Compare" => (k_here; dsimp only)
  k_with "eval Subscript" => (k_here; dsimp only)
  k_with "execs cons" => (k_here; first | (with_reducible rename News _ _ _ _ => nZ9; dsimp only at nZ9) | dsimp only | ((with_reducible show wpAny _ _ _ _ _ (Shared.mk _ _ _ (HAdd.hAdd _ _) _)); refine gen_toks ?_; intro _))
  k_with "eval Name" => (k_here; (fail_if_success (with_reducible show wpAny _ _ (eval _ (compEnvC _ _ _ _)) _ _ _)); (try dsimp only); k_dflt (first | (refine' nameX_L ?q9F ?q9v ?_ ?q9a ?q9b; (case q9F => k_asm); (case q9a => rfl); (case q9b => rfl); (case q9v => rfl); k_whole) | (refine' nameX_K ?q9F ?q9X ?q9T ?q9e ?_ ?q9a ?q9b; (case q9F => k_asm); (case q9X => k_asm); (case q9T => k_asm); (case q9a => rfl); (case q9b => rfl); (case q9e => k_is); k_whole) | (refine' nameX_B ?q9F ?q9X ?q9T ?q9e ?q9v ?q9n ?_ ?q9a ?q9b; (case q9F => k_asm); (case q9X => k_asm); (case q9T => k_asm); (case q9a => rfl); (case q9b => rfl); (case q9e => k_is); (case q9v => boot_fast); (case q9n => decide); k_whole)))
  k_with "execs cons" => (k_here; (try (with_reducible rename News _ _ _ _ => nZ9; dsimp only at nZ9)); (try dsimp only); (try ((with_reducible show wpAny _ _ _ _ _ (Shared.mk _ _ _ (HAdd.hAdd _ _) _)); refine gen_toks ?_; intro _)); (with_reducible refine wpAny_execs_cons ?_); (try dsimp only))
  k_with "eval Constant int" => (k_here; (try dsimp only); refine wpAny_Constant_int ?_)
  k_with "spliced" => (k_here; (fail_if_success (with_reducible show wpAny _ _ (spliced (backTo _ (starEach (PySem.Expr.Starred _ _ :: _) _))) _ _ _)); k_dflt (first | refine args_cons ?_ | (refine args_nil ?_; try simp only [List.cons_append, List.nil_append])))
  k_with "subscriptTail" => (k_here; (with_reducible show wpAny _ _ (subscriptTail _ _ (Value.ref _) (Value.int _ _)) _ _ _); k_dflt (refine' item_tupleT ?q9t ?q9a ?q9b ?q9c ?q9d ?_; (case q9t => exact News.isTup (by k_asm) (by k_mem)); (case q9a => decide); (case q9b => decide); (case q9c => rfl); (case q9d => rfl); k_whole))
  k_with "storeName" => (k_here; (fail_if_success (with_reducible show wpAny _ _ (storeName _ _ (compEnvC _ _ _ _)) _ _ _)); (try dsimp only); k_dflt (refine' storeX_L ?q9F ?q9N ?_ ?q9a ?q9b; (case q9F => k_asm); (case q9N => k_asm); (case q9a => rfl); (case q9b => rfl); k_whole; intro z9h z9F z9N; (try k_sweep)))
  k_with "callWith ref" => (k_here; k_dflt (first | (refine' callWith_K ?q9a ?q9b ?_; (case q9a => k_asm); (case q9b => k_is); k_whole) | (refine' callWith_K0 ?q9a ?q9b ?_; (case q9a => k_in); (case q9b => k_is); k_whole) | (refine' callWith_M0 ?q9a ?q9b ?_; (case q9a => k_meth); (case q9b => k_is); k_whole; try dsimp only [List.nil_append, List.cons_append]) | (refine' callWith_M ?q9a ?q9b ?q9c ?q9d ?_; (case q9a => k_asm); (case q9b => k_asm); (case q9c => k_mem); (case q9d => k_is); k_whole)))
  k_with "truthy bool" => (with_reducible refine wpAny_truthy_bool ?_)
  k_with "k_mem" => first | with_reducible assumption | assumption
  k_with "subscriptTail" => (k_here; (with_reducible show wpAny _ _ (subscriptTail _ _ (Value.ref _) (Value.int _ _)) _ _ _); (with_unfolding_all refine' item_litK ?q9k1 ?q9k2 ?q9k3 ?q9k4 ?_ ?q9k6; (case q9k1 => exact News.isList (by k_asm) (by k_mem)); (case q9k2 => decide); (case q9k3 => decide); (case q9k4 => rfl); (case q9k6 => with_unfolding_all rfl); k_whole))
  k_with "callWith" => ((with_reducible show wpAny _ _ (callWith _ (Value.builtin _) (_ :: _) (backTo _ (starEach (_ :: _) _)) []) _ _ _); k_dflt (refine callWith_method1 ?_))
  trivial
section
variable {prog : Program} {w : World} {p : Program} {loose : List Str} {mean : ExcName → Option Value} {mg mb : Str → Option Value}
 {dp un : Nat} {gd : Option (List Code)} {cn : Str} {cs : Scope} {a : Addr} {ccd : Value} {cl : List (Str × Addr)} {outer : List Env} {A₀ : Around} {base h₀ : Heap} {L : Addr} {m : Str → Option Value} {s : Shared} {Q E : Value → Shared → Prop}
theorem rg44 : True := by
  k_with "k_mem" => first | with_reducible assumption | ((repeat (first | exact List.Mem.head _ | with_reducible assumption | exact List.mem_append_left _ (by assumption) | refine List.Mem.tail _ ?_ | refine List.mem_append_right _ ?_ | assumption | exact m_tr (by assumption) (by assumption) | exact m_tr (by assumption) (m_tr (by assumption) (by assumption)))); done)
  k_with "setItem" => (k_here; (with_reducible show wpAny _ _ (setItem (Value.ref _) (Value.bytes _ _) _) _ _ _); k_dflt (refine' kda_set (knd := bytesKind _ _) ?q9F ?q9N ?q9U ?q9d (bk_is _ _ _ _) ?q9z ?_; (case q9F => k_asm); (case q9N => k_asm); (case q9U => k_updF); (case q9d => first | assumption | exact bk_empty (by assumption)); (case q9z => rw [sizeLine_eq]; exact Nat.le_of_ble_eq_true (by with_unfolding_all rfl))); intro _ _ _ z9N' _; (try dsimp only at z9N'))
  k_with "subscriptTail" => (k_here; (with_reducible show wpAny _ _ (subscriptTail _ _ (Value.ref _) (Value.bytes _ _)) _ _ _); k_dflt (refine kda_item (knd := bytesKind _ _) (by k_asm) (by k_mem) (by assumption) (bk_is _ _ _ _) (by with_unfolding_all rfl) ?_))
  k_with "compareOp In bytes ref" => (k_here; (with_reducible show wpAny _ _ (compareOp CmpOp.In (Value.bytes _ _) (Value.ref _)) _ _ _); k_dflt (first | refine kda_in (knd := bytesKind _ _) (by k_asm) (by k_mem) (by assumption) (by assumption) (bk_is _ _ _ _) true (by with_unfolding_all rfl) ?_ | refine kda_in (knd := bytesKind _ _) (by k_asm) (by k_mem) (by assumption) (by assumption) (bk_is _ _ _ _) false (by with_unfolding_all rfl) ?_))
  k_with "compareOp NotIn bytes ref" => (k_here; (with_reducible show wpAny _ _ (compareOp CmpOp.NotIn (Value.bytes _ _) (Value.ref _)) _ _ _); k_dflt (first | refine kdg_notin (knd := bytesKind _ _) (by k_asm) (by k_mem) (by assumption) (by assumption) (bk_is _ _ _ _) true (by with_unfolding_all rfl) ?_ | refine kdg_notin (knd := bytesKind _ _) (by k_asm) (by k_mem) (by assumption) (by assumption) (bk_is _ _ _ _) false (by with_unfolding_all rfl) ?_))
  k_with "eval Dict" => (k_here; k_dflt (refine' kdn_eval (knd := bytesKind _ _) ?q9F ?q9N ?q9b ?q9a ?q9l ?q9e ?q9n ?_; (case q9F => k_asm); (case q9N => first | k_asm | exact News.nil); (case q9b => exact Top.nolimit (by k_asm)); (case q9a => rfl); (case q9l => rfl); (case q9e => exact List.cons_ne_nil _ _); (case q9n => exact Nat.le_of_ble_eq_true rfl)); intro _ _ _ _ _ z9l1 _ _; (try k_lt z9l1))
  k_with "KdnMade" => (k_here; (try dsimp only); k_dflt (refine' kdn_made_b (bkKv _) ?q9zF ?q9zN ?q9zU ?q9zd (carries_b _ ?q9zk) ?q9zn ?_; (case q9zF => k_asm); (case q9zN => k_asm); (case q9zU => k_updF); (case q9zd => k_asm); (case q9zk => exact rfl); (case q9zn => exact of_decide_eq_true (by first | rfl | kernel_rfl!))); intro _ _ _ z9N' z9hd'; (try dsimp only at z9N'); (try simp only [bkKv, List.map_cons, List.map_nil] at z9hd'))
  k_with "compareOp In bytes ref" => (k_here; (with_reducible show wpAny _ _ (compareOp CmpOp.In (Value.bytes _ _) (Value.ref _)) _ _ _); k_dflt (refine' in_bt ?q9zl ?q9za ?q9zz ?_; (case q9zl => first | exact tl_tup (News.isTup (by k_asm) (by k_mem)) rfl | exact tl_tup ⟨_, (Frag.In.keeps (by k_asm) (Fr.keep (by k_asm))) _ _ rfl, rfl, _, rfl⟩ rfl); (case q9za => exact rfl); (case q9zz => first | exact (rfl : _ = true) | exact (rfl : _ = false))))
  k_with "compareOp NotIn bytes ref" => (k_here; (with_reducible show wpAny _ _ (compareOp CmpOp.NotIn (Value.bytes _ _) (Value.ref _)) _ _ _); k_dflt (refine' notin_bt ?q9zl ?q9za ?q9zz ?_; (case q9zl => first | exact tl_tup (News.isTup (by k_asm) (by k_mem)) rfl | exact tl_tup ⟨_, (Frag.In.keeps (by k_asm) (Fr.keep (by k_asm))) _ _ rfl, rfl, _, rfl⟩ rfl); (case q9za => exact rfl); (case q9zz => first | exact (rfl : _ = true) | exact (rfl : _ = false))))
  k_with "getMethod ref" => (k_here; (with_reducible show wpAny _ _ (getMethod (Value.ref _) (PySem.Str.ofString "index") _) _ _ _); k_dflt (refine' bm_tupidx ?q9zN ?q9zm ?_; (case q9zN => k_asm); (case q9zm => k_mem)))
  k_with "call builtin:tuple.index" => (k_here; k_dflt (refine' idx_bt ?q9zl ?q9za ?q9zz ?_; (case q9zl => exact tl_tup (News.isTup (by k_asm) (by k_mem)) rfl); (case q9za => exact rfl); (case q9zz => exact rfl)); intro _)
  k_with "getMethod bytes" => (k_here; (with_reducible first | refine bm_find ?_ | refine bm_replace ?_ | refine bm_splitM ?_ | refine bm_starts ?_ | refine bm_joinM ?_))
  k_with "call builtin:bytes.find" => (k_here; with_reducible (first | refine bc_find (gives_find_blue _ _) ?_ | refine bc_find (gives_find_def _ _) ?_))
  k_with "call builtin:bytes.replace" => (k_here; with_reducible (first | refine bc_replace (gives_replace_blue _ _ _) ?_ | refine bc_replace (gives_replace_def _ _ _) ?_))
  k_with "call builtin:bytes.startswith" => (k_here; with_reducible (refine bc_starts (gives_starts_def _ _) ?_))
  k_with "call builtin:bytes.split" => (k_here; k_dflt (refine' bm_split ?q9zF ?q9zN ?q9ze ?_; (case q9zF => k_asm); (case q9zN => k_asm); (case q9ze => decide +kernel)); intro _ _ _ _ z9l1; (try k_lt z9l1); (try k_sweep))
  k_with "UnrEndW" => k_dflt (first | (refine' unrWk [] ?q9zF ?q9zN ?q9zp ?q9za ⟨?q9zk, ?_⟩; (case q9zF => assumption); (case q9zN => assumption); (case q9zp => (repeat (first | exact off_nil | (refine' off_cons ?q9zz ?_; (case q9zz => k_ne))))); (case q9za => (repeat (first | exact off_lt (by assumption) | (refine' off_cons ?q9zz ?_; (case q9zz => k_ne))))); (case q9zk => first | trivial | exact ⟨(by k_mem), trivial⟩); (try simp only [List.cons_append, List.nil_append])) | (refine' unrWk [_] ?q9zF ?q9zN ?q9zp ?q9za ⟨?q9zk, ?_⟩; (case q9zF => assumption); (case q9zN => assumption); (case q9zp => (repeat (first | exact off_nil | (refine' off_cons ?q9zz ?_; (case q9zz => k_ne))))); (case q9za => (repeat (first | exact off_lt (by assumption) | (refine' off_cons ?q9zz ?_; (case q9zz => k_ne))))); (case q9zk => first | trivial | exact ⟨(by k_mem), trivial⟩); (try simp only [List.cons_append, List.nil_append])) | (refine' unrWk [_, _] ?q9zF ?q9zN ?q9zp ?q9za ⟨?q9zk, ?_⟩; (case q9zF => assumption); (case q9zN => assumption); (case q9zp => (repeat (first | exact off_nil | (refine' off_cons ?q9zz ?_; (case q9zz => k_ne))))); (case q9za => (repeat (first | exact off_lt (by assumption) | (refine' off_cons ?q9zz ?_; (case q9zz => k_ne))))); (case q9zk => first | trivial | exact ⟨(by k_mem), trivial⟩); (try simp only [List.cons_append, List.nil_append])) | (refine' unrWk [_, _, _] ?q9zF ?q9zN ?q9zp ?q9za ⟨?q9zk, ?_⟩; (case q9zF => assumption); (case q9zN => assumption); (case q9zp => (repeat (first | exact off_nil | (refine' off_cons ?q9zz ?_; (case q9zz => k_ne))))); (case q9za => (repeat (first | exact off_lt (by assumption) | (refine' off_cons ?q9zz ?_; (case q9zz => k_ne))))); (case q9zk => first | trivial | exact ⟨(by k_mem), trivial⟩); (try simp only [List.cons_append, List.nil_append])) | (refine' unrWk [_, _, _, _] ?q9zF ?q9zN ?q9zp ?q9za ⟨?q9zk, ?_⟩; (case q9zF => assumption); (case q9zN => assumption); (case q9zp => (repeat (first | exact off_nil | (refine' off_cons ?q9zz ?_; (case q9zz => k_ne))))); (case q9za => (repeat (first | exact off_lt (by assumption) | (refine' off_cons ?q9zz ?_; (case q9zz => k_ne))))); (case q9zk => first | trivial | exact ⟨(by k_mem), trivial⟩); (try simp only [List.cons_append, List.nil_append])) | (refine' unrWk [_, _, _, _, _] ?q9zF ?q9zN ?q9zp ?q9za ⟨?q9zk, ?_⟩; (case q9zF => assumption); (case q9zN => assumption); (case q9zp => (repeat (first | exact off_nil | (refine' off_cons ?q9zz ?_; (case q9zz => k_ne))))); (case q9za => (repeat (first | exact off_lt (by assumption) | (refine' off_cons ?q9zz ?_; (case q9zz => k_ne))))); (case q9zk => first | trivial | exact ⟨(by k_mem), trivial⟩); (try simp only [List.cons_append, List.nil_append])) | (refine' unrWk [_, _, _, _, _, _] ?q9zF ?q9zN ?q9zp ?q9za ⟨?q9zk, ?_⟩; (case q9zF => assumption); (case q9zN => assumption); (case q9zp => (repeat (first | exact off_nil | (refine' off_cons ?q9zz ?_; (case q9zz => k_ne))))); (case q9za => (repeat (first | exact off_lt (by assumption) | (refine' off_cons ?q9zz ?_; (case q9zz => k_ne))))); (case q9zk => first | trivial | exact ⟨(by k_mem), trivial⟩); (try simp only [List.cons_append, List.nil_append])) | (refine' unrWk [_, _, _, _, _, _, _] ?q9zF ?q9zN ?q9zp ?q9za ⟨?q9zk, ?_⟩; (case q9zF => assumption); (case q9zN => assumption); (case q9zp => (repeat (first | exact off_nil | (refine' off_cons ?q9zz ?_; (case q9zz => k_ne))))); (case q9za => (repeat (first | exact off_lt (by assumption) | (refine' off_cons ?q9zz ?_; (case q9zz => k_ne))))); (case q9zk => first | trivial | exact ⟨(by k_mem), trivial⟩); (try simp only [List.cons_append, List.nil_append])))
  k_with "exec For" => (k_here; (rename Fr _ _ _ _ => z9lF'); (with_unfolding_all refine' For_turns z9lF' ?_; k_whole))
  k_with "exec For Name Call cons nil" => (k_here; (rename Fr _ _ _ _ => z9lF'); (with_unfolding_all refine' For_turns z9lF' ?_; k_whole))
  k_with "exec For Tuple Name cons nil" => (k_here; (rename Fr _ _ _ _ => z9lF'); (with_unfolding_all refine' For_turns z9lF' ?_; k_whole))
  k_with "pyIter ref" => (k_here; (with_reducible show wpAny _ _ (pyIter (Value.ref _)) (fun it s₂ => TurnsAt _ _ _ _ _ _ _ _ _ it s₂) _ _); (rename Fr _ _ _ _ => z9lF'); (rename News _ _ _ _ => z9lN'); (with_unfolding_all refine' iter_listTurns (vs := [_]) ?q9zh z9lF' z9lN' ?q9zm ?q9zc ?q9zd ?_; (case q9zh => rfl); (case q9zm => k_mem); (case q9zc => rfl); (case q9zd => rfl)); clear z9lF' z9lN'; intro _ z9l1; (try k_lt z9l1))
  trivial
theorem style_parts_blue {news : Led} {t0 : Tok} (B : Below A₀ base outer h₀) (F : Fr h₀ L s.heap m) (X : (Mine.frag.heap_1 w.params).In h₀) (N : News h₀ L s.heap news) (T : Top p loose mean mg mb h₀) (hk : cs.kind = .function)
   (hd : dp + 8 < recursionLimit) (hu : un + 140 < cLine)
   (hret : ∀ l x b n n' t t' news' h' tk', Fr h₀ L h' m → News h₀ L h' news' → (∀ q ∈ news, q ∈ news') → (l, listOf #[.ref x] n) ∈ news' → (x, tupO [.bytes b t, .int 4 t'] n') ∈ news' → b = #[98, 103] → Q (.ref l) { s with heap := h', toks := tk' }) :
   wpAny (model prog w) (ktrTop dp un gd cn cs L a ccd cl outer) (call (.ref 300) [.bytes #[98, 103, 61, 98, 108, 117, 101] t0]) Q E s := by
  refine wpAny_call ?_
  k_dflt ktr_enter
  k_steps
  rename News h₀ _ _ _ => kN
  exact hret _ _ _ _ _ _ _ _ _ _ (by assumption) kN (by (intro qq hqq; first | exact hqq | simp only [List.mem_cons, List.mem_append, hqq, or_true, true_or])) (by k_mem) (.head _) (by with_unfolding_all rfl)
theorem style_parts_def {news : Led} {t0 : Tok} (B : Below A₀ base outer h₀) (F : Fr h₀ L s.heap m) (X : (Mine.frag.heap_1 w.params).In h₀) (N : News h₀ L s.heap news) (T : Top p loose mean mg mb h₀) (hk : cs.kind = .function)
   (hd : dp + 8 < recursionLimit) (hu : un + 140 < cLine)
   (hret : ∀ l x b n n' t news' h' tk', Fr h₀ L h' m → News h₀ L h' news' → (∀ q ∈ news, q ∈ news') → (l, listOf #[.ref x] n) ∈ news' → (x, tupO [.bytes b t, .none] n') ∈ news' → b = #[100, 101, 102, 97, 117, 108, 116] → Q (.ref l) { s with heap := h', toks := tk' }) :
   wpAny (model prog w) (ktrTop dp un gd cn cs L a ccd cl outer) (call (.ref 300) [.bytes #[100, 101, 102, 97, 117, 108, 116] t0]) Q E s := by
  refine wpAny_call ?_
  k_dflt ktr_enter
  k_steps
  rename News h₀ _ _ _ => kN
  exact hret _ _ _ _ _ _ _ _ _ (by assumption) kN (by (intro qq hqq; first | exact hqq | simp only [List.mem_cons, List.mem_append, hqq, or_true, true_or])) (by k_mem) (.head _) (by with_unfolding_all rfl)

end
end
section
theorem rg45 : True := by
  k_with_none
  k_with "omega" => (first | decide | (with_reducible first | exact Int.natCast_nonneg _ | exact rm1 ‹_› (by decide) | exact rm2 ‹_› (by decide) | exact rm3 ‹_› (by decide) | exact om_le ‹_› (by decide) | exact om_63 ‹_› (by decide) | exact om_eqle ‹_› ‹_› (by decide) | exact om_eq63 ‹_› ‹_› (by decide) | exact om_add ‹_› (by decide) | exact om_ne ‹_› (by decide) | exact om_le2 ‹_› ‹_› (by decide) | exact om_le2s ‹_› ‹_› (by decide) | exact om_le2_63 ‹_› ‹_› (by decide) | exact om_le2s_63 ‹_› ‹_› (by decide) | exact om_z62 ‹_› (by decide) | exact om_zn62 | exact om_kle ‹_› (by decide) | exact om_neg1 | exact om_pos | exact om_at ‹_› (by decide) | exact om_at0 ‹_› | exact om_add63 ‹_› (by decide) | exact Nat.ne_of_gt (by k_extra "pick") | exact Nat.ne_of_lt (by k_extra "pick")))
  k_with "ktr_room" => (first | exact rm0 (by assumption) | exact rm1 (by assumption) (Nat.le_of_ble_eq_true rfl))
  k_with "k_ne" => ((refine neN ?_; (try dsimp only); first | exact Nat.ne_of_gt (by assumption) | exact Nat.ne_of_lt (by assumption) | exact Nat.ne_of_gt (And.left (by assumption)) | exact Nat.ne_of_lt (And.left (by assumption)) | exact Nat.ne_of_gt (And.left (And.right (by assumption))) | exact Nat.ne_of_lt (And.left (And.right (by assumption))) | exact Nat.ne_of_gt (And.right (by assumption)) | exact Nat.ne_of_lt (And.right (by assumption)) | exact Nat.ne_of_gt (And.left (And.right (And.right (by assumption)))) | exact Nat.ne_of_lt (And.left (And.right (And.right (by assumption)))) | exact Nat.ne_of_gt (And.right (And.right (by assumption))) | exact Nat.ne_of_lt (And.right (And.right (by assumption)))))
  k_with "pick" => (with_reducible first | assumption | exact And.left ‹_› | exact And.left (And.right ‹_›) | exact And.left (And.right (And.right ‹_›)) | exact And.left (And.right (And.right (And.right ‹_›))) | exact And.left (And.right (And.right (And.right (And.right ‹_›)))) | exact And.left (And.right (And.right (And.right (And.right (And.right ‹_›))))) | exact And.left (And.right (And.right (And.right (And.right (And.right (And.right ‹_›)))))) | exact And.left (And.right (And.right (And.right (And.right (And.right (And.right (And.right ‹_›))))))) | exact And.left (And.right (And.right (And.right (And.right (And.right (And.right (And.right (And.right ‹_›)))))))) | exact And.left (And.right (And.right (And.right (And.right (And.right (And.right (And.right (And.right (And.right ‹_›))))))))) | exact And.left (And.right (And.right (And.right (And.right (And.right (And.right (And.right (And.right (And.right (And.right ‹_›)))))))))) | exact (And.right ‹_›) | exact (And.right (And.right ‹_›)) | exact (And.right (And.right (And.right ‹_›))) | exact (And.right (And.right (And.right (And.right ‹_›)))) | exact (And.right (And.right (And.right (And.right (And.right ‹_›))))) | exact (And.right (And.right (And.right (And.right (And.right (And.right ‹_›)))))) | exact (And.right (And.right (And.right (And.right (And.right (And.right (And.right ‹_›))))))) | exact (And.right (And.right (And.right (And.right (And.right (And.right (And.right (And.right ‹_›)))))))) | exact (And.right (And.right (And.right (And.right (And.right (And.right (And.right (And.right (And.right ‹_›))))))))) | exact (And.right (And.right (And.right (And.right (And.right (And.right (And.right (And.right (And.right (And.right ‹_›)))))))))))
  k_with "k_room" => (((simp only [depth_under_make, depth_under_kw, depth_in1, depth_deeper, depth_caller]); omega))
  k_with "k_all" => (assumption)
  k_with "eval Name" => (k_here; dsimp only)
  k_with "eval Call" => (k_here; dsimp only)
  k_with "eval Constant int" => (k_here; dsimp only)
  k_with "eval Attribute Name" => (k_here; dsimp only)
  k_with "eval BinOp" => (k_here; dsimp only)
  k_with "storeName" => (k_here; dsimp only)
  k_with "setAttr ref" => (k_here; dsimp only)
  k_with "eval Compare" => (k_here; dsimp only)
  k_with "isTrue Compare" => (k_here; dsimp only)
  k_with "eval Subscript" => (k_here; dsimp only)
  k_with "execs cons" => (k_here; first | (with_reducible rename News _ _ _ _ => nZ9; dsimp only at nZ9) | dsimp only | ((with_reducible show wpAny _ _ _ _ _ (Shared.mk _ _ _ (HAdd.hAdd _ _) _)); refine gen_toks ?_; intro _))
  k_with "eval Name" => (k_here; (fail_if_success (with_reducible show wpAny _ _ (eval _ (compEnvC _ _ _ _)) _ _ _)); (try dsimp only); k_dflt (first | (refine' nameX_L ?q9F ?q9v ?_ ?q9a ?q9b; (case q9F => k_asm); (case q9a => rfl); (case q9b => rfl); (case q9v => rfl); k_whole) | (refine' nameX_K ?q9F ?q9X ?q9T ?q9e ?_ ?q9a ?q9b; (case q9F => k_asm); (case q9X => k_asm); (case q9T => k_asm); (case q9a => rfl); (case q9b => rfl); (case q9e => k_is); k_whole) | (refine' nameX_B ?q9F ?q9X ?q9T ?q9e ?q9v ?q9n ?_ ?q9a ?q9b; (case q9F => k_asm); (case q9X => k_asm); (case q9T => k_asm); (case q9a => rfl); (case q9b => rfl); (case q9e => k_is); (case q9v => boot_fast); (case q9n => decide); k_whole)))
  k_with "execs cons" => (k_here; (try (with_reducible rename News _ _ _ _ => nZ9; dsimp only at nZ9)); (try dsimp only); (try ((with_reducible show wpAny _ _ _ _ _ (Shared.mk _ _ _ (HAdd.hAdd _ _) _)); refine gen_toks ?_; intro _)); (with_reducible refine wpAny_execs_cons ?_); (try dsimp only))
  k_with "eval Constant int" => (k_here; (try dsimp only); refine wpAny_Constant_int ?_)
  k_with "spliced" => (k_here; (fail_if_success (with_reducible show wpAny _ _ (spliced (backTo _ (starEach (PySem.Expr.Starred _ _ :: _) _))) _ _ _)); k_dflt (first | refine args_cons ?_ | (refine args_nil ?_; try simp only [List.cons_append, List.nil_append])))
  k_with "subscriptTail" => (k_here; (with_reducible show wpAny _ _ (subscriptTail _ _ (Value.ref _) (Value.int _ _)) _ _ _); k_dflt (refine' item_tupleT ?q9t ?q9a ?q9b ?q9c ?q9d ?_; (case q9t => exact News.isTup (by k_asm) (by k_mem)); (case q9a => decide); (case q9b => decide); (case q9c => rfl); (case q9d => rfl); k_whole))
  k_with "storeName" => (k_here; (fail_if_success (with_reducible show wpAny _ _ (storeName _ _ (compEnvC _ _ _ _)) _ _ _)); (try dsimp only); k_dflt (refine' storeX_L ?q9F ?q9N ?_ ?q9a ?q9b; (case q9F => k_asm); (case q9N => k_asm); (case q9a => rfl); (case q9b => rfl); k_whole; intro z9h z9F z9N; (try k_sweep)))
  k_with "callWith ref" => (k_here; k_dflt (first | (refine' callWith_K ?q9a ?q9b ?_; (case q9a => k_asm); (case q9b => k_is); k_whole) | (refine' callWith_K0 ?q9a ?q9b ?_; (case q9a => k_in); (case q9b => k_is); k_whole) | (refine' callWith_M0 ?q9a ?q9b ?_; (case q9a => k_meth); (case q9b => k_is); k_whole; try dsimp only [List.nil_append, List.cons_append]) | (refine' callWith_M ?q9a ?q9b ?q9c ?q9d ?_; (case q9a => k_asm); (case q9b => k_asm); (case q9c => k_mem); (case q9d => k_is); k_whole)))
  k_with "truthy bool" => (with_reducible refine wpAny_truthy_bool ?_)
  k_with "k_mem" => first | with_reducible assumption | assumption
  k_with "subscriptTail" => (k_here; (with_reducible show wpAny _ _ (subscriptTail _ _ (Value.ref _) (Value.int _ _)) _ _ _); (with_unfolding_all refine' item_litK ?q9k1 ?q9k2 ?q9k3 ?q9k4 ?_ ?q9k6; (case q9k1 => exact News.isList (by k_asm) (by k_mem)); (case q9k2 => decide); (case q9k3 => decide); (case q9k4 => rfl); (case q9k6 => with_unfolding_all rfl); k_whole))
  k_with "callWith" => ((with_reducible show wpAny _ _ (callWith _ (Value.builtin _) (_ :: _) (backTo _ (starEach (_ :: _) _)) []) _ _ _); k_dflt (refine callWith_method1 ?_))
  trivial
section
variable {prog : Program} {w : World} {p : Program} {loose : List Str} {mean : ExcName → Option Value} {mg mb : Str → Option Value}
 {dp un : Nat} {gd : Option (List Code)} {cn : Str} {cs : Scope} {a : Addr} {ccd : Value} {cl : List (Str × Addr)} {outer : List Env} {A₀ : Around} {base h₀ : Heap} {L : Addr} {m : Str → Option Value} {s : Shared} {Q E : Value → Shared → Prop}
section
open PyProof.Rows
theorem adjust_upto (b n : Nat) (hb : b ≤ n) : Builtin.Slice.sliceAdjust none (some (b : Int)) 1 (n : Int) = (0, (b : Int)) := by
  unfold Builtin.Slice.sliceAdjust
  have h1 : ¬ ((1 : Int) < 0) := by (first | lia | omega)
  have h2 : ¬ ((b : Int) < 0) := by (first | lia | omega)
  simp only [h1, h2, if_false]
  congr 1
  (first | lia | omega)
theorem places_upto (b : Nat) : Builtin.Slice.slicePlaces 0 (b : Int) 1 = b := by
  unfold Builtin.Slice.slicePlaces
  have h1 : (1 : Int) > 0 := by (first | lia | omega)
  simp only [h1, if_true, Int.ediv_one]
  split <;> (first | lia | omega)
theorem sliceApplied_upto {A : Around} {sl : Addr} {b n : Nat} {u : Tok} {Q : Int × Int × Nat → Shared → Prop} {E : Value → Shared → Prop} (hs : s.heap.IsSliceOf sl .none (.int b u) .none) (hb : b ≤ n) (h : Q (0, 1, b) s) :
    wpAny (model prog w) A (Builtin.Slice.sliceApplied (.ref sl) (pure (n : Int))) Q E s := by
  obtain ⟨os, hos, hcs, hds⟩ := id hs
  unfold Builtin.Slice.sliceApplied Builtin.Slice.sliceFields
  refine wpAny_bind (wpAny_bind (wpAny_field hos hds (x := .none) rfl (wpAny_bind (wpAny_field hos hds (x := .int b u) rfl (wpAny_bind (wpAny_field hos hds (x := .none) rfl (wpAny_pure ?_)))))))
  refine wpAny_bind (slicePart_none ?_)
  show wpAny _ _ (if ((1 : Int) == 0) = true then _ else _) _ _ s
  rw [if_neg (by decide)]
  refine wpAny_bind (slicePart_none (wpAny_bind (slicePart_int (wpAny_bind (wpAny_pure ?_)))))
  show wpAny _ _ (match Builtin.Slice.sliceAdjust none (some (b : Int)) 1 (n : Int) with | (lo, hi) => pure (lo, (1 : Int), Builtin.Slice.slicePlaces lo hi 1)) _ _ s
  rw [adjust_upto b n hb]
  show wpAny _ _ (pure ((0 : Int), (1 : Int), Builtin.Slice.slicePlaces 0 (b : Int) 1)) _ _ s
  rw [places_upto b]
  exact wpAny_pure h
theorem pick_upto (xs : Array Value) (b : Nat) : ((List.range b).filterMap fun (k : Nat) => xs[((0 : Int) + (k : Int) * 1).toNat]?).toArray = (xs.toList.take b).toArray := by
  have e : (fun (k : Nat) => xs[((0 : Int) + (k : Int) * 1).toNat]?) = fun k => xs[0 + k]? := by
    funext k
    have : ((0 : Int) + (k : Int) * 1).toNat = 0 + k := by (first | lia | omega)
    rw [this]
  rw [e]
  have := pick_run xs 0 b
  rw [List.filterMap_map] at this
  have e2 : ((fun x => xs[x]?) ∘ fun x => 0 + x) = fun k => xs[0 + k]? := rfl
  rw [e2] at this
  rw [this, List.drop_zero]
theorem getItem_tuple_upto {A : Around} {t sl : Addr} {items : Array Value} {b : Nat} {u : Tok} {Q E : Value → Shared → Prop} (ht : IsTup s.heap t items) (hs : s.heap.IsSliceOf sl .none (.int b u) .none) (hb : b < items.size)
    (h : Q (.ref s.heap.objs.size) { s with heap := s.heap.push { cls := .type "tuple", data := .seq (items.toList.take b).toArray } })
    (hsz : items.size ≤ sizeLine) : wpAny (model prog w) A (getItem (.ref t) (.ref sl)) Q E s := by
  have htake : sizeOk (.seq (items.toList.take b).toArray) := by
    show (items.toList.take b).toArray.size ≤ sizeLine
    rw [List.size_toArray, List.length_take, Array.length_toList]
    (first | lia | omega)
  obtain ⟨os, hos, hcs, hds⟩ := id hs
  have hTs : s.TypeIs (.ref sl) "slice" := ⟨os, hos, hcs⟩
  unfold getItem
  try with_reducible refine wpAny_holding ?_
  first | refine wpAny_bind (wpAny_pure ?_) | skip
  refine wpAny_bind (wpAny_sequenceKey ht.typeIs (by decide) ?_)
  refine wpAny_bind (wpAny_callSpecial?_slot (name := Str.ofString "__getitem__") ht.typeIs slot_tuple_getitem
    (wpAny_call_entry slot_tuple_getitem ht.typeIs entry_tuple_getitem ?_ (args_tuple_getitem _ _)))
  show wpAny _ _ (Builtin.Tuple.tupleItemsOf (.ref t) >>= _) _ _ s
  refine wpAny_bind (tupleItemsOf_ ht ?_)
  refine wpAny_bind (wpAny_typeOf hTs ?_)
  rw [if_pos (by decide)]
  refine wpAny_bind (sliceApplied_upto hs (Nat.le_of_lt hb) ?_)
  have hno : ¬ (((0 : Int) == 0 && (1 : Int) == 1 && b == items.size) = true) := by
    have : (b == items.size) = false := by rw [beq_eq_false_iff_ne]; (first | lia | omega)
    rw [this]; simp
  show wpAny _ _ (if ((0 : Int) == 0 && (1 : Int) == 1 && b == items.size) = true then _ else _) _ _ s
  rw [if_neg hno, pick_upto items b]
  first
    | exact wpAny_bind (m := Builtin.Tuple.tupleExact _) (wpAny_newObj_type (wpAny_pure ⟨_, rfl, wpAny_pure h⟩) htake)
    | exact wpAny_bind (m := Builtin.Tuple.tupleExact _) (wpAny_newObj_type (wpAny_bind (wpAny_pure (wpAny_pure ⟨_, rfl, wpAny_pure h⟩))) htake)
    | exact wpAny_bind (wpAny_bind (m := Builtin.Tuple.tupleExact _) (wpAny_newObj_type (wpAny_pure (wpAny_pure ⟨_, rfl, wpAny_pure h⟩)) htake))
    | exact wpAny_bind (wpAny_bind (m := Builtin.Tuple.tupleExact _) (wpAny_newObj_type (wpAny_pure ⟨_, rfl, wpAny_pure h⟩) htake))
theorem slice_tup_upto {A : Around} {news : Led} {value slice : PySem.Expr} {t : Addr} {vs zs : List Value} {i : Int} (b : Nat) {u : Tok} {Q : Value → Shared → Prop}
    (F : Fr h₀ L s.heap m) (N : News h₀ L s.heap news) (ht : IsTup s.heap t vs.toArray) (hi : i = (b : Int)) (hb : b < vs.length) (hz : vs.take b = zs) (hl : vs.length ≤ 1000)
    (h : ∀ D h', Fr h₀ L h' m → News h₀ L h' ((D, tupO zs 0) :: news) → (∀ p ∈ news, p.1 < D) → Q (.ref D) { s with heap := h' })
    (hs : subscripted slice false (.ref t) (.ref s.heap.objs.size) = operate [.ref s.heap.objs.size, .ref t] (getItem (.ref t) (.ref s.heap.objs.size)))
    (hg : ∀ r, letTemporaryGo value (.ref t) r = pure ()) :
    wpAny (model prog w) A (subscriptTail value slice (.ref t) (.ref s.heap.objs.size)) Q E { s with heap := s.heap.push { cls := .type "slice", data := .fields #[.none, .int i u, .none] } } := by
  subst hi hz
  have ht' : IsTup (s.heap.push { cls := .type "slice", data := .fields #[.none, .int b u, .none] }) t vs.toArray := ht.keeps fun _ _ e => Heap.get?_push_of_some _ e
  refine subscriptTail_ops (s := { s with heap := s.heap.push { cls := .type "slice", data := .fields #[.none, .int b u, .none] } }) ht'.typeIs slot_tuple_getitem.lookup
    (getItem_tuple_upto ht' (Heap.IsSliceOf.new ..) (by simpa using hb) ?_ (by rw [sizeLine_eq]; simp; (first | lia | omega))) hs hg
  have N1 := News.push (F.push { cls := .type "slice", data := .fields #[.none, .int b u, .none] }) (N.grown fun _ _ e => Heap.get?_push_of_some _ e) { cls := .type "tuple", data := .seq (vs.toArray.toList.take b).toArray }
  rw [Heap.size_push] at N1
  show Q (.ref (s.heap.push _).objs.size) _
  rw [Heap.size_push]
  exact h _ _ ((F.push _).push _) N1 fun p hp => Nat.lt_succ_of_lt (Heap.lt_size (N p hp).1)
theorem slice_tup_from {A : Around} {news : Led} {value slice : PySem.Expr} {t : Addr} {vs zs : List Value} {i : Int} (b : Nat) {u : Tok} {Q : Value → Shared → Prop}
    (F : Fr h₀ L s.heap m) (N : News h₀ L s.heap news) (ht : IsTup s.heap t vs.toArray) (hi : i = (b : Int)) (h1 : 1 ≤ b) (hb : b ≤ vs.length) (hz : vs.drop b = zs) (hl : vs.length ≤ 1000)
    (h : ∀ D h', Fr h₀ L h' m → News h₀ L h' ((D, tupO zs 0) :: news) → (∀ p ∈ news, p.1 < D) → Q (.ref D) { s with heap := h' })
    (hs : subscripted slice false (.ref t) (.ref s.heap.objs.size) = operate [.ref s.heap.objs.size, .ref t] (getItem (.ref t) (.ref s.heap.objs.size)))
    (hg : ∀ r, letTemporaryGo value (.ref t) r = pure ()) :
    wpAny (model prog w) A (subscriptTail value slice (.ref t) (.ref s.heap.objs.size)) Q E { s with heap := s.heap.push { cls := .type "slice", data := .fields #[.int i u, .none, .none] } } := by
  subst hi hz
  exact slice_tuple_from F N ht h1 (by simpa using hb) (fun h' F' N' => h _ h' F' N' fun p hp => Nat.lt_succ_of_lt (Heap.lt_size (N p hp).1)) hs hg (by rw [sizeLine_eq]; simp; (first | lia | omega))
end

end
end
section
theorem rg46 : True := by
  k_with_none
  k_with "omega" => (first | decide | (with_reducible first | exact Int.natCast_nonneg _ | exact rm1 ‹_› (by decide) | exact rm2 ‹_› (by decide) | exact rm3 ‹_› (by decide) | exact om_le ‹_› (by decide) | exact om_63 ‹_› (by decide) | exact om_eqle ‹_› ‹_› (by decide) | exact om_eq63 ‹_› ‹_› (by decide) | exact om_add ‹_› (by decide) | exact om_ne ‹_› (by decide) | exact om_le2 ‹_› ‹_› (by decide) | exact om_le2s ‹_› ‹_› (by decide) | exact om_le2_63 ‹_› ‹_› (by decide) | exact om_le2s_63 ‹_› ‹_› (by decide) | exact om_z62 ‹_› (by decide) | exact om_zn62 | exact om_kle ‹_› (by decide) | exact om_neg1 | exact om_pos | exact om_at ‹_› (by decide) | exact om_at0 ‹_› | exact om_add63 ‹_› (by decide) | exact Nat.ne_of_gt (by k_extra "pick") | exact Nat.ne_of_lt (by k_extra "pick")))
  k_with "ktr_room" => (first | exact rm0 (by assumption) | exact rm1 (by assumption) (Nat.le_of_ble_eq_true rfl))
  k_with "k_ne" => ((refine neN ?_; (try dsimp only); first | exact Nat.ne_of_gt (by assumption) | exact Nat.ne_of_lt (by assumption) | exact Nat.ne_of_gt (And.left (by assumption)) | exact Nat.ne_of_lt (And.left (by assumption)) | exact Nat.ne_of_gt (And.left (And.right (by assumption))) | exact Nat.ne_of_lt (And.left (And.right (by assumption))) | exact Nat.ne_of_gt (And.right (by assumption)) | exact Nat.ne_of_lt (And.right (by assumption)) | exact Nat.ne_of_gt (And.left (And.right (And.right (by assumption)))) | exact Nat.ne_of_lt (And.left (And.right (And.right (by assumption)))) | exact Nat.ne_of_gt (And.right (And.right (by assumption))) | exact Nat.ne_of_lt (And.right (And.right (by assumption)))))
  k_with "pick" => (with_reducible first | assumption | exact And.left ‹_› | exact And.left (And.right ‹_›) | exact And.left (And.right (And.right ‹_›)) | exact And.left (And.right (And.right (And.right ‹_›))) | exact And.left (And.right (And.right (And.right (And.right ‹_›)))) | exact And.left (And.right (And.right (And.right (And.right (And.right ‹_›))))) | exact And.left (And.right (And.right (And.right (And.right (And.right (And.right ‹_›)))))) | exact And.left (And.right (And.right (And.right (And.right (And.right (And.right (And.right ‹_›))))))) | exact And.left (And.right (And.right (And.right (And.right (And.right (And.right (And.right (And.right ‹_›)))))))) | exact And.left (And.right (And.right (And.right (And.right (And.right (And.right (And.right (And.right (And.right ‹_›))))))))) | exact And.left (And.right (And.right (And.right (And.right (And.right (And.right (And.right (And.right (And.right (And.right ‹_›)))))))))) | exact (And.right ‹_›) | exact (And.right (And.right ‹_›)) | exact (And.right (And.right (And.right ‹_›))) | exact (And.right (And.right (And.right (And.right ‹_›)))) | exact (And.right (And.right (And.right (And.right (And.right ‹_›))))) | exact (And.right (And.right (And.right (And.right (And.right (And.right ‹_›)))))) | exact (And.right (And.right (And.right (And.right (And.right (And.right (And.right ‹_›))))))) | exact (And.right (And.right (And.right (And.right (And.right (And.right (And.right (And.right ‹_›)))))))) | exact (And.right (And.right (And.right (And.right (And.right (And.right (And.right (And.right (And.right ‹_›))))))))) | exact (And.right (And.right (And.right (And.right (And.right (And.right (And.right (And.right (And.right (And.right ‹_›)))))))))))
  k_with "k_room" => (((simp only [depth_under_make, depth_under_kw, depth_in1, depth_deeper, depth_caller]); omega))
  k_with "k_all" => (assumption)
  k_with "eval Name" => (k_here; dsimp only)
  k_with "eval Call" => (k_here; dsimp only)
  k_with "eval Constant int" => (k_here; dsimp only)
  k_with "eval Attribute Name" => (k_here; dsimp only)
  k_with "eval BinOp" => (k_here; dsimp only)
  k_with "storeName" => (k_here; dsimp only)
  k_with "setAttr ref" => (k_here; dsimp only)
  k_with "eval Compare" => (k_here; dsimp only)
  k_with "isTrue Compare" => (k_here; dsimp only)
  k_with "eval Subscript" => (k_here; dsimp only)
  k_with "execs cons" => (k_here; first | (with_reducible rename News _ _ _ _ => nZ9; dsimp only at nZ9) | dsimp only | ((with_reducible show wpAny _ _ _ _ _ (Shared.mk _ _ _ (HAdd.hAdd _ _) _)); refine gen_toks ?_; intro _))
  k_with "eval Name" => (k_here; (fail_if_success (with_reducible show wpAny _ _ (eval _ (compEnvC _ _ _ _)) _ _ _)); (try dsimp only); k_dflt (first | (refine' nameX_L ?q9F ?q9v ?_ ?q9a ?q9b; (case q9F => k_asm); (case q9a => rfl); (case q9b => rfl); (case q9v => rfl); k_whole) | (refine' nameX_K ?q9F ?q9X ?q9T ?q9e ?_ ?q9a ?q9b; (case q9F => k_asm); (case q9X => k_asm); (case q9T => k_asm); (case q9a => rfl); (case q9b => rfl); (case q9e => k_is); k_whole) | (refine' nameX_B ?q9F ?q9X ?q9T ?q9e ?q9v ?q9n ?_ ?q9a ?q9b; (case q9F => k_asm); (case q9X => k_asm); (case q9T => k_asm); (case q9a => rfl); (case q9b => rfl); (case q9e => k_is); (case q9v => boot_fast); (case q9n => decide); k_whole)))
  k_with "execs cons" => (k_here; (try (with_reducible rename News _ _ _ _ => nZ9; dsimp only at nZ9)); (try dsimp only); (try ((with_reducible show wpAny _ _ _ _ _ (Shared.mk _ _ _ (HAdd.hAdd _ _) _)); refine gen_toks ?_; intro _)); (with_reducible refine wpAny_execs_cons ?_); (try dsimp only))
  k_with "eval Constant int" => (k_here; (try dsimp only); refine wpAny_Constant_int ?_)
  k_with "spliced" => (k_here; (fail_if_success (with_reducible show wpAny _ _ (spliced (backTo _ (starEach (PySem.Expr.Starred _ _ :: _) _))) _ _ _)); k_dflt (first | refine args_cons ?_ | (refine args_nil ?_; try simp only [List.cons_append, List.nil_append])))
  k_with "subscriptTail" => (k_here; (with_reducible show wpAny _ _ (subscriptTail _ _ (Value.ref _) (Value.int _ _)) _ _ _); k_dflt (refine' item_tupleT ?q9t ?q9a ?q9b ?q9c ?q9d ?_; (case q9t => exact News.isTup (by k_asm) (by k_mem)); (case q9a => decide); (case q9b => decide); (case q9c => rfl); (case q9d => rfl); k_whole))
  k_with "storeName" => (k_here; (fail_if_success (with_reducible show wpAny _ _ (storeName _ _ (compEnvC _ _ _ _)) _ _ _)); (try dsimp only); k_dflt (refine' storeX_L ?q9F ?q9N ?_ ?q9a ?q9b; (case q9F => k_asm); (case q9N => k_asm); (case q9a => rfl); (case q9b => rfl); k_whole; intro z9h z9F z9N; (try k_sweep)))
  k_with "callWith ref" => (k_here; k_dflt (first | (refine' callWith_K ?q9a ?q9b ?_; (case q9a => k_asm); (case q9b => k_is); k_whole) | (refine' callWith_K0 ?q9a ?q9b ?_; (case q9a => k_in); (case q9b => k_is); k_whole) | (refine' callWith_M0 ?q9a ?q9b ?_; (case q9a => k_meth); (case q9b => k_is); k_whole; try dsimp only [List.nil_append, List.cons_append]) | (refine' callWith_M ?q9a ?q9b ?q9c ?q9d ?_; (case q9a => k_asm); (case q9b => k_asm); (case q9c => k_mem); (case q9d => k_is); k_whole)))
  k_with "truthy bool" => (with_reducible refine wpAny_truthy_bool ?_)
  k_with "k_mem" => first | with_reducible assumption | assumption
  k_with "subscriptTail" => (k_here; (with_reducible show wpAny _ _ (subscriptTail _ _ (Value.ref _) (Value.int _ _)) _ _ _); (with_unfolding_all refine' item_litK ?q9k1 ?q9k2 ?q9k3 ?q9k4 ?_ ?q9k6; (case q9k1 => exact News.isList (by k_asm) (by k_mem)); (case q9k2 => decide); (case q9k3 => decide); (case q9k4 => rfl); (case q9k6 => with_unfolding_all rfl); k_whole))
  k_with "callWith" => ((with_reducible show wpAny _ _ (callWith _ (Value.builtin _) (_ :: _) (backTo _ (starEach (_ :: _) _)) []) _ _ _); k_dflt (refine callWith_method1 ?_))
  trivial
section
variable {prog : Program} {w : World} {p : Program} {loose : List Str} {mean : ExcName → Option Value} {mg mb : Str → Option Value}
 {dp un : Nat} {gd : Option (List Code)} {cn : Str} {cs : Scope} {a : Addr} {ccd : Value} {cl : List (Str × Addr)} {outer : List Env} {A₀ : Around} {base h₀ : Heap} {L : Addr} {m : Str → Option Value} {s : Shared} {Q E : Value → Shared → Prop}
theorem rg47 : True := by
  k_with "k_mem" => first | with_reducible assumption | ((repeat (first | exact List.Mem.head _ | with_reducible assumption | exact List.mem_append_left _ (by assumption) | refine List.Mem.tail _ ?_ | refine List.mem_append_right _ ?_ | assumption | exact m_tr (by assumption) (by assumption) | exact m_tr (by assumption) (m_tr (by assumption) (by assumption)))); done)
  k_with "setItem" => (k_here; (with_reducible show wpAny _ _ (setItem (Value.ref _) (Value.bytes _ _) _) _ _ _); k_dflt (refine' kda_set (knd := bytesKind _ _) ?q9F ?q9N ?q9U ?q9d (bk_is _ _ _ _) ?q9z ?_; (case q9F => k_asm); (case q9N => k_asm); (case q9U => k_updF); (case q9d => first | assumption | exact bk_empty (by assumption)); (case q9z => rw [sizeLine_eq]; exact Nat.le_of_ble_eq_true (by with_unfolding_all rfl))); intro _ _ _ z9N' _; (try dsimp only at z9N'))
  k_with "subscriptTail" => (k_here; (with_reducible show wpAny _ _ (subscriptTail _ _ (Value.ref _) (Value.bytes _ _)) _ _ _); k_dflt (refine kda_item (knd := bytesKind _ _) (by k_asm) (by k_mem) (by assumption) (bk_is _ _ _ _) (by with_unfolding_all rfl) ?_))
  k_with "compareOp In bytes ref" => (k_here; (with_reducible show wpAny _ _ (compareOp CmpOp.In (Value.bytes _ _) (Value.ref _)) _ _ _); k_dflt (first | refine kda_in (knd := bytesKind _ _) (by k_asm) (by k_mem) (by assumption) (by assumption) (bk_is _ _ _ _) true (by with_unfolding_all rfl) ?_ | refine kda_in (knd := bytesKind _ _) (by k_asm) (by k_mem) (by assumption) (by assumption) (bk_is _ _ _ _) false (by with_unfolding_all rfl) ?_))
  k_with "compareOp NotIn bytes ref" => (k_here; (with_reducible show wpAny _ _ (compareOp CmpOp.NotIn (Value.bytes _ _) (Value.ref _)) _ _ _); k_dflt (first | refine kdg_notin (knd := bytesKind _ _) (by k_asm) (by k_mem) (by assumption) (by assumption) (bk_is _ _ _ _) true (by with_unfolding_all rfl) ?_ | refine kdg_notin (knd := bytesKind _ _) (by k_asm) (by k_mem) (by assumption) (by assumption) (bk_is _ _ _ _) false (by with_unfolding_all rfl) ?_))
  k_with "eval Dict" => (k_here; k_dflt (refine' kdn_eval (knd := bytesKind _ _) ?q9F ?q9N ?q9b ?q9a ?q9l ?q9e ?q9n ?_; (case q9F => k_asm); (case q9N => first | k_asm | exact News.nil); (case q9b => exact Top.nolimit (by k_asm)); (case q9a => rfl); (case q9l => rfl); (case q9e => exact List.cons_ne_nil _ _); (case q9n => exact Nat.le_of_ble_eq_true rfl)); intro _ _ _ _ _ z9l1 _ _; (try k_lt z9l1))
  k_with "KdnMade" => (k_here; (try dsimp only); k_dflt (refine' kdn_made_b (bkKv _) ?q9zF ?q9zN ?q9zU ?q9zd (carries_b _ ?q9zk) ?q9zn ?_; (case q9zF => k_asm); (case q9zN => k_asm); (case q9zU => k_updF); (case q9zd => k_asm); (case q9zk => exact rfl); (case q9zn => exact of_decide_eq_true (by first | rfl | kernel_rfl!))); intro _ _ _ z9N' z9hd'; (try dsimp only at z9N'); (try simp only [bkKv, List.map_cons, List.map_nil] at z9hd'))
  k_with "compareOp In bytes ref" => (k_here; (with_reducible show wpAny _ _ (compareOp CmpOp.In (Value.bytes _ _) (Value.ref _)) _ _ _); k_dflt (refine' in_bt ?q9zl ?q9za ?q9zz ?_; (case q9zl => first | exact tl_tup (News.isTup (by k_asm) (by k_mem)) rfl | exact tl_tup ⟨_, (Frag.In.keeps (by k_asm) (Fr.keep (by k_asm))) _ _ rfl, rfl, _, rfl⟩ rfl); (case q9za => exact rfl); (case q9zz => first | exact (rfl : _ = true) | exact (rfl : _ = false))))
  k_with "compareOp NotIn bytes ref" => (k_here; (with_reducible show wpAny _ _ (compareOp CmpOp.NotIn (Value.bytes _ _) (Value.ref _)) _ _ _); k_dflt (refine' notin_bt ?q9zl ?q9za ?q9zz ?_; (case q9zl => first | exact tl_tup (News.isTup (by k_asm) (by k_mem)) rfl | exact tl_tup ⟨_, (Frag.In.keeps (by k_asm) (Fr.keep (by k_asm))) _ _ rfl, rfl, _, rfl⟩ rfl); (case q9za => exact rfl); (case q9zz => first | exact (rfl : _ = true) | exact (rfl : _ = false))))
  k_with "getMethod ref" => (k_here; (with_reducible show wpAny _ _ (getMethod (Value.ref _) (PySem.Str.ofString "index") _) _ _ _); k_dflt (refine' bm_tupidx ?q9zN ?q9zm ?_; (case q9zN => k_asm); (case q9zm => k_mem)))
  k_with "call builtin:tuple.index" => (k_here; k_dflt (refine' idx_bt ?q9zl ?q9za ?q9zz ?_; (case q9zl => exact tl_tup (News.isTup (by k_asm) (by k_mem)) rfl); (case q9za => exact rfl); (case q9zz => exact rfl)); intro _)
  k_with "getMethod bytes" => (k_here; (with_reducible first | refine bm_find ?_ | refine bm_replace ?_ | refine bm_splitM ?_ | refine bm_starts ?_ | refine bm_joinM ?_))
  k_with "call builtin:bytes.find" => (k_here; with_reducible (first | refine bc_find (gives_find_blue _ _) ?_ | refine bc_find (gives_find_def _ _) ?_))
  k_with "call builtin:bytes.replace" => (k_here; with_reducible (first | refine bc_replace (gives_replace_blue _ _ _) ?_ | refine bc_replace (gives_replace_def _ _ _) ?_))
  k_with "call builtin:bytes.startswith" => (k_here; with_reducible (refine bc_starts (gives_starts_def _ _) ?_))
  k_with "call builtin:bytes.split" => (k_here; k_dflt (refine' bm_split ?q9zF ?q9zN ?q9ze ?_; (case q9zF => k_asm); (case q9zN => k_asm); (case q9ze => decide +kernel)); intro _ _ _ _ z9l1; (try k_lt z9l1); (try k_sweep))
  k_with "UnrEndW" => k_dflt (first | (refine' unrWk [] ?q9zF ?q9zN ?q9zp ?q9za ⟨?q9zk, ?_⟩; (case q9zF => assumption); (case q9zN => assumption); (case q9zp => (repeat (first | exact off_nil | (refine' off_cons ?q9zz ?_; (case q9zz => k_ne))))); (case q9za => (repeat (first | exact off_lt (by assumption) | (refine' off_cons ?q9zz ?_; (case q9zz => k_ne))))); (case q9zk => first | trivial | exact ⟨(by k_mem), trivial⟩); (try simp only [List.cons_append, List.nil_append])) | (refine' unrWk [_] ?q9zF ?q9zN ?q9zp ?q9za ⟨?q9zk, ?_⟩; (case q9zF => assumption); (case q9zN => assumption); (case q9zp => (repeat (first | exact off_nil | (refine' off_cons ?q9zz ?_; (case q9zz => k_ne))))); (case q9za => (repeat (first | exact off_lt (by assumption) | (refine' off_cons ?q9zz ?_; (case q9zz => k_ne))))); (case q9zk => first | trivial | exact ⟨(by k_mem), trivial⟩); (try simp only [List.cons_append, List.nil_append])) | (refine' unrWk [_, _] ?q9zF ?q9zN ?q9zp ?q9za ⟨?q9zk, ?_⟩; (case q9zF => assumption); (case q9zN => assumption); (case q9zp => (repeat (first | exact off_nil | (refine' off_cons ?q9zz ?_; (case q9zz => k_ne))))); (case q9za => (repeat (first | exact off_lt (by assumption) | (refine' off_cons ?q9zz ?_; (case q9zz => k_ne))))); (case q9zk => first | trivial | exact ⟨(by k_mem), trivial⟩); (try simp only [List.cons_append, List.nil_append])) | (refine' unrWk [_, _, _] ?q9zF ?q9zN ?q9zp ?q9za ⟨?q9zk, ?_⟩; (case q9zF => assumption); (case q9zN => assumption); (case q9zp => (repeat (first | exact off_nil | (refine' off_cons ?q9zz ?_; (case q9zz => k_ne))))); (case q9za => (repeat (first | exact off_lt (by assumption) | (refine' off_cons ?q9zz ?_; (case q9zz => k_ne))))); (case q9zk => first | trivial | exact ⟨(by k_mem), trivial⟩); (try simp only [List.cons_append, List.nil_append])) | (refine' unrWk [_, _, _, _] ?q9zF ?q9zN ?q9zp ?q9za ⟨?q9zk, ?_⟩; (case q9zF => assumption); (case q9zN => assumption); (case q9zp => (repeat (first | exact off_nil | (refine' off_cons ?q9zz ?_; (case q9zz => k_ne))))); (case q9za => (repeat (first | exact off_lt (by assumption) | (refine' off_cons ?q9zz ?_; (case q9zz => k_ne))))); (case q9zk => first | trivial | exact ⟨(by k_mem), trivial⟩); (try simp only [List.cons_append, List.nil_append])) | (refine' unrWk [_, _, _, _, _] ?q9zF ?q9zN ?q9zp ?q9za ⟨?q9zk, ?_⟩; (case q9zF => assumption); (case q9zN => assumption); (case q9zp => (repeat (first | exact off_nil | (refine' off_cons ?q9zz ?_; (case q9zz => k_ne))))); (case q9za => (repeat (first | exact off_lt (by assumption) | (refine' off_cons ?q9zz ?_; (case q9zz => k_ne))))); (case q9zk => first | trivial | exact ⟨(by k_mem), trivial⟩); (try simp only [List.cons_append, List.nil_append])) | (refine' unrWk [_, _, _, _, _, _] ?q9zF ?q9zN ?q9zp ?q9za ⟨?q9zk, ?_⟩; (case q9zF => assumption); (case q9zN => assumption); (case q9zp => (repeat (first | exact off_nil | (refine' off_cons ?q9zz ?_; (case q9zz => k_ne))))); (case q9za => (repeat (first | exact off_lt (by assumption) | (refine' off_cons ?q9zz ?_; (case q9zz => k_ne))))); (case q9zk => first | trivial | exact ⟨(by k_mem), trivial⟩); (try simp only [List.cons_append, List.nil_append])) | (refine' unrWk [_, _, _, _, _, _, _] ?q9zF ?q9zN ?q9zp ?q9za ⟨?q9zk, ?_⟩; (case q9zF => assumption); (case q9zN => assumption); (case q9zp => (repeat (first | exact off_nil | (refine' off_cons ?q9zz ?_; (case q9zz => k_ne))))); (case q9za => (repeat (first | exact off_lt (by assumption) | (refine' off_cons ?q9zz ?_; (case q9zz => k_ne))))); (case q9zk => first | trivial | exact ⟨(by k_mem), trivial⟩); (try simp only [List.cons_append, List.nil_append])))
  k_with "exec For" => (k_here; (rename Fr _ _ _ _ => z9lF'); (with_unfolding_all refine' For_turns z9lF' ?_; k_whole))
  k_with "exec For Name Call cons nil" => (k_here; (rename Fr _ _ _ _ => z9lF'); (with_unfolding_all refine' For_turns z9lF' ?_; k_whole))
  k_with "exec For Tuple Name cons nil" => (k_here; (rename Fr _ _ _ _ => z9lF'); (with_unfolding_all refine' For_turns z9lF' ?_; k_whole))
  k_with "pyIter ref" => (k_here; (with_reducible show wpAny _ _ (pyIter (Value.ref _)) (fun it s₂ => TurnsAt _ _ _ _ _ _ _ _ _ it s₂) _ _); (rename Fr _ _ _ _ => z9lF'); (rename News _ _ _ _ => z9lN'); (with_unfolding_all refine' iter_listTurns (vs := [_]) ?q9zh z9lF' z9lN' ?q9zm ?q9zc ?q9zd ?_; (case q9zh => rfl); (case q9zm => k_mem); (case q9zc => rfl); (case q9zd => rfl)); clear z9lF' z9lN'; intro _ z9l1; (try k_lt z9l1))
  k_with "subscriptTail Name Slice ref ref" => (k_here; (with_reducible show wpAny _ _ (subscriptTail _ (PySem.Expr.Slice none _ none _) (Value.ref _) (Value.ref _)) _ _ _); k_dflt (refine' slice_tup_upto 2 ?q9zF ?q9zN ?q9zl ?q9zi ?q9zb ?q9zz ?q9zm ?_ ?q9zs ?q9zt; (case q9zF => k_asm); (case q9zN => k_asm); (case q9zl => first | exact News.isTup (by k_asm) (by k_mem) | exact ⟨_, (Frag.In.keeps (by k_asm) (Fr.keep (by k_asm))) _ _ rfl, rfl, _, rfl⟩); (case q9zi => exact rfl); (case q9zb => decide); (case q9zz => exact rfl); (case q9zm => decide); (case q9zs => with_unfolding_all rfl); (case q9zt => kmk_pure)); intro _ _ _ _ z9l1; (try k_lt z9l1); (try k_sweep))
  k_with "subscriptTail Name Slice ref ref" => (k_here; (with_reducible show wpAny _ _ (subscriptTail _ (PySem.Expr.Slice (some _) none none _) (Value.ref _) (Value.ref _)) _ _ _); k_dflt (refine' slice_tup_from 3 ?q9zF ?q9zN ?q9zl ?q9zi ?q9za ?q9zb ?q9zz ?q9zm ?_ ?q9zs ?q9zt; (case q9zF => k_asm); (case q9zN => k_asm); (case q9zl => first | exact News.isTup (by k_asm) (by k_mem) | exact ⟨_, (Frag.In.keeps (by k_asm) (Fr.keep (by k_asm))) _ _ rfl, rfl, _, rfl⟩); (case q9zi => exact rfl); (case q9za => decide); (case q9zb => decide); (case q9zz => exact rfl); (case q9zm => decide); (case q9zs => with_unfolding_all rfl); (case q9zt => kmk_pure)); intro _ _ _ _ z9l1; (try k_lt z9l1); (try k_sweep))
  k_with "exec While Compare cons nil" => (k_here; k_dflt (refine whl_start 100 ?_))
  trivial
inductive OptV (prog : Program) (w : World) (led : Led) (x : Addr) (sb : Array UInt8) : Prop
  | mk (d dt : Addr) (o : Obj) (dv : Addr) (ov : Obj) (k kd : Addr) (h1 h2 h3 h4 : Int) (k1 k2 k3 k4 n : Nat) (g1 g2 g3 g4 : Int) (j1 j2 j3 j4 n' t1 t2 t3 t4 : Nat) (bv : Value) (p1 : (x, instObj 228 d) ∈ led)
  (p2 : (d, dictOf [⟨h1, .str (Str.ofString "table") k1, .ref dt⟩, ⟨h2, .str (Str.ofString "scope") k2, .str (Str.ofString "session") t1⟩, ⟨h3, .str (Str.ofString "parent") k3, .none⟩, ⟨h4, .str (Str.ofString "values") k4, .ref dv⟩] n) ∈ led)
  (p3 : (dt, o) ∈ led) (p4 : (dt == sysModules) = false) (p5 : Obj.IsDictOf (bytesKind prog w) o [([109, 101, 115, 115, 97, 103, 101, 45, 115, 116, 121, 108, 101], .ref k)])
  (p6 : (k, instObj 151 kd) ∈ led)
  (p7 : (kd, dictOf [⟨g1, .str (Str.ofString "kind") j1, .str (Str.ofString "style") t2⟩, ⟨g2, .str (Str.ofString "scope") j2, .str (Str.ofString "session") t4⟩, ⟨g3, .str (Str.ofString "first") j3, .bytes sb t3⟩, ⟨g4, .str (Str.ofString "bounds") j4, bv⟩] n') ∈ led)
  (p8 : (dv, ov) ∈ led) (p9 : (dv == sysModules) = false) (p10 : Obj.IsDictOf (bytesKind prog w) ov []) : OptV prog w led x sb
theorem opt_get_ok {news : Led} {x : Addr} {t0 : Tok} {sb : Array UInt8} (B : Below A₀ base outer h₀) (F : Fr h₀ L s.heap m) (X : (Mine.frag.heap_1 w.params).In h₀) (N : News h₀ L s.heap news) (T : Top p loose mean mg mb h₀) (hk : cs.kind = .function)
   (hd : dp + 8 < recursionLimit) (hu : un + 150 < cLine) (hO : OptV prog w news x sb)
   (hret : ∀ t h' tk', Fr h₀ L h' m → News h₀ L h' news → Q (.bytes sb t) { s with heap := h', toks := tk' }) :
   wpAny (model prog w) (ktrTop dp un gd cn cs L a ccd cl outer) (call (.ref 210) [.ref x, .bytes #[109, 101, 115, 115, 97, 103, 101, 45, 115, 116, 121, 108, 101] t0]) Q E s := by
  obtain ⟨d, dt, o, dv, ov, k, kd, h1, h2, h3, h4, k1, k2, k3, k4, n, g1, g2, g3, g4, j1, j2, j3, j4, n', t1, t2, t3, t4, bv, m1, m2, m3, lo3, hD3, m4, m5, m6, lo6, hD6⟩ := hO
  refine wpAny_call ?_
  k_dflt ktr_enter
  k_steps
  rename News h₀ _ _ _ => kN
  exact hret _ _ _ (by assumption) (news_tl kN)
theorem rg48 : True := by
  k_with "call ref" => ((with_reducible show wpAny _ _ (call (Value.ref 210) _) _ _ _); k_dflt (refine' opt_get_ok ?q9zB ?q9zF ?q9zX ?q9zN ?q9zT ?q9zk ?q9zd ?q9zu ?q9zo ?_); ((case q9zB => k_asm); (case q9zF => k_asm); (case q9zX => k_asm); (case q9zN => k_asm); (case q9zT => k_asm); (case q9zk => k_dflt (exact rfl)); (case q9zo => k_dflt (assumption)); (case q9zd => first | (first | exact rm2 (by assumption) (Nat.le_of_ble_eq_true rfl) | exact rm1 (by assumption) (Nat.le_of_ble_eq_true rfl) | (first | exact rm2 (by assumption) (Nat.le_of_ble_eq_true rfl) | exact rm1 (by assumption) (Nat.le_of_ble_eq_true rfl) | (show _ + _ < _; simp only [depth_deeper]; omega))) | decide +kernel); (case q9zu => first | (first | exact rm2 (by assumption) (Nat.le_of_ble_eq_true rfl) | exact rm1 (by assumption) (Nat.le_of_ble_eq_true rfl) | (first | exact rm2 (by assumption) (Nat.le_of_ble_eq_true rfl) | exact rm1 (by assumption) (Nat.le_of_ble_eq_true rfl) | (show _ + _ < _; simp only [units_deeper]; omega))) | decide +kernel)); intro _ _ _ _ _)
  k_with "call ref" => ((with_reducible show wpAny _ _ (call (Value.ref 300) _) _ _ _); k_dflt (refine' style_parts_blue ?q9zB ?q9zF ?q9zX ?q9zN ?q9zT ?q9zk ?q9zd ?q9zu  ?_); ((case q9zB => k_asm); (case q9zF => k_asm); (case q9zX => k_asm); (case q9zN => k_asm); (case q9zT => k_asm); (case q9zk => k_dflt (exact rfl));  (case q9zd => first | (first | exact rm2 (by assumption) (Nat.le_of_ble_eq_true rfl) | exact rm1 (by assumption) (Nat.le_of_ble_eq_true rfl) | (first | exact rm2 (by assumption) (Nat.le_of_ble_eq_true rfl) | exact rm1 (by assumption) (Nat.le_of_ble_eq_true rfl) | (show _ + _ < _; simp only [depth_deeper]; omega))) | decide +kernel); (case q9zu => first | (first | exact rm2 (by assumption) (Nat.le_of_ble_eq_true rfl) | exact rm1 (by assumption) (Nat.le_of_ble_eq_true rfl) | (first | exact rm2 (by assumption) (Nat.le_of_ble_eq_true rfl) | exact rm1 (by assumption) (Nat.le_of_ble_eq_true rfl) | (show _ + _ < _; simp only [units_deeper]; omega))) | decide +kernel)); intro _ _ _ _ _ _ _ _ _ _ _ _ _ _ _ z9hb'; subst z9hb')
  trivial
theorem styled_pen_blue {news : Led} {x : Addr} {t0 : Tok} (B : Below A₀ base outer h₀) (F : Fr h₀ L s.heap m) (X : (Mine.frag.heap_1 w.params).In h₀) (N : News h₀ L s.heap news) (T : Top p loose mean mg mb h₀) (hk : cs.kind = .function)
   (hd : dp + 12 < recursionLimit) (hu : un + 180 < cLine) (hO : OptV prog w news x #[98, 103, 61, 98, 108, 117, 101])
   (hret : ∀ v news' h' tk', Fr h₀ L h' m → News h₀ L h' news' → (∀ q ∈ news, q ∈ news') → PenV news' v 4 → Q v { s with heap := h', toks := tk' }) :
   wpAny (model prog w) (ktrTop dp un gd cn cs L a ccd cl outer) (call (.ref 471) [.ref x, .bytes #[109, 101, 115, 115, 97, 103, 101, 45, 115, 116, 121, 108, 101] t0, .ref 22]) Q E s := by
  obtain ⟨d, dt, o, dv, ov, k, kd, h1, h2, h3, h4, k1, k2, k3, k4, n, g1, g2, g3, g4, j1, j2, j3, j4, n', t1, t2, t3, t4, bv, m1, m2, m3, lo3, hD3, m4, m5, m6, lo6, hD6⟩ := id hO
  refine wpAny_call ?_
  k_dflt ktr_enter
  k_steps
  rename News h₀ _ _ _ => kN
  rename ∀ q ∈ news, q ∈ _ => hs1
  exact hret _ _ _ _ (by assumption) kN (fun q hq => by simp only [List.mem_cons, hs1 q hq, or_true]) (.inr ⟨_, _, _, _, _, _, _, rfl, .head _⟩)
theorem rg49 : True := by
  k_with "call ref" => ((with_reducible show wpAny _ _ (call (Value.ref 300) _) _ _ _); k_dflt (refine' style_parts_def ?q9zB ?q9zF ?q9zX ?q9zN ?q9zT ?q9zk ?q9zd ?q9zu  ?_); ((case q9zB => k_asm); (case q9zF => k_asm); (case q9zX => k_asm); (case q9zN => k_asm); (case q9zT => k_asm); (case q9zk => k_dflt (exact rfl));  (case q9zd => first | (first | exact rm2 (by assumption) (Nat.le_of_ble_eq_true rfl) | exact rm1 (by assumption) (Nat.le_of_ble_eq_true rfl) | (first | exact rm2 (by assumption) (Nat.le_of_ble_eq_true rfl) | exact rm1 (by assumption) (Nat.le_of_ble_eq_true rfl) | (show _ + _ < _; simp only [depth_deeper]; omega))) | decide +kernel); (case q9zu => first | (first | exact rm2 (by assumption) (Nat.le_of_ble_eq_true rfl) | exact rm1 (by assumption) (Nat.le_of_ble_eq_true rfl) | (first | exact rm2 (by assumption) (Nat.le_of_ble_eq_true rfl) | exact rm1 (by assumption) (Nat.le_of_ble_eq_true rfl) | (show _ + _ < _; simp only [units_deeper]; omega))) | decide +kernel)); intro _ _ _ _ _ _ _ _ _ _ _ _ _ _ z9hb'; subst z9hb')
  trivial
theorem styled_pen_def {news : Led} {x : Addr} {t0 : Tok} (B : Below A₀ base outer h₀) (F : Fr h₀ L s.heap m) (X : (Mine.frag.heap_1 w.params).In h₀) (N : News h₀ L s.heap news) (T : Top p loose mean mg mb h₀) (hk : cs.kind = .function)
   (hd : dp + 12 < recursionLimit) (hu : un + 180 < cLine) (hO : OptV prog w news x #[100, 101, 102, 97, 117, 108, 116])
   (hret : ∀ v news' h' tk', Fr h₀ L h' m → News h₀ L h' news' → (∀ q ∈ news, q ∈ news') → PenV news' v (-1) → Q v { s with heap := h', toks := tk' }) :
   wpAny (model prog w) (ktrTop dp un gd cn cs L a ccd cl outer) (call (.ref 471) [.ref x, .bytes #[109, 101, 115, 115, 97, 103, 101, 45, 115, 116, 121, 108, 101] t0, .ref 22]) Q E s := by
  obtain ⟨d, dt, o, dv, ov, k, kd, h1, h2, h3, h4, k1, k2, k3, k4, n, g1, g2, g3, g4, j1, j2, j3, j4, n', t1, t2, t3, t4, bv, m1, m2, m3, lo3, hD3, m4, m5, m6, lo6, hD6⟩ := id hO
  refine wpAny_call ?_
  k_dflt ktr_enter
  k_steps
  rename News h₀ _ _ _ => kN
  rename ∀ q ∈ news, q ∈ _ => hs1
  exact hret _ _ _ _ (by assumption) kN (fun q hq => by simp only [List.mem_cons, hs1 q hq, or_true]) (.inl ⟨rfl, rfl⟩)

end
end
section
theorem rg50 : True := by
  k_with_none
  k_with "omega" => (first | decide | (with_reducible first | exact Int.natCast_nonneg _ | exact rm1 ‹_› (by decide) | exact rm2 ‹_› (by decide) | exact rm3 ‹_› (by decide) | exact om_le ‹_› (by decide) | exact om_63 ‹_› (by decide) | exact om_eqle ‹_› ‹_› (by decide) | exact om_eq63 ‹_› ‹_› (by decide) | exact om_add ‹_› (by decide) | exact om_ne ‹_› (by decide) | exact om_le2 ‹_› ‹_› (by decide) | exact om_le2s ‹_› ‹_› (by decide) | exact om_le2_63 ‹_› ‹_› (by decide) | exact om_le2s_63 ‹_› ‹_› (by decide) | exact om_z62 ‹_› (by decide) | exact om_zn62 | exact om_kle ‹_› (by decide) | exact om_neg1 | exact om_pos | exact om_at ‹_› (by decide) | exact om_at0 ‹_› | exact om_add63 ‹_› (by decide) | exact Nat.ne_of_gt (by k_extra "pick") | exact Nat.ne_of_lt (by k_extra "pick")) | lia)
  k_with "ktr_room" => (first | exact rm0 (by assumption) | exact rm1 (by assumption) (Nat.le_of_ble_eq_true rfl))
  k_with "k_ne" => ((refine neN ?_; (try dsimp only); first | exact Nat.ne_of_gt (by assumption) | exact Nat.ne_of_lt (by assumption) | exact Nat.ne_of_gt (And.left (by assumption)) | exact Nat.ne_of_lt (And.left (by assumption)) | exact Nat.ne_of_gt (And.left (And.right (by assumption))) | exact Nat.ne_of_lt (And.left (And.right (by assumption))) | exact Nat.ne_of_gt (And.right (by assumption)) | exact Nat.ne_of_lt (And.right (by assumption)) | exact Nat.ne_of_gt (And.left (And.right (And.right (by assumption)))) | exact Nat.ne_of_lt (And.left (And.right (And.right (by assumption)))) | exact Nat.ne_of_gt (And.right (And.right (by assumption))) | exact Nat.ne_of_lt (And.right (And.right (by assumption)))))
  k_with "pick" => (with_reducible first | assumption | exact And.left ‹_› | exact And.left (And.right ‹_›) | exact And.left (And.right (And.right ‹_›)) | exact And.left (And.right (And.right (And.right ‹_›))) | exact And.left (And.right (And.right (And.right (And.right ‹_›)))) | exact And.left (And.right (And.right (And.right (And.right (And.right ‹_›))))) | exact And.left (And.right (And.right (And.right (And.right (And.right (And.right ‹_›)))))) | exact And.left (And.right (And.right (And.right (And.right (And.right (And.right (And.right ‹_›))))))) | exact And.left (And.right (And.right (And.right (And.right (And.right (And.right (And.right (And.right ‹_›)))))))) | exact And.left (And.right (And.right (And.right (And.right (And.right (And.right (And.right (And.right (And.right ‹_›))))))))) | exact And.left (And.right (And.right (And.right (And.right (And.right (And.right (And.right (And.right (And.right (And.right ‹_›)))))))))) | exact (And.right ‹_›) | exact (And.right (And.right ‹_›)) | exact (And.right (And.right (And.right ‹_›))) | exact (And.right (And.right (And.right (And.right ‹_›)))) | exact (And.right (And.right (And.right (And.right (And.right ‹_›))))) | exact (And.right (And.right (And.right (And.right (And.right (And.right ‹_›)))))) | exact (And.right (And.right (And.right (And.right (And.right (And.right (And.right ‹_›))))))) | exact (And.right (And.right (And.right (And.right (And.right (And.right (And.right (And.right ‹_›)))))))) | exact (And.right (And.right (And.right (And.right (And.right (And.right (And.right (And.right (And.right ‹_›))))))))) | exact (And.right (And.right (And.right (And.right (And.right (And.right (And.right (And.right (And.right (And.right ‹_›)))))))))))
  k_with "k_room" => (((simp only [depth_under_make, depth_under_kw, depth_in1, depth_deeper, depth_caller]); omega))
  k_with "k_all" => (assumption)
  k_with "eval Name" => (k_here; dsimp only)
  k_with "eval Call" => (k_here; dsimp only)
  k_with "eval Constant int" => (k_here; dsimp only)
  k_with "eval Attribute Name" => (k_here; dsimp only)
  k_with "eval BinOp" => (k_here; dsimp only)
  k_with "storeName" => (k_here; dsimp only)
  k_with "setAttr ref" => (k_here; dsimp only)
  k_with "eval Compare" => (k_here; dsimp only)
  k_with "isTrue Compare" => (k_here; dsimp only)
  k_with "eval Subscript" => (k_here; dsimp only)
  k_with "execs cons" => (k_here; first | (with_reducible rename News _ _ _ _ => nZ9; dsimp only at nZ9) | dsimp only | ((with_reducible show wpAny _ _ _ _ _ (Shared.mk _ _ _ (HAdd.hAdd _ _) _)); refine gen_toks ?_; intro _))
  k_with "eval Name" => (k_here; (fail_if_success (with_reducible show wpAny _ _ (eval _ (compEnvC _ _ _ _)) _ _ _)); (try dsimp only); k_dflt (first | (refine' nameX_L ?q9F ?q9v ?_ ?q9a ?q9b; (case q9F => k_asm); (case q9a => rfl); (case q9b => rfl); (case q9v => rfl); k_whole) | (refine' nameX_K ?q9F ?q9X ?q9T ?q9e ?_ ?q9a ?q9b; (case q9F => k_asm); (case q9X => k_asm); (case q9T => k_asm); (case q9a => rfl); (case q9b => rfl); (case q9e => k_is); k_whole) | (refine' nameX_B ?q9F ?q9X ?q9T ?q9e ?q9v ?q9n ?_ ?q9a ?q9b; (case q9F => k_asm); (case q9X => k_asm); (case q9T => k_asm); (case q9a => rfl); (case q9b => rfl); (case q9e => k_is); (case q9v => boot_fast); (case q9n => decide); k_whole)))
  k_with "execs cons" => (k_here; (try (with_reducible rename News _ _ _ _ => nZ9; dsimp only at nZ9)); (try dsimp only); (try ((with_reducible show wpAny _ _ _ _ _ (Shared.mk _ _ _ (HAdd.hAdd _ _) _)); refine gen_toks ?_; intro _)); (with_reducible refine wpAny_execs_cons ?_); (try dsimp only))
  k_with "eval Constant int" => (k_here; (try dsimp only); refine wpAny_Constant_int ?_)
  k_with "spliced" => (k_here; (fail_if_success (with_reducible show wpAny _ _ (spliced (backTo _ (starEach (PySem.Expr.Starred _ _ :: _) _))) _ _ _)); k_dflt (first | refine args_cons ?_ | (refine args_nil ?_; try simp only [List.cons_append, List.nil_append])))
  k_with "subscriptTail" => (k_here; (with_reducible show wpAny _ _ (subscriptTail _ _ (Value.ref _) (Value.int _ _)) _ _ _); k_dflt (refine' item_tupleT ?q9t ?q9a ?q9b ?q9c ?q9d ?_; (case q9t => exact News.isTup (by k_asm) (by k_mem)); (case q9a => decide); (case q9b => decide); (case q9c => rfl); (case q9d => rfl); k_whole))
  k_with "storeName" => (k_here; (fail_if_success (with_reducible show wpAny _ _ (storeName _ _ (compEnvC _ _ _ _)) _ _ _)); (try dsimp only); k_dflt (refine' storeX_L ?q9F ?q9N ?_ ?q9a ?q9b; (case q9F => k_asm); (case q9N => k_asm); (case q9a => rfl); (case q9b => rfl); k_whole; intro z9h z9F z9N; (try k_sweep)))
  k_with "callWith ref" => (k_here; k_dflt (first | (refine' callWith_K ?q9a ?q9b ?_; (case q9a => k_asm); (case q9b => k_is); k_whole) | (refine' callWith_K0 ?q9a ?q9b ?_; (case q9a => k_in); (case q9b => k_is); k_whole) | (refine' callWith_M0 ?q9a ?q9b ?_; (case q9a => k_meth); (case q9b => k_is); k_whole; try dsimp only [List.nil_append, List.cons_append]) | (refine' callWith_M ?q9a ?q9b ?q9c ?q9d ?_; (case q9a => k_asm); (case q9b => k_asm); (case q9c => k_mem); (case q9d => k_is); k_whole)))
  k_with "truthy bool" => (with_reducible refine wpAny_truthy_bool ?_)
  k_with "k_mem" => first | with_reducible assumption | assumption
  k_with "subscriptTail" => (k_here; (with_reducible show wpAny _ _ (subscriptTail _ _ (Value.ref _) (Value.int _ _)) _ _ _); (with_unfolding_all refine' item_litK ?q9k1 ?q9k2 ?q9k3 ?q9k4 ?_ ?q9k6; (case q9k1 => exact News.isList (by k_asm) (by k_mem)); (case q9k2 => decide); (case q9k3 => decide); (case q9k4 => rfl); (case q9k6 => with_unfolding_all rfl); k_whole))
  k_with "callWith" => ((with_reducible show wpAny _ _ (callWith _ (Value.builtin _) (_ :: _) (backTo _ (starEach (_ :: _) _)) []) _ _ _); k_dflt (refine callWith_method1 ?_))
  trivial
section
variable {prog : Program} {w : World} {p : Program} {loose : List Str} {mean : ExcName → Option Value} {mg mb : Str → Option Value}
 {dp un : Nat} {gd : Option (List Code)} {cn : Str} {cs : Scope} {a : Addr} {ccd : Value} {cl : List (Str × Addr)} {outer : List Env} {A₀ : Around} {base h₀ : Heap} {L : Addr} {m : Str → Option Value} {s : Shared} {Q E : Value → Shared → Prop}
theorem rg51 : True := by
  k_with "k_mem" => first | with_reducible assumption | ((repeat (first | with_reducible assumption | exact List.Mem.head _ | exact List.mem_append_left _ (by with_reducible assumption) | refine List.Mem.tail _ ?_ | refine List.mem_append_right _ ?_ | assumption | refine m_tr (by with_reducible assumption) ?_)); done)
  k_with "ite" => first | (refine ite_pos (by first | omega | (simp only [beq_iff_eq, decide_eq_true_eq]; omega)) ?_; walk_say "BY OMEGA") | (refine ite_neg (by first | omega | (simp only [beq_iff_eq, decide_eq_true_eq]; omega)) ?_; walk_say "BY OMEGA")
  trivial
noncomputable def StyleIs (sb : Array UInt8) (bg : Int) : Prop := (sb = #[98, 103, 61, 98, 108, 117, 101] ∧ bg = 4) ∨ (sb = #[100, 101, 102, 97, 117, 108, 116] ∧ bg = -1)
theorem styled_pen_ok {news : Led} {x : Addr} {t0 : Tok} {sb : Array UInt8} {bg : Int} (B : Below A₀ base outer h₀) (F : Fr h₀ L s.heap m) (X : (Mine.frag.heap_1 w.params).In h₀) (N : News h₀ L s.heap news) (T : Top p loose mean mg mb h₀) (hk : cs.kind = .function)
   (hd : dp + 12 < recursionLimit) (hu : un + 180 < cLine) (hO : OptV prog w news x sb) (hs : StyleIs sb bg)
   (hret : ∀ v news' h' tk', Fr h₀ L h' m → News h₀ L h' news' → (∀ q ∈ news, q ∈ news') → PenV news' v bg → Q v { s with heap := h', toks := tk' }) :
   wpAny (model prog w) (ktrTop dp un gd cn cs L a ccd cl outer) (call (.ref 471) [.ref x, .bytes #[109, 101, 115, 115, 97, 103, 101, 45, 115, 116, 121, 108, 101] t0, .ref 22]) Q E s := by
  rcases hs with ⟨rfl, rfl⟩ | ⟨rfl, rfl⟩
  · exact styled_pen_blue B F X N T hk hd hu hO hret
  · exact styled_pen_def B F X N T hk hd hu hO hret
theorem status_cut_int {news : Led} {lc : Addr} {cvs : List Value} {cc : List Cell} {nc t0 : Nat} {kv : Int} {k : Nat} {bg : Int} (B : Below A₀ base outer h₀) (F : Fr h₀ L s.heap m) (X : (Mine.frag.heap_1 w.params).In h₀) (N : News h₀ L s.heap news) (T : Top p loose mean mg mb h₀) (hk : cs.kind = .function)
   (hd : dp + 4 < recursionLimit) (hu : un + 110 < cLine)
   (hlc : (lc, listOf cvs.toArray nc) ∈ news) (hC : CellsV news bg cvs cc) (hl8 : cvs.length ≤ 200) (hk8 : k ≤ 900) (hkv : kv = (k : Int))
   (hret : ∀ l vs n news' h' tk', Fr h₀ L h' m → News h₀ L h' news' → (∀ q ∈ news, q ∈ news') → (l, listOf vs.toArray n) ∈ news' → CellsV news' bg vs (cutC cc k) → Q (.ref l) { s with heap := h', toks := tk' }) :
   wpAny (model prog w) (ktrTop dp un gd cn cs L a ccd cl outer) (call (.ref 483) [.ref lc, .int kv t0]) Q E s := by
  subst hkv
  exact status_cut_ok B F X N T hk hd hu hlc hC hl8 hk8 hret
theorem pick_upto0 {vs : List Value} {hi : Nat} : kms_pick vs.toArray.toList none (some (hi : Int)) = vs.take hi := by
  unfold kms_pick
  have e1 : kms_lo none vs.toArray.toList.length = 0 := rfl
  have e2 : kms_hi (some (hi : Int)) vs.toArray.toList.length = min hi vs.length := by simp [kms_hi]; (first | lia | omega)
  rw [e1, e2, List.toList_toArray, List.drop_zero, Nat.sub_zero]
  by_cases h : hi ≤ vs.length
  · rw [Nat.min_eq_left h]
  · rw [Nat.min_eq_right (by (first | lia | omega)), List.take_of_length_le (Nat.le_refl _), List.take_of_length_le (by (first | lia | omega))]
theorem rg52 : True := by
  k_with "call ref" => ((with_reducible show wpAny _ _ (call (Value.ref 471) _) _ _ _); k_dflt (refine' styled_pen_ok ?q9zB ?q9zF ?q9zX ?q9zN ?q9zT ?q9zk ?q9zd ?q9zu ?q9zo ?q9zs ?_); ((case q9zB => k_asm); (case q9zF => k_asm); (case q9zX => k_asm); (case q9zN => k_asm); (case q9zT => k_asm); (case q9zk => k_dflt (exact rfl)); (case q9zo => k_dflt (assumption)); (case q9zs => k_dflt (assumption)); (case q9zd => first | (first | exact rm2 (by assumption) (Nat.le_of_ble_eq_true rfl) | exact rm1 (by assumption) (Nat.le_of_ble_eq_true rfl) | (first | exact rm2 (by assumption) (Nat.le_of_ble_eq_true rfl) | exact rm1 (by assumption) (Nat.le_of_ble_eq_true rfl) | (show _ + _ < _; simp only [depth_deeper]; omega))) | decide +kernel); (case q9zu => first | (first | exact rm2 (by assumption) (Nat.le_of_ble_eq_true rfl) | exact rm1 (by assumption) (Nat.le_of_ble_eq_true rfl) | (first | exact rm2 (by assumption) (Nat.le_of_ble_eq_true rfl) | exact rm1 (by assumption) (Nat.le_of_ble_eq_true rfl) | (show _ + _ < _; simp only [units_deeper]; omega))) | decide +kernel)); intro _ _ _ _ _ _ _ z9hP'; (obtain ⟨z9r', z9er'⟩ := PenV.ref z9hP'); subst z9er')
  k_with "call ref" => ((with_reducible show wpAny _ _ (call (Value.ref 464) _) _ _ _); k_dflt (refine' styled_cells_ok ?q9zB ?q9zF ?q9zX ?q9zN ?q9zT ?q9zk ?q9zd ?q9zu ?q9zp ?q9zt ?q9zl ?q9zb ?q9zc ?_); ((case q9zB => k_asm); (case q9zF => k_asm); (case q9zX => k_asm); (case q9zN => k_asm); (case q9zT => k_asm); (case q9zk => k_dflt (exact rfl)); (case q9zp => k_dflt (exact PenV.mono (by assumption) (by (intro z9qq z9hqq; k_mem)))); (case q9zt => k_dflt (exact TabV.mono (by assumption) (by (intro z9qq z9hqq; k_mem)))); (case q9zb => k_dflt (assumption)); (case q9zc => k_dflt (assumption)); (case q9zl => k_dflt (assumption)); (case q9zd => first | (first | exact rm2 (by assumption) (Nat.le_of_ble_eq_true rfl) | exact rm1 (by assumption) (Nat.le_of_ble_eq_true rfl) | (first | exact rm2 (by assumption) (Nat.le_of_ble_eq_true rfl) | exact rm1 (by assumption) (Nat.le_of_ble_eq_true rfl) | (show _ + _ < _; simp only [depth_deeper]; omega))) | decide +kernel); (case q9zu => first | (first | exact rm2 (by assumption) (Nat.le_of_ble_eq_true rfl) | exact rm1 (by assumption) (Nat.le_of_ble_eq_true rfl) | (first | exact rm2 (by assumption) (Nat.le_of_ble_eq_true rfl) | exact rm1 (by assumption) (Nat.le_of_ble_eq_true rfl) | (show _ + _ < _; simp only [units_deeper]; omega))) | decide +kernel)); intro _ _ _ _ _ _ _ _ _ _ z9hC'; (have z9hlen' := CellsV.length z9hC'))
  trivial
theorem len_suc {n m k : Nat} (e : n = m) (h : m + 1 ≤ k) : n + 1 ≤ k := e ▸ h
theorem len_room {a b w : Nat} (h : b ≤ w - a) (ha : a + 1 ≤ w) : a + b ≤ w := by (first | lia | omega)
theorem status_cut_w1 {news : Led} {lc : Addr} {cvs : List Value} {cc : List Cell} {nc t0 wd : Nat} {bg : Int} (B : Below A₀ base outer h₀) (F : Fr h₀ L s.heap m) (X : (Mine.frag.heap_1 w.params).In h₀) (N : News h₀ L s.heap news) (T : Top p loose mean mg mb h₀) (hk : cs.kind = .function)
   (hd : dp + 4 < recursionLimit) (hu : un + 110 < cLine)
   (hlc : (lc, listOf cvs.toArray nc) ∈ news) (hC : CellsV news bg cvs cc) (hl8 : cvs.length ≤ 200) (hk8 : wd ≤ 900)
   (hret : ∀ l vs n news' h' tk', Fr h₀ L h' m → News h₀ L h' news' → (∀ q ∈ news, q ∈ news') → (l, listOf vs.toArray n) ∈ news' → CellsV news' bg vs (cutC cc (wd - 1)) → Q (.ref l) { s with heap := h', toks := tk' }) :
   wpAny (model prog w) (ktrTop dp un gd cn cs L a ccd cl outer) (call (.ref 483) [.ref lc, .int (if (wd : Int) - 1 > 0 then (wd : Int) - 1 else 0) t0]) Q E s :=
  status_cut_int (k := wd - 1) B F X N T hk hd hu hlc hC hl8 (by (first | lia | omega)) (by split <;> (first | lia | omega)) hret
theorem rg53 : True := by
  k_with "call ref" => ((with_reducible show wpAny _ _ (call (Value.ref 483) _) _ _ _); k_dflt (refine' status_cut_w1 ?q9zB ?q9zF ?q9zX ?q9zN ?q9zT ?q9zk ?q9zd ?q9zu ?q9zm ?q9zC ?q9zl ?q9zh ?_); ((case q9zB => k_asm); (case q9zF => k_asm); (case q9zX => k_asm); (case q9zN => k_asm); (case q9zT => k_asm); (case q9zk => k_dflt (exact rfl)); (case q9zm => k_dflt (k_mem)); (case q9zC => k_dflt (assumption)); (case q9zl => k_dflt (omega)); (case q9zh => k_dflt (omega)); (case q9zd => first | (first | exact rm2 (by assumption) (Nat.le_of_ble_eq_true rfl) | exact rm1 (by assumption) (Nat.le_of_ble_eq_true rfl) | (first | exact rm2 (by assumption) (Nat.le_of_ble_eq_true rfl) | exact rm1 (by assumption) (Nat.le_of_ble_eq_true rfl) | (show _ + _ < _; simp only [depth_deeper]; omega))) | decide +kernel); (case q9zu => first | (first | exact rm2 (by assumption) (Nat.le_of_ble_eq_true rfl) | exact rm1 (by assumption) (Nat.le_of_ble_eq_true rfl) | (first | exact rm2 (by assumption) (Nat.le_of_ble_eq_true rfl) | exact rm1 (by assumption) (Nat.le_of_ble_eq_true rfl) | (show _ + _ < _; simp only [units_deeper]; omega))) | decide +kernel)); intro _ _ _ _ _ _ _ _ _ _ z9hC'; (have z9hlen' := CellsV.length z9hC'); (have z9hleA' := len_suc z9hlen' (by assumption)))
  k_with "call ref" => ((with_reducible show wpAny _ _ (call (Value.ref 415) _) _ _ _); k_dflt (refine' status_cells_ok ?q9zB ?q9zF ?q9zX ?q9zN ?q9zT ?q9zk ?q9zd ?q9zu ?q9zq ?q9zi ?q9zo ?q9zl ?q9zp ?q9zt ?_); ((case q9zB => k_asm); (case q9zF => k_asm); (case q9zX => k_asm); (case q9zN => k_asm); (case q9zT => k_asm); (case q9zk => k_dflt (exact rfl)); (case q9zq => k_dflt (k_mem)); (case q9zi => k_dflt (assumption)); (case q9zo => k_dflt (assumption)); (case q9zl => k_dflt (assumption)); (case q9zp => k_dflt (exact PenV.mono (by assumption) (by (intro z9qq z9hqq; k_mem)))); (case q9zt => k_dflt (exact TabV.mono (by assumption) (by (intro z9qq z9hqq; k_mem)))); (case q9zd => first | (first | exact rm2 (by assumption) (Nat.le_of_ble_eq_true rfl) | exact rm1 (by assumption) (Nat.le_of_ble_eq_true rfl) | (first | exact rm2 (by assumption) (Nat.le_of_ble_eq_true rfl) | exact rm1 (by assumption) (Nat.le_of_ble_eq_true rfl) | (show _ + _ < _; simp only [depth_deeper]; omega))) | decide +kernel); (case q9zu => first | (first | exact rm2 (by assumption) (Nat.le_of_ble_eq_true rfl) | exact rm1 (by assumption) (Nat.le_of_ble_eq_true rfl) | (first | exact rm2 (by assumption) (Nat.le_of_ble_eq_true rfl) | exact rm1 (by assumption) (Nat.le_of_ble_eq_true rfl) | (show _ + _ < _; simp only [units_deeper]; omega))) | decide +kernel)); intro _ _ _ _ _ _ _ _ _ _ z9hC'; (have z9hlen' := CellsV.length z9hC'))
  k_with "subscriptTail Name Slice ref ref" => (k_here; (with_reducible show wpAny _ _ (subscriptTail _ (PySem.Expr.Slice none (some _) none _) (Value.ref _) (Value.ref _)) _ _ _); k_dflt (refine' kms_slice_lit ?q9zF ?q9zN ?q9zl ?q9zp ?q9zq ?q9ze ?_ ?q9zs ?q9zt ?q9zz; (case q9zF => k_asm); (case q9zN => k_asm); (case q9zl => exact News.isList (by k_asm) (by k_mem)); (case q9zp => kmk_part); (case q9zq => kmk_part); (case q9ze => exact pick_upto0); (case q9zs => with_unfolding_all rfl); (case q9zt => kmk_pure); (case q9zz => ((simp only [List.size_toArray, sizeLine_eq]); omega))); intro _ _ _ _ z9l1; (try k_lt z9l1); (try k_sweep))
  trivial
theorem line_slice_off {news : Led} {lc : Addr} {cvs : List Value} {cc : List Cell} {nc t0 t1 wd al cl9 : Nat} {bg : Int} (B : Below A₀ base outer h₀) (F : Fr h₀ L s.heap m) (X : (Mine.frag.heap_1 w.params).In h₀) (N : News h₀ L s.heap news) (T : Top p loose mean mg mb h₀) (hk : cs.kind = .function)
   (hd : dp + 3 < recursionLimit) (hu : un + 100 < cLine)
   (hlc : (lc, listOf cvs.toArray nc) ∈ news) (hC : CellsV news bg cvs cc) (hl8 : cvs.length ≤ 200) (hal : al + 1 ≤ wd) (hwd : wd ≤ 100) (hcl : cl9 ≤ 100)
   (hret : ∀ l vs n news' h' tk', Fr h₀ L h' m → News h₀ L h' news' → (∀ q ∈ news, q ∈ news') → (l, listOf vs.toArray n) ∈ news' → CellsV news' bg vs (sliceC cc (cl9 + 1 - (wd - al)) (cl9 + 1 - (wd - al) + (wd - al))) → Q (.ref l) { s with heap := h', toks := tk' }) :
   wpAny (model prog w) (ktrTop dp un gd cn cs L a ccd cl outer) (call (.ref 123) [.ref lc, .int (if (cl9 : Int) - ((wd : Int) - (al : Int)) + 1 > 0 then (cl9 : Int) - ((wd : Int) - (al : Int)) + 1 else 0) t0, .int ((if (cl9 : Int) - ((wd : Int) - (al : Int)) + 1 > 0 then (cl9 : Int) - ((wd : Int) - (al : Int)) + 1 else 0) + ((wd : Int) - (al : Int)) - 1) t1]) Q E s := by
  refine line_slice_ok (lo := cl9 + 1 - (wd - al)) (hi := cl9 + 1 - (wd - al) + (wd - al)) B F X N T hk hd hu hlc hC hl8 ?_ ?_ (by (first | lia | omega)) (by (first | lia | omega)) hret
  · split <;> (first | lia | omega)
  · split <;> (first | lia | omega)
theorem slice_len_le {n₁ : Led} {bg : Int} {vs : List Value} {cc : List Cell} {lo r : Nat} (hC : CellsV n₁ bg vs (sliceC cc lo (lo + r))) : vs.length ≤ r := by
  rw [hC.length, sliceC_len]
  (first | lia | omega)
theorem m_addL0 {A : Around} {news : Led} {l b : Addr} {vs : List Value} {n n' : Nat} {Q : Value → Shared → Prop} (F : Fr h₀ L s.heap m) (N : News h₀ L s.heap news) (ha : (l, listOf vs.toArray n) ∈ news) (hb : (b, listOf #[] n') ∈ news) (hsz : vs.length ≤ 5000)
    (h : ∀ D h', Fr h₀ L h' m → News h₀ L h' ((D, listOf vs.toArray 0) :: news) → (∀ p ∈ news, p.1 < D) → Q (.ref D) { s with heap := h' }) : wpAny (model prog w) A (binaryOp .Add (.ref l) (.ref b)) Q E s := by
  refine m_addL (ws := []) F N ha hb (by simpa using hsz) ?_
  rw [List.append_nil]; exact h
theorem rg54 : True := by
  k_with "binaryOp Add ref ref" => (k_here; (with_reducible show wpAny _ _ (binaryOp _ (Value.ref _) (Value.ref _)) _ _ _); k_dflt (refine' m_addL0 ?q9zF ?q9zN ?q9za ?q9zb ?q9zz ?_; (case q9zF => k_asm); (case q9zN => k_asm); (case q9za => k_mem); (case q9zb => k_mem); (case q9zz => omega)); intro _ _ _ _ z9l1; (try k_lt z9l1); (try k_sweep))
  k_with "call ref" => ((with_reducible show wpAny _ _ (call (Value.ref 123) _) _ _ _); k_dflt (refine' line_slice_off ?q9zB ?q9zF ?q9zX ?q9zN ?q9zT ?q9zk ?q9zd ?q9zu ?q9zm ?q9zC ?q9zl ?q9za ?q9zw ?q9zc ?_); ((case q9zB => k_asm); (case q9zF => k_asm); (case q9zX => k_asm); (case q9zN => k_asm); (case q9zT => k_asm); (case q9zk => k_dflt (exact rfl)); (case q9zm => k_dflt (k_mem)); (case q9zC => k_dflt (exact CellsV.mono (by assumption) (by (intro _ _; k_mem)))); (case q9zl => k_dflt (omega)); (case q9za => k_dflt (omega)); (case q9zw => k_dflt (omega)); (case q9zc => k_dflt (omega)); (case q9zd => first | (first | exact rm2 (by assumption) (Nat.le_of_ble_eq_true rfl) | exact rm1 (by assumption) (Nat.le_of_ble_eq_true rfl) | (first | exact rm2 (by assumption) (Nat.le_of_ble_eq_true rfl) | exact rm1 (by assumption) (Nat.le_of_ble_eq_true rfl) | (show _ + _ < _; simp only [depth_deeper]; omega))) | decide +kernel); (case q9zu => first | (first | exact rm2 (by assumption) (Nat.le_of_ble_eq_true rfl) | exact rm1 (by assumption) (Nat.le_of_ble_eq_true rfl) | (first | exact rm2 (by assumption) (Nat.le_of_ble_eq_true rfl) | exact rm1 (by assumption) (Nat.le_of_ble_eq_true rfl) | (show _ + _ < _; simp only [units_deeper]; omega))) | decide +kernel)); intro _ _ _ _ _ _ _ _ _ _ z9hC'; (have z9hlen' := slice_len_le z9hC'); (have z9hsum' := len_room z9hlen' (by assumption)))
  k_with "call ref" => ((with_reducible show wpAny _ _ (call (Value.ref 490) _) _ _ _); k_dflt (refine' status_filled_ok ?q9zB ?q9zF ?q9zX ?q9zN ?q9zT ?q9zk ?q9zd ?q9zu ?q9zm ?q9zC ?q9zp ?q9zl ?q9zh ?_); ((case q9zB => k_asm); (case q9zF => k_asm); (case q9zX => k_asm); (case q9zN => k_asm); (case q9zT => k_asm); (case q9zk => k_dflt (exact rfl)); (case q9zm => k_dflt (k_mem)); (case q9zC => k_dflt (first | exact CellsV.append (CellsV.mono (by assumption) (by (intro z9qq z9hqq; k_mem))) (CellsV.mono (by assumption) (by (intro z9qq z9hqq; k_mem))) | exact CellsV.mono (by assumption) (by (intro z9qq z9hqq; k_mem)))); (case q9zp => k_dflt (exact PenV.mono (by assumption) (by (intro z9qq z9hqq; k_mem)))); (case q9zl => k_dflt (((try rw [List.length_append]); omega))); (case q9zh => k_dflt (omega)); (case q9zd => first | (first | exact rm2 (by assumption) (Nat.le_of_ble_eq_true rfl) | exact rm1 (by assumption) (Nat.le_of_ble_eq_true rfl) | (first | exact rm2 (by assumption) (Nat.le_of_ble_eq_true rfl) | exact rm1 (by assumption) (Nat.le_of_ble_eq_true rfl) | (show _ + _ < _; simp only [depth_deeper]; omega))) | decide +kernel); (case q9zu => first | (first | exact rm2 (by assumption) (Nat.le_of_ble_eq_true rfl) | exact rm1 (by assumption) (Nat.le_of_ble_eq_true rfl) | (first | exact rm2 (by assumption) (Nat.le_of_ble_eq_true rfl) | exact rm1 (by assumption) (Nat.le_of_ble_eq_true rfl) | (show _ + _ < _; simp only [units_deeper]; omega))) | decide +kernel)); intro _ _ _ _ _ _ _ _ _ _ _)
  k_with "call builtin:len" => (k_here; (with_reducible show wpAny _ _ (call (Value.builtin "len") [Value.ref _]) _ _ _); k_dflt (refine' kst_len ?q9k1 ?q9k2 rfl ?q9k4 ?_; (case q9k1 => k_asm); (case q9k2 => k_mem); (case q9k4 => ((try simp only [List.length_append, List.length_cons, List.length_nil]); omega)); k_whole))
  k_with "binaryOp Add ref ref" => (k_here; (with_reducible show wpAny _ _ (binaryOp _ (Value.ref _) (Value.ref _)) _ _ _); k_dflt (refine' m_addL ?q9zF ?q9zN ?q9za ?q9zb ?q9zz ?_); (case q9zF => k_asm); (case q9zN => k_asm); (case q9za => k_mem); (case q9zb => k_mem); (case q9zz => omega); intro _ _ _ _ z9l1; (try k_lt z9l1); (try k_sweep))
  trivial
theorem pr_lt {k w a l : Nat} (h : (if (k : Int) - ((w : Int) - (a : Int)) + 1 > 0 then (k : Int) - ((w : Int) - (a : Int)) + 1 else 0) < (l : Int)) (ha : a ≤ w) : k + 1 - (w - a) < l := by
  split at h <;> (first | lia | omega)
theorem pr_nlt {k w a l : Nat} (h : ¬ ((if (k : Int) - ((w : Int) - (a : Int)) + 1 > 0 then (k : Int) - ((w : Int) - (a : Int)) + 1 else 0) < (l : Int))) (ha : a ≤ w) : ¬ (k + 1 - (w - a) < l) := by
  split at h <;> (first | lia | omega)
theorem pr_k {k w a : Nat} (ha : a ≤ w) : (a : Int) + (k : Int) - (if (k : Int) - ((w : Int) - (a : Int)) + 1 > 0 then (k : Int) - ((w : Int) - (a : Int)) + 1 else 0) = (a : Int) + (k : Int) - ((k + 1 - (w - a) : Nat) : Int) := by
  split <;> (first | lia | omega)
noncomputable def promptA (ss : List Int) (wd : Nat) : List Cell := cutC (cellsOf (putAll ss)) (wd - 1)
noncomputable def promptO (ss codes : List Int) (cur wd : Nat) : Nat := (cellsOf (putAll (codes.take cur))).length + 1 - (wd - (promptA ss wd).length)
noncomputable def promptC (ss codes : List Int) (cur wd : Nat) : List Cell := filledC (promptA ss wd ++ typedC (cellsOf (putAll codes)) (promptO ss codes cur wd) (wd - (promptA ss wd).length)) wd
noncomputable def promptK (ss codes : List Int) (cur wd : Nat) : Int := ((promptA ss wd).length : Int) + ((cellsOf (putAll (codes.take cur))).length : Int) - (promptO ss codes cur wd : Int)
theorem prompt_row_ok {news : Led} {x t lc : Addr} {t0 t1 t2 : Tok} {sb : Array UInt8} {bg : Int} {ss codes : List Int} {cvs : List Value} {nc cur wd : Nat} {oc : Array UInt8} (B : Below A₀ base outer h₀) (F : Fr h₀ L s.heap m) (X : (Mine.frag.heap_1 w.params).In h₀) (N : News h₀ L s.heap news) (T : Top p loose mean mg mb h₀) (hk : cs.kind = .function)
   (hd : dp + 14 < recursionLimit) (hu : un + 200 < cLine) (hO : OptV prog w news x sb) (hs : StyleIs sb bg) (hT : TabV news t) (hls : ss.length ≤ 40) (hb : KBw.bInts oc = encs ss) (hc : ∀ c ∈ ss, SignOk c)
   (hlc : (lc, listOf cvs.toArray nc) ∈ news) (hi : IntsAre cvs codes) (hok : ∀ c ∈ codes, OkCode c) (hl8 : codes.length ≤ 40) (hw1 : 1 ≤ wd) (hw9 : wd ≤ 20)
   (hret : ∀ x l vs n nx t' K news' h' tk', Fr h₀ L h' m → News h₀ L h' news' → (∀ q ∈ news, q ∈ news') → (x, tupO [.ref l, .int K t'] nx) ∈ news' → (l, listOf vs.toArray n) ∈ news' → CellsV news' bg vs (promptC ss codes cur wd) → K = promptK ss codes cur wd → Q (.ref x) { s with heap := h', toks := tk' }) :
   wpAny (model prog w) (ktrTop dp un gd cn cs L a ccd cl outer) (call (.ref 497) [.bytes oc t0, .ref lc, .int (cur : Int) t1, .ref x, .int (wd : Int) t2, .ref t]) Q E s := by
  have hi2 := hi.take cur
  have hcl := hi.length
  have hlA : (cellsOf (putAll ss)).length ≤ 80 := by
    have h2 := cellsOf_len (putAll ss)
    have h3 := (putAll_good0 ss).1
    omega
  have hlB : (cellsOf (putAll codes)).length ≤ 80 := by
    have h2 := cellsOf_len (putAll codes)
    have h3 := (putAll_good0 codes).1
    omega
  have hlt : (codes.take cur).length ≤ 40 := by rw [List.length_take]; omega
  have hlC : (cellsOf (putAll (codes.take cur))).length ≤ 80 := by
    have h2 := cellsOf_len (putAll (codes.take cur))
    have h3 := (putAll_good0 (codes.take cur)).1
    omega
  have hl88 : codes.length ≤ 80 := by omega
  have hlt8 : (codes.take cur).length ≤ 80 := by omega
  have hcut := cutC_len (cellsOf (putAll ss)) (wd - 1)
  have hcutA : (cutC (cellsOf (putAll ss)) (wd - 1)).length + 1 ≤ wd := by omega
  clear hcut
  have hcutB : (cutC (cellsOf (putAll ss)) (wd - 1)).length ≤ wd := Nat.le_of_succ_le hcutA
  have hcut20 : (cutC (cellsOf (putAll ss)) (wd - 1)).length ≤ 20 := Nat.le_trans hcutB hw9
  have hok2 : ∀ c ∈ codes.take cur, OkCode c := fun c hc => hok c (List.mem_of_mem_take hc)
  refine wpAny_call ?_
  k_dflt ktr_enter
  k_steps
  all_goals (rename News h₀ _ _ _ => kN)
  all_goals (rename CellsV _ _ _ (filledC _ _) => hF)
  all_goals (rename List.length _ = (cutC _ _).length => hL1)
  all_goals (rename List.length _ = (cellsOf (putAll codes)).length => hL2)
  all_goals (rename List.length _ = (cellsOf (putAll (List.take cur codes))).length => hL3)
  all_goals (refine hret _ _ _ _ _ _ _ _ _ _ (by assumption) kN (by (intro qq hqq; k_mem)) (.head _) (by k_mem) ?_ ?_)
  · unfold promptC promptO promptA typedC
    rw [hL1, hL3] at hF
    have hlt2 : (cellsOf (putAll (codes.take cur))).length + 1 - (wd - (cutC (cellsOf (putAll ss)) (wd - 1)).length) < (cellsOf (putAll codes)).length := by
      rename (ite _ _ _ : Int) < _ => hlt
      rw [hL1, hL2, hL3] at hlt
      exact pr_lt hlt hcutB
    rw [if_pos hlt2]
    exact CellsV.mono hF (by (intro qq hqq; k_mem))
  · unfold promptK promptO promptA
    rw [hL1, hL3]
    exact pr_k hcutB
  · unfold promptC promptO promptA typedC
    have hlt2 : ¬ ((cellsOf (putAll (codes.take cur))).length + 1 - (wd - (cutC (cellsOf (putAll ss)) (wd - 1)).length) < (cellsOf (putAll codes)).length) := by
      rename ¬ ((ite _ _ _ : Int) < _) => hlt
      rw [hL1, hL2, hL3] at hlt
      exact pr_nlt hlt hcutB
    rw [if_neg hlt2, List.append_nil]
    exact CellsV.mono hF (by (intro qq hqq; k_mem))
  · unfold promptK promptO promptA
    rw [hL1, hL3]
    exact pr_k hcutB

end
end
section
theorem rg55 : True := by
  k_with_none
  k_with "omega" => (first | decide | (with_reducible first | exact Int.natCast_nonneg _ | exact rm1 ‹_› (by decide) | exact rm2 ‹_› (by decide) | exact rm3 ‹_› (by decide) | exact om_le ‹_› (by decide) | exact om_63 ‹_› (by decide) | exact om_eqle ‹_› ‹_› (by decide) | exact om_eq63 ‹_› ‹_› (by decide) | exact om_add ‹_› (by decide) | exact om_ne ‹_› (by decide) | exact om_le2 ‹_› ‹_› (by decide) | exact om_le2s ‹_› ‹_› (by decide) | exact om_le2_63 ‹_› ‹_› (by decide) | exact om_le2s_63 ‹_› ‹_› (by decide) | exact om_z62 ‹_› (by decide) | exact om_zn62 | exact om_kle ‹_› (by decide) | exact om_neg1 | exact om_pos | exact om_at ‹_› (by decide) | exact om_at0 ‹_› | exact om_add63 ‹_› (by decide) | exact Nat.ne_of_gt (by k_extra "pick") | exact Nat.ne_of_lt (by k_extra "pick")))
  k_with "ktr_room" => (first | exact rm0 (by assumption) | exact rm1 (by assumption) (Nat.le_of_ble_eq_true rfl))
  k_with "k_ne" => ((refine neN ?_; (try dsimp only); first | exact Nat.ne_of_gt (by assumption) | exact Nat.ne_of_lt (by assumption) | exact Nat.ne_of_gt (And.left (by assumption)) | exact Nat.ne_of_lt (And.left (by assumption)) | exact Nat.ne_of_gt (And.left (And.right (by assumption))) | exact Nat.ne_of_lt (And.left (And.right (by assumption))) | exact Nat.ne_of_gt (And.right (by assumption)) | exact Nat.ne_of_lt (And.right (by assumption)) | exact Nat.ne_of_gt (And.left (And.right (And.right (by assumption)))) | exact Nat.ne_of_lt (And.left (And.right (And.right (by assumption)))) | exact Nat.ne_of_gt (And.right (And.right (by assumption))) | exact Nat.ne_of_lt (And.right (And.right (by assumption)))))
  k_with "pick" => (with_reducible first | assumption | exact And.left ‹_› | exact And.left (And.right ‹_›) | exact And.left (And.right (And.right ‹_›)) | exact And.left (And.right (And.right (And.right ‹_›))) | exact And.left (And.right (And.right (And.right (And.right ‹_›)))) | exact And.left (And.right (And.right (And.right (And.right (And.right ‹_›))))) | exact And.left (And.right (And.right (And.right (And.right (And.right (And.right ‹_›)))))) | exact And.left (And.right (And.right (And.right (And.right (And.right (And.right (And.right ‹_›))))))) | exact And.left (And.right (And.right (And.right (And.right (And.right (And.right (And.right (And.right ‹_›)))))))) | exact And.left (And.right (And.right (And.right (And.right (And.right (And.right (And.right (And.right (And.right ‹_›))))))))) | exact And.left (And.right (And.right (And.right (And.right (And.right (And.right (And.right (And.right (And.right (And.right ‹_›)))))))))) | exact (And.right ‹_›) | exact (And.right (And.right ‹_›)) | exact (And.right (And.right (And.right ‹_›))) | exact (And.right (And.right (And.right (And.right ‹_›)))) | exact (And.right (And.right (And.right (And.right (And.right ‹_›))))) | exact (And.right (And.right (And.right (And.right (And.right (And.right ‹_›)))))) | exact (And.right (And.right (And.right (And.right (And.right (And.right (And.right ‹_›))))))) | exact (And.right (And.right (And.right (And.right (And.right (And.right (And.right (And.right ‹_›)))))))) | exact (And.right (And.right (And.right (And.right (And.right (And.right (And.right (And.right (And.right ‹_›))))))))) | exact (And.right (And.right (And.right (And.right (And.right (And.right (And.right (And.right (And.right (And.right ‹_›)))))))))))
  k_with "k_room" => (((simp only [depth_under_make, depth_under_kw, depth_in1, depth_deeper, depth_caller]); omega))
  k_with "k_all" => (assumption)
  k_with "eval Name" => (k_here; dsimp only)
  k_with "eval Call" => (k_here; dsimp only)
  k_with "eval Constant int" => (k_here; dsimp only)
  k_with "eval Attribute Name" => (k_here; dsimp only)
  k_with "eval BinOp" => (k_here; dsimp only)
  k_with "storeName" => (k_here; dsimp only)
  k_with "setAttr ref" => (k_here; dsimp only)
  k_with "eval Compare" => (k_here; dsimp only)
  k_with "isTrue Compare" => (k_here; dsimp only)
  k_with "eval Subscript" => (k_here; dsimp only)
  k_with "execs cons" => (k_here; first | (with_reducible rename News _ _ _ _ => nZ9; dsimp only at nZ9) | dsimp only | ((with_reducible show wpAny _ _ _ _ _ (Shared.mk _ _ _ (HAdd.hAdd _ _) _)); refine gen_toks ?_; intro _))
  k_with "eval Name" => (k_here; (fail_if_success (with_reducible show wpAny _ _ (eval _ (compEnvC _ _ _ _)) _ _ _)); (try dsimp only); k_dflt (first | (refine' nameX_L ?q9F ?q9v ?_ ?q9a ?q9b; (case q9F => k_asm); (case q9a => rfl); (case q9b => rfl); (case q9v => rfl); k_whole) | (refine' nameX_K ?q9F ?q9X ?q9T ?q9e ?_ ?q9a ?q9b; (case q9F => k_asm); (case q9X => k_asm); (case q9T => k_asm); (case q9a => rfl); (case q9b => rfl); (case q9e => k_is); k_whole) | (refine' nameX_B ?q9F ?q9X ?q9T ?q9e ?q9v ?q9n ?_ ?q9a ?q9b; (case q9F => k_asm); (case q9X => k_asm); (case q9T => k_asm); (case q9a => rfl); (case q9b => rfl); (case q9e => k_is); (case q9v => boot_fast); (case q9n => decide); k_whole)))
  k_with "execs cons" => (k_here; (try (with_reducible rename News _ _ _ _ => nZ9; dsimp only at nZ9)); (try dsimp only); (try ((with_reducible show wpAny _ _ _ _ _ (Shared.mk _ _ _ (HAdd.hAdd _ _) _)); refine gen_toks ?_; intro _)); (with_reducible refine wpAny_execs_cons ?_); (try dsimp only))
  k_with "eval Constant int" => (k_here; (try dsimp only); refine wpAny_Constant_int ?_)
  k_with "spliced" => (k_here; (fail_if_success (with_reducible show wpAny _ _ (spliced (backTo _ (starEach (PySem.Expr.Starred _ _ :: _) _))) _ _ _)); k_dflt (first | refine args_cons ?_ | (refine args_nil ?_; try simp only [List.cons_append, List.nil_append])))
  k_with "subscriptTail" => (k_here; (with_reducible show wpAny _ _ (subscriptTail _ _ (Value.ref _) (Value.int _ _)) _ _ _); k_dflt (refine' item_tupleT ?q9t ?q9a ?q9b ?q9c ?q9d ?_; (case q9t => exact News.isTup (by k_asm) (by k_mem)); (case q9a => decide); (case q9b => decide); (case q9c => rfl); (case q9d => rfl); k_whole))
  k_with "storeName" => (k_here; (fail_if_success (with_reducible show wpAny _ _ (storeName _ _ (compEnvC _ _ _ _)) _ _ _)); (try dsimp only); k_dflt (refine' storeX_L ?q9F ?q9N ?_ ?q9a ?q9b; (case q9F => k_asm); (case q9N => k_asm); (case q9a => rfl); (case q9b => rfl); k_whole; intro z9h z9F z9N; (try k_sweep)))
  k_with "callWith ref" => (k_here; k_dflt (first | (refine' callWith_K ?q9a ?q9b ?_; (case q9a => k_asm); (case q9b => k_is); k_whole) | (refine' callWith_K0 ?q9a ?q9b ?_; (case q9a => k_in); (case q9b => k_is); k_whole) | (refine' callWith_M0 ?q9a ?q9b ?_; (case q9a => k_meth); (case q9b => k_is); k_whole; try dsimp only [List.nil_append, List.cons_append]) | (refine' callWith_M ?q9a ?q9b ?q9c ?q9d ?_; (case q9a => k_asm); (case q9b => k_asm); (case q9c => k_mem); (case q9d => k_is); k_whole)))
  k_with "truthy bool" => (with_reducible refine wpAny_truthy_bool ?_)
  k_with "k_mem" => first | with_reducible assumption | assumption
  k_with "subscriptTail" => (k_here; (with_reducible show wpAny _ _ (subscriptTail _ _ (Value.ref _) (Value.int _ _)) _ _ _); (with_unfolding_all refine' item_litK ?q9k1 ?q9k2 ?q9k3 ?q9k4 ?_ ?q9k6; (case q9k1 => exact News.isList (by k_asm) (by k_mem)); (case q9k2 => decide); (case q9k3 => decide); (case q9k4 => rfl); (case q9k6 => with_unfolding_all rfl); k_whole))
  k_with "callWith" => ((with_reducible show wpAny _ _ (callWith _ (Value.builtin _) (_ :: _) (backTo _ (starEach (_ :: _) _)) []) _ _ _); k_dflt (refine callWith_method1 ?_))
  trivial
section
variable {prog : Program} {w : World} {p : Program} {loose : List Str} {mean : ExcName → Option Value} {mg mb : Str → Option Value}
 {dp un : Nat} {gd : Option (List Code)} {cn : Str} {cs : Scope} {a : Addr} {ccd : Value} {cl : List (Str × Addr)} {outer : List Env} {A₀ : Around} {base h₀ : Heap} {L : Addr} {m : Str → Option Value} {s : Shared} {Q E : Value → Shared → Prop}
section
open PyProof.Rows.LCg PyProof.V PySem.Spec
inductive KceAt (h₀ : Heap) (L : Addr) (m : Str → Option Value) (e it l D C : Addr) (vs : List Value) (news : Led) (J : Nat → List Value → Prop) (s₂ : Shared) (k : Nat) (s' : Shared) : Prop
  | mk (h' : Heap) (tk i : Nat) (ys : List Value) (m' : Str → Option Value) (p1 : s' = { s₂ with heap := h', toks := tk }) (p2 : i ≤ vs.length) (p3 : k = vs.length + 1 - i) (p4 : ys.length ≤ i) (p5 : (∃ old, IsEnum h' e it i old) ∧ h'.IsListIter it l i) (p6 : Fr h₀ L h' m) (p7 : h'.Ns C m')
    (p8 : News h₀ L h' ((D, lst ys) :: news)) (p9 : J i ys) : KceAt h₀ L m e it l D C vs news J s₂ k s'
inductive KcePair (h : Heap) (e it l : Addr) (vs : List Value) (i : Nat) (v : Value) : Prop
  | mk (T : Addr) (t : Tok) (x old : Value) (p1 : v = .ref T) (p2 : vs[i]? = some x) (p3 : h.IsTuple T #[.int (i : Int) t, x]) (p4 : IsEnum h e it ((i + 1 : Nat) : Int) old) (p5 : h.IsListIter it l (i + 1)) : KcePair h e it l vs i v
theorem kce_pair {h : Heap} {e it l : Addr} {vs : List Value} {i : Nat} {v : Value} (hP : ∃ T vals, v = .ref T ∧ (∃ t x, vs.toArray[i]? = some x ∧ vals = #[.int (i : Int) t, x]) ∧ h.IsTuple T vals)
    (hst : (∃ old, IsEnum h e it ((i + 1 : Nat) : Int) old) ∧ h.IsListIter it l (i + 1) ∧ h.IsList l vs.toArray) : KcePair h e it l vs i v := by
  obtain ⟨T, vals, e1, ⟨t, x, hx, rfl⟩, hT⟩ := hP
  obtain ⟨⟨old, h1⟩, h2, _⟩ := hst
  exact ⟨T, t, x, old, e1, by simpa using hx, hT, h1, h2⟩
structure KceStep (h₀ : Heap) (L : Addr) (m m₄ : Str → Option Value) (e it l D C : Addr) (vs : List Value) (news : Led) (J : Nat → List Value → Prop) (s₂ : Shared) (i k : Nat) (ys : List Value) (h₄ : Heap) : Prop where
  oC : ∃ oC, h₄.get? C = some oC ∧ NsObj oC m₄
  F₄ : Fr h₀ L h₄ m
  N₄ : ∀ oC, h₄.get? C = some oC → News h₀ L h₄ ((C, oC) :: (D, lst ys) :: news)
  fin : ∀ {s' : Shared} {h₅ : Heap} {ys' : List Value} (tk₅ : Nat), i < vs.length → ys'.length ≤ i + 1 → s' = { s₂ with heap := h₅, toks := tk₅ } → (∀ c o, c ≠ D → h₄.get? c = some o → h₅.get? c = some o) → News h₀ L h₅ ((D, lst ys') :: news) → Fr h₀ L h₅ m → J (i + 1) ys' → KceAt h₀ L m e it l D C vs news J s₂ (vs.length + 1 - (i + 1)) s'
theorem kce_step {m₄ : Str → Option Value} {e it l D C : Addr} {vs : List Value} {news : Led} {J : Nat → List Value → Prop} {s₂ : Shared} {i k : Nat} {ys : List Value} {h' h₃ h₄ : Heap} {old₃ : Value}
    (hIL : L ≠ e ∧ L ≠ it) (hI₀ : h₀.get? e = none ∧ h₀.get? it = none) (hC₀ : h₀.get? C = none) (hCL : C ≠ L) (hDC : D ≠ C) (hCe : e ≠ C) (hDe : e ≠ D) (hCi : it ≠ C) (hDi : it ≠ D)
    (off : ∀ p ∈ news, p.1 ≠ e ∧ p.1 ≠ it) (offN : ∀ p ∈ news, p.1 ≠ C ∧ p.1 ≠ D) (up₃ : ∀ c o, c ≠ e → c ≠ it → h'.get? c = some o → h₃.get? c = some o) (F' : Fr h₀ L h' m) (N' : News h₀ L h' ((D, lst ys) :: news))
    (hn₄ : h₄.Ns C m₄) (hs₄ : ∀ c o, c ≠ C → h₃.get? c = some o → h₄.get? c = some o) (hen₃ : IsEnum h₃ e it ((i + 1 : Nat) : Int) old₃) (hit₃ : h₃.IsListIter it l (i + 1)) : KceStep h₀ L m m₄ e it l D C vs news J s₂ i k ys h₄ := by
  have up : ∀ c o, c ≠ e → c ≠ it → c ≠ C → h'.get? c = some o → h₄.get? c = some o := fun c o h1 h2 h3 q => hs₄ c o h3 (up₃ c o h1 h2 q)
  have hen₄ : IsEnum h₄ e it ((i + 1 : Nat) : Int) old₃ := hs₄ e _ hCe hen₃
  have hit₄ : h₄.IsListIter it l (i + 1) := hit₃.at fun o q => hs₄ it o hCi q
  refine ⟨ns_obj hn₄, ⟨F'.ns.at' fun o q => up _ o hIL.1 hIL.2 (Ne.symm hCL) q, fun c o q => up c o (fun z => by rw [z, hI₀.1] at q; cases q) (fun z => by rw [z, hI₀.2] at q; cases q) (fun z => by rw [z, hC₀] at q; cases q) (F'.keep c o q), F'.above⟩, fun oC heC q hq => ?_, fun tk₅ hlt hlen hs hk₅ N₅ F₅ hJ₅ => ?_⟩
  · rcases List.mem_cons.mp hq with rfl | hq
    · exact ⟨heC, hCL, hC₀⟩
    · have z := N' q hq
      refine ⟨up _ _ ?_ ?_ ?_ z.1, z.2⟩
      · rcases List.mem_cons.mp hq with rfl | hq
        · exact Ne.symm hDe
        · exact (off q hq).1
      · rcases List.mem_cons.mp hq with rfl | hq
        · exact Ne.symm hDi
        · exact (off q hq).2
      · rcases List.mem_cons.mp hq with rfl | hq
        · exact hDC
        · exact (offN q hq).1
  · exact ⟨_, tk₅, i + 1, _, _, hs, hlt, rfl, hlen, ⟨⟨_, hk₅ e _ hDe hen₄⟩, hit₄.at fun o q => hk₅ it o hDi q⟩, F₅, hn₄.at' fun o q => hk₅ _ o (Ne.symm hDC) q, N₅, hJ₅⟩
theorem kce_grow {C D : Addr} {oC : Obj} {ys : List Value} {y : Value} {news : Led} {h₄ h₆ : Heap} (N : News h₀ L h₄ ((C, oC) :: (D, lst ys) :: news)) (hs₆ : Heap.SameBut D h₄ h₆) (hD₆ : h₆.get? D = some { cls := .type "list", data := .seq (ys.toArray.push y) (ys.length + 1) })
    (hDL : D ≠ L) (hD₀ : h₀.get? D = none) (offN : ∀ p ∈ news, p.1 ≠ C ∧ p.1 ≠ D) : News h₀ L h₆ ((D, lst (ys ++ [y])) :: news) := by
  intro q hq
  rcases List.mem_cons.mp hq with rfl | hq
  · exact ⟨hD₆.trans (congrArg some (lst_snoc ys y)), hDL, hD₀⟩
  · exact ⟨hs₆.extBut _ _ (offN q hq).2 (N q (.tail _ (.tail _ hq))).1, (N q (.tail _ (.tail _ hq))).2⟩
theorem kce_fr {e it : Addr} {h' h₂ : Heap} (hIL : L ≠ e ∧ L ≠ it) (hI₀ : h₀.get? e = none ∧ h₀.get? it = none) (F' : Fr h₀ L h' m) (up : ∀ c o, c ≠ e → c ≠ it → h'.get? c = some o → h₂.get? c = some o) : Fr h₀ L h₂ m :=
  ⟨F'.ns.at' fun o q => up _ o hIL.1 hIL.2 q, fun c o q => up c o (fun z => by rw [z, hI₀.1] at q; cases q) (fun z => by rw [z, hI₀.2] at q; cases q) (F'.keep c o q), F'.above⟩
theorem kce_news {e it D : Addr} {o : Obj} {news : Led} {h' h₂ : Heap} (hDe : e ≠ D) (hDi : it ≠ D) (off : ∀ p ∈ news, p.1 ≠ e ∧ p.1 ≠ it) (N' : News h₀ L h' ((D, o) :: news)) (up : ∀ c o, c ≠ e → c ≠ it → h'.get? c = some o → h₂.get? c = some o) : News h₀ L h₂ ((D, o) :: news) := by
  intro q hq
  refine ⟨up _ _ ?_ ?_ (N' q hq).1, (N' q hq).2⟩
  · rcases List.mem_cons.mp hq with rfl | hq
    · exact Ne.symm hDe
    · exact (off q hq).1
  · rcases List.mem_cons.mp hq with rfl | hq
    · exact Ne.symm hDi
    · exact (off q hq).2
theorem kce_off {D : Addr} : ∀ {l : Led}, (∀ p ∈ l, p.1 ≠ D) → Off1 D l
  | [], _ => trivial
  | p :: _, hl => ⟨hl p (.head _), kce_off fun q hq => hl q (.tail _ hq)⟩
theorem kce_lt {n i k : Nat} (ek : k = n + 1 - i) (hi : i < n) : n + 1 - (i + 1) < k := by (first | lia | omega)
theorem kce_block {elt iter c : PySem.Expr} {a b : Str} {pa pb tp : Pos} {kk : Nat} {scope : Scope} {cl' : List (Str × Addr)} {pos : Pos} {s₂ : Shared} {A : Around} {env : Env} {e it l : Addr} {vs : List Value} {n : Nat} {news : Led} (J : Nat → List Value → Prop)
    {RR : Value → Addr → Result → Shared → Prop}
    (hh : A.handled = none) (hei : e ≠ it) (hle : l ≠ e) (hli : l ≠ it) (hsz : vs.length ≤ sizeLine)
    (hst : (∃ old, IsEnum s₂.heap e it 0 old) ∧ s₂.heap.IsListIter it l 0) (hl : (l, listOf vs.toArray n) ∈ news)
    (hcell : ∀ y ∈ scope.names, y.2 ≠ .cell) (hkind : scope.kind = .function) (hxa : scope.names.lookup a = some .local) (hxb : scope.names.lookup b = some .local) (hab : ¬ a = b)
    (F : Fr h₀ L s₂.heap m) (N : News h₀ L s₂.heap news) (hIL : L ≠ e ∧ L ≠ it) (hI₀ : h₀.get? e = none ∧ h₀.get? it = none) (off : ∀ p ∈ news, p.1 ≠ e ∧ p.1 ≠ it) (h0 : J 0 [])
    (turn : ∀ i x t ys C oC D m₂ h tk (E' : Value → Shared → Prop), vs[i]? = some x → J i ys → NsObj oC m₂ → m₂ a = some (.int (i : Int) t) → m₂ b = some x → Fr h₀ L h m → News h₀ L h ((C, oC) :: (D, lst ys) :: news) →
      wpAny (model prog w) A (isTrue c (compEnvC scope cl' C env) (eval c (compEnvC scope cl' C env))) (fun okb s₃ => if okb = true then
        wpAny (model prog w) A (eval elt (compEnvC scope cl' C env)) (fun y s₄ => ∃ tk', s₄ = { s₂ with heap := h, toks := tk' } ∧ J (i + 1) (ys ++ [y])) E' s₃
        else ∃ tk', s₃ = { s₂ with heap := h, toks := tk' } ∧ J (i + 1) ys) E' { s₂ with heap := h, toks := tk })
    (hRR : ∀ D C h tk m' ys, Fr h₀ L h m → News h₀ L h ((D, lst ys) :: news) → Off1 D news → h.Ns C m' → h₀.get? C = none → h₀.get? D = none → C ≠ L → D ≠ L → C ≠ D → (∀ p ∈ news, p.1 ≠ C) → J vs.length ys → RR (.ref D) C (.ok .next) { s₂ with heap := h, toks := tk }) :
    wpAny (model prog w) A (newList []) (fun acc s₃ => wpAny (model prog w) A (newFunctionEnv scope env.globals cl' [] env.qual none .none (some env)) (fun cenv s₄ =>
      codeAny (model prog w) A (.compStart (.ListComp elt [⟨.Tuple [.Name a pa, .Name b pb] kk tp, iter, [c], 0⟩] scope pos) 0 (.ref e) acc { cenv with scope := relabel scope env }) (RR acc cenv.locals) s₄) E s₃) E s₂ := by
  refine wpAny_newObj_type (wpAny_newFunctionEnv hcell (by intro y hy; simp at hy) (fun h₁ hns₁ hsb₁ => ?_) hkind)
  dsimp only at hns₁ hsb₁ ⊢
  generalize hH2 : s₂.heap.push { cls := .type "list", dict := none, data := .seq ([] : List Value).toArray } = H2 at hns₁ hsb₁ ⊢
  have hC : H2.objs.size = s₂.heap.objs.size + 1 := by rw [← hH2, Heap.size_push]
  have hDC : s₂.heap.objs.size ≠ H2.objs.size := by rw [hC]; exact Nat.ne_of_lt (Nat.lt_succ_self _)
  have below : ∀ b, b < s₂.heap.objs.size → b ≠ H2.objs.size ∧ b ≠ s₂.heap.objs.size := fun b hb => ⟨by rw [hC]; exact Nat.ne_of_lt (Nat.lt_succ_of_lt hb), Nat.ne_of_lt hb⟩
  refine Exists.elim hst.1 fun old₀ hen => ?_
  have hit := hst.2
  have helt : e < s₂.heap.objs.size := Heap.lt_size hen
  have hitlt : it < s₂.heap.objs.size := by obtain ⟨o, ho, _⟩ := hit; exact Heap.lt_size ho
  have hllt : l < s₂.heap.objs.size := Heap.lt_size (N _ hl).1
  have old : ∀ b o, s₂.heap.get? b = some o → h₁.get? b = some o := fun b o e => hsb₁.extBut b o (below b (Heap.lt_size e)).1 (Heap.get?_push_of_some _ (hH2 ▸ Heap.get?_push_of_some _ e))
  have hacc : h₁.get? s₂.heap.objs.size = some (lst []) := hsb₁.extBut _ _ hDC (Heap.get?_push_of_some _ (hH2 ▸ Heap.get?_push_size _ rfl))
  have fresh : ∀ a, s₂.heap.objs.size ≤ a → s₂.heap.get? a = none := fun a ha => by
    cases e : s₂.heap.get? a with
    | none => rfl
    | some o' => exact absurd (Heap.lt_size e) (Nat.not_lt.mpr ha)
  have fresh₀ : ∀ a, s₂.heap.objs.size ≤ a → h₀.get? a = none := fun a ha => by
    cases e : h₀.get? a with
    | none => rfl
    | some o' => have := F.keep a o' e; rw [fresh a ha] at this; cases this
  have hD₀ : h₀.get? s₂.heap.objs.size = none := fresh₀ _ (Nat.le_refl _)
  have hC₀ : h₀.get? H2.objs.size = none := fresh₀ _ (by rw [hC]; exact Nat.le_succ _)
  have hLlt : L < s₂.heap.objs.size := F.ns.lt
  have hDL : s₂.heap.objs.size ≠ L := Ne.symm (below L hLlt).2
  have hCL : H2.objs.size ≠ L := Ne.symm (below L hLlt).1
  have hCe : e ≠ H2.objs.size := (below e helt).1
  have hDe : e ≠ s₂.heap.objs.size := (below e helt).2
  have hCi : it ≠ H2.objs.size := (below it hitlt).1
  have hDi : it ≠ s₂.heap.objs.size := (below it hitlt).2
  have hCl : l ≠ H2.objs.size := (below l hllt).1
  have offN : ∀ p ∈ news, p.1 ≠ H2.objs.size ∧ p.1 ≠ s₂.heap.objs.size := fun p hp => below _ (Heap.lt_size (N p hp).1)
  have W := KTurns.ofWalksU (elts := [.Name a pa, .Name b pb]) (k := kk) (pos := tp) (WalksT.enumerate (prog := prog) (w := w) hh e it l hei hle hli vs.toArray).toU
  have hvs : vs.toArray.size = vs.length := by simp
  rw [hvs] at W
  have loop : ∀ s₃ : Shared, s₃ = { s₂ with heap := h₁, toks := s₂.toks + ([] : List (Str × Value)).length } →
      codeAny (model prog w) A (.compLoop (.ListComp elt [⟨.Tuple [.Name a pa, .Name b pb] kk tp, iter, [c], 0⟩] scope pos) 0 (.ref e) (.ref s₂.heap.objs.size) (compEnvC scope cl' H2.objs.size env))
        (RR (.ref s₂.heap.objs.size) H2.objs.size) s₃ := by
    rintro s₃ rfl
    refine kct_loop (KceAt h₀ L m e it l s₂.heap.objs.size H2.objs.size vs news J s₂) ?_ (vs.length + 1)
      ⟨h₁, _, 0, [], _, rfl, Nat.zero_le _, rfl, Nat.le_refl _, ⟨⟨_, old _ _ hen⟩, hit.at fun o x => old it o x⟩, F.keeps old, hns₁, fun p hp => ?_, h0⟩
    · intro k s' hI
      obtain ⟨h', tk, i, ys, m', e', hi, ek, hyl, hst', F', hn', N', hJ⟩ := hI
      subst e'
      by_cases hlt : i < vs.length
      · refine W.item i _ _ _ hlt ⟨hst'.1, hst'.2, News.isList N' (.tail _ hl)⟩ fun v h₂ tk₂ hMd hk₂ => ?_
        refine W.go i v _ _ _ hMd fun h₃ hP hst₃ hk₃ => ?_
        have up₃ : ∀ c o, c ≠ e → c ≠ it → h'.get? c = some o → h₃.get? c = some o := fun c o hc hc' q => hk₃ c o (by simp [hc, hc']) (hk₂ c o (by simp [hc, hc']) q)
        obtain ⟨T, t, x, old₃, ev, hx', hT, hen₃, hit₃⟩ := kce_pair hP hst₃
        subst ev
        refine kcp_assign (env := compEnvC scope cl' H2.objs.size env) hh hT (lookup_relabel_local hxa) (lookup_relabel_local hxb) (by simp [compEnvC, relabel, hkind]) (hn'.at' fun o q => up₃ _ o (Ne.symm hCe) (Ne.symm hCi) q) fun h₄ tk₄ hn₄ hs₄ => ?_
        have S := kce_step (J := J) (s₂ := s₂) (vs := vs) (k := k) hIL hI₀ hC₀ hCL hDC hCe hDe hCi hDi off offN up₃ F' N' hn₄ hs₄ hen₃ hit₃
        refine Exists.elim S.oC fun oC hoC => ?_
        refine wpAny_mono (turn i x t ys H2.objs.size oC s₂.heap.objs.size _ h₄ _ _ hx' hJ hoC.2 (by simp [hab]) (by simp) S.F₄ (S.N₄ _ hoC.1)) (fun okb s₅ h₅ => ?_) fun _ _ q => q
        cases okb with
        | false =>
          refine Exists.elim h₅ fun tk₅ h₅ => ?_
          exact ⟨_, kce_lt ek hlt, S.fin tk₅ hlt (Nat.le_succ_of_le hyl) h₅.1 (fun _ _ _ q => q) (fun q hq => S.N₄ _ hoC.1 q (.tail _ hq)) S.F₄ h₅.2⟩
        | true =>
          refine wpAny_mono h₅ (fun y s₆ h₆ => ?_) fun _ _ q => q
          refine Exists.elim h₆ fun tk₅ hw₆ => ?_
          refine hw₆.1.symm ▸ ?_
          have zD := (S.N₄ _ hoC.1 (s₂.heap.objs.size, lst ys) (List.mem_cons_of_mem _ List.mem_cons_self)).1
          refine append_at (hsz := by show ys.toArray.size ≤ sizeLine; rw [List.size_toArray]; exact Nat.le_trans hyl (Nat.le_trans hi hsz)) zD fun h₆ hs₆ hD₆ => ?_
          exact ⟨_, kce_lt ek hlt, S.fin _ hlt (by rw [List.length_append, List.length_singleton]; exact Nat.succ_le_succ hyl) rfl (fun c o hc q => hs₆.extBut c o hc q) (kce_grow (S.N₄ _ hoC.1) hs₆ hD₆ hDL hD₀ offN) (S.F₄.change hs₆ hDL hD₀) hw₆.2⟩
      · have hin : i = vs.length := Nat.le_antisymm hi (Nat.not_lt.mp hlt)
        subst hin
        refine W.done _ _ _ ⟨hst'.1, hst'.2, News.isList N' (.tail _ hl)⟩ fun h₂ tk₂ hk₂ => ?_
        have up : ∀ c o, c ≠ e → c ≠ it → h'.get? c = some o → h₂.get? c = some o := fun c o h1 h2 q => hk₂ c o (by simp [h1, h2]) q
        exact hRR _ _ h₂ tk₂ _ ys (kce_fr hIL hI₀ F' up) (kce_news hDe hDi off N' up) (kce_off (fun p hp => (offN p hp).2)) (hn'.at' fun o q => up _ o (Ne.symm hCe) (Ne.symm hCi) q) hC₀ hD₀ hCL hDL (Ne.symm hDC) (fun p hp => (offN p hp).1) hJ
    · rcases List.mem_cons.mp hp with rfl | hp
      · exact ⟨hacc, hDL, hD₀⟩
      · exact ⟨old _ _ (N p hp).1, (N p hp).2⟩
  exact codeAny_compStart_list (loop _ rfl) (wpAny_pyIter_enum (old _ _ hen) (loop _ rfl))
noncomputable def KceTurn (prog : Program) (w : World) (A : Around) (h₀ : Heap) (L : Addr) (m : Str → Option Value) (env : Env) (c elt : PySem.Expr) (a b : Str) (scope : Scope) (cl' : List (Str × Addr)) (s₂ : Shared) (vs : List Value) (news : Led) (J : Nat → List Value → Prop) : Prop :=
  ∀ i x t ys C oC D m₂ h tk (E' : Value → Shared → Prop), vs[i]? = some x → J i ys → NsObj oC m₂ → m₂ a = some (.int (i : Int) t) → m₂ b = some x → Fr h₀ L h m → News h₀ L h ((C, oC) :: (D, lst ys) :: news) →
      wpAny (model prog w) A (isTrue c (compEnvC scope cl' C env) (eval c (compEnvC scope cl' C env))) (fun okb s₃ => if okb = true then
        wpAny (model prog w) A (eval elt (compEnvC scope cl' C env)) (fun y s₄ => ∃ tk', s₄ = { s₂ with heap := h, toks := tk' } ∧ J (i + 1) (ys ++ [y])) E' s₃
        else ∃ tk', s₃ = { s₂ with heap := h, toks := tk' } ∧ J (i + 1) ys) E' { s₂ with heap := h, toks := tk }
inductive KceSrc (prog : Program) (w : World) (A : Around) (h₀ : Heap) (L : Addr) (m : Str → Option Value) (env : Env) (c elt : PySem.Expr) (a b : Str) (scope : Scope) (cl' : List (Str × Addr)) (Fin : Shared → List Value → Led → Prop) (xv : Value) (s₁ : Shared) : Prop
  | mk (e it l : Addr) (vs : List Value) (n : Nat) (news : Led) (J : Nat → List Value → Prop) (p1 : xv = .ref e) (p2 : A.handled = none) (p3 : Fr h₀ L s₁.heap m) (p4 : News h₀ L s₁.heap news) (p5 : (l, listOf vs.toArray n) ∈ news) (p6 : vs.length ≤ sizeLine)
    (p7 : IsEnum s₁.heap e it 0 .none ∧ s₁.heap.IsListIter it l 0) (p8 : e ≠ it ∧ l ≠ e ∧ l ≠ it ∧ L ≠ e ∧ L ≠ it) (p9 : h₀.get? e = none ∧ h₀.get? it = none) (p10 : ∀ p ∈ news, p.1 ≠ e ∧ p.1 ≠ it) (p11 : J 0 [])
    (p12 : ∀ s₂ : Shared, KceTurn prog w A h₀ L m env c elt a b scope cl' s₂ vs news J)
    (p13 : ∀ ys, J vs.length ys → Fin s₁ ys news) : KceSrc prog w A h₀ L m env c elt a b scope cl' Fin xv s₁
theorem wp_eq {α : Type} {M : Model} {A : Around} {t t' : Sem α} {Q : α → Shared → Prop} (h : t = t') (k : wpAny M A t' Q E s) : wpAny M A t Q E s := h ▸ k
theorem kce_call {c elt : PySem.Expr} {a b : Str} {scope : Scope} {cl' : List (Str × Addr)} {A : Around} {env : Env} {l : Addr} {vs : List Value} {n : Nat} {news : Led} {Fin : Shared → List Value → Led → Prop} (J : Nat → List Value → Prop) (hh : A.handled = none) (F : Fr h₀ L s.heap m) (N : News h₀ L s.heap news) (hl : (l, listOf vs.toArray n) ∈ news) (hsz : vs.length ≤ 1000) (h0 : J 0 [])
    (turn : ∀ s₂ : Shared, KceTurn prog w A h₀ L m env c elt a b scope cl' s₂ vs news J)
    (fin : ∀ h' ys, J vs.length ys → Fin { s with heap := h' } ys news) :
    wpAny (model prog w) A (call (.type "enumerate") [.ref l]) (KceSrc prog w A h₀ L m env c elt a b scope cl' Fin) E s := by
  refine call_enumerate_list (N.isList hl) fun h' hE hI hs hk => ?_
  have lt : ∀ p ∈ news, p.1 < s.heap.objs.size := fun p hp => Heap.lt_size (N p hp).1
  have hllt := lt _ hl
  have hLlt : L < s.heap.objs.size := F.ns.lt
  have fresh₀ : ∀ a, s.heap.objs.size ≤ a → h₀.get? a = none := fun a ha => by
    cases e : h₀.get? a with
    | none => rfl
    | some o' => exact absurd (Heap.lt_size (F.keep a o' e)) (Nat.not_lt.mpr ha)
  refine ⟨s.heap.objs.size + 1, s.heap.objs.size, l, vs, n, news, J, rfl, hh, F.keeps hk, N.grown hk, hl, by rw [sizeLine_eq]; (first | lia | omega), ⟨hE, hI⟩, ⟨Nat.succ_ne_self _, Nat.ne_of_lt (Nat.lt_succ_of_lt hllt), Nat.ne_of_lt hllt, Nat.ne_of_lt (Nat.lt_succ_of_lt hLlt), Nat.ne_of_lt hLlt⟩, ⟨fresh₀ _ (Nat.le_succ _), fresh₀ _ (Nat.le_refl _)⟩, fun p hp => ⟨Nat.ne_of_lt (Nat.lt_succ_of_lt (lt p hp)), Nat.ne_of_lt (lt p hp)⟩, h0, turn, fun ys hJ => fin _ ys hJ⟩
theorem kce_set {env : Env} {h' h₂ : Heap} {m₂ : Str → Option Value} (hLe : env.locals = L) (F' : Fr h₀ L h' m) (hn₂ : h₂.Ns env.locals m₂) (hs₂ : Heap.SameBut env.locals h' h₂) : Fr h₀ L h₂ m₂ := by
  subst hLe
  have hL₀ : h₀.get? env.locals = none := Heap.get?_none_of_le F'.above
  exact ⟨hn₂, fun b o e => hs₂.extBut b o (fun q => by rw [q, hL₀] at e; cases e) (F'.keep b o e), F'.above⟩
theorem kce_news2 {env : Env} {h' h₂ h'' : Heap} {C D : Addr} {o : Obj} {news : Led} (hLe : env.locals = L) (hCD : C ≠ D) (offC : ∀ p ∈ news, p.1 ≠ C) (N' : News h₀ L h' ((D, o) :: news)) (hs₂ : Heap.SameBut env.locals h' h₂) (hs'' : Heap.SameBut C h₂ h'') : News h₀ L h'' ((D, o) :: news) := by
  subst hLe
  intro p hp
  have z : h₂.get? p.1 = some p.2 := hs₂.extBut _ _ (N' p hp).2.1 (N' p hp).1
  refine ⟨hs''.extBut _ _ ?_ z, (N' p hp).2⟩
  rcases List.mem_cons.mp hp with rfl | hp
  · exact Ne.symm hCD
  · exact offC p hp
theorem kce_Assign {elt iter c : PySem.Expr} {a b y : Str} {pa pb tp py : Pos} {kk : Nat} {scope : Scope} {cl' : List (Str × Addr)} {pos spos : Pos} {A : Around} {env : Env} {Q : Flow → Shared → Prop} {E : Value → Shared → Prop} (_F₀ : Fr h₀ L s.heap m) (hLe : env.locals = L)
    (hsw : swapsWith (.ListComp elt [⟨.Tuple [.Name a pa, .Name b pb] kk tp, iter, [c], 0⟩] scope pos) (some (.Name y py)) spos.line env = pure true)
    (hclos : closureFor scope env = pure cl') (hcell : ∀ y ∈ scope.names, y.2 ≠ .cell) (hkind : scope.kind = .function)
    (hnames : ∀ y ∈ scope.names, y.2 = .local → scope.names.lookup y.1 = some .local) (hxa : scope.names.lookup a = some .local) (hxb : scope.names.lookup b = some .local) (hab : ¬ a = b)
    (hy : env.kindOf y = some .local) (hp : (env.scope.kind == .class || (env.scope.kind == .module && env.locals != env.globals)) = false)
    (h : wpAny (model prog w) A (eval iter env) (KceSrc prog w A h₀ L m env c elt a b scope cl' (fun s₂ => FinA h₀ L m s₂ y Q)) E s)
    (hs : ∀ x, foldedSetIterable iter env x = pure x) :
    wpAny (model prog w) A (exec (.Assign [.Name y py] (.ListComp elt [⟨.Tuple [.Name a pa, .Name b pb] kk tp, iter, [c], 0⟩] scope pos) spos) env) Q E s := by
  refine wp_eq (exec_Assign_Name_used _ _ _ _ hsw) ?_
  refine wpAny_bind (wpAny_standAt (wpAny_bind ?_))
  refine (?_ : wpAny _ A (do let _ ← comprehension (.ListComp elt [⟨.Tuple [.Name a pa, .Name b pb] kk tp, iter, [c], 0⟩] scope pos) scope env _ (newList []) false (eval iter env) (some (assign (.Name y py) env))) _ _ s)
  refine wpAny_bind (wpAny_mono (wpAny_comprehension_free (use := some (assign (.Name y py) env)) (Q := fun _ s' => Q .next s') rfl hs hclos hkind hnames
    (wpAny_mono h (fun xv s₁ h₁ => ?_) fun _ _ e => e)) (fun _ s' hq => wpAny_pure (wpAny_pure hq)) fun _ _ e => e)
  obtain ⟨e, it, l, vs, n, news, J, ev, hh, F, N, hl, hsz, hst, hne, hI₀, off, h0, turn, fin⟩ := h₁
  subst ev
  refine wpAny_pyIter_enum hst.1 ?_
  refine kce_block J hh hne.1 hne.2.1 hne.2.2.1 hsz ⟨⟨_, hst.1⟩, hst.2⟩ hl hcell hkind hxa hxb hab F N hne.2.2.2 hI₀ off h0 (turn _) ?_
  intro D C h' tk m' ys F' N' o1 hn hC₀ hD₀ hCL hDL hCD offC hJ
  refine wpAny_assign_Name (wpAny_storeName_local hy (hLe ▸ F'.ns) (fun h₂ hn₂ hs₂ => ?_) hp)
  exact ⟨m', hn.sameBut hs₂ (hLe.symm ▸ hCL), fun h'' hs'' => fin ys hJ D h'' _ ((kce_set hLe F' hn₂ hs₂).change hs'' hCL hC₀) (kce_news2 hLe hCD offC N' hs₂ hs'') o1⟩
end

end
end
section
theorem rg56 : True := by
  k_with_none
  k_with "omega" => (first | decide | (with_reducible first | exact Int.natCast_nonneg _ | exact rm1 ‹_› (by decide) | exact rm2 ‹_› (by decide) | exact rm3 ‹_› (by decide) | exact om_le ‹_› (by decide) | exact om_63 ‹_› (by decide) | exact om_eqle ‹_› ‹_› (by decide) | exact om_eq63 ‹_› ‹_› (by decide) | exact om_add ‹_› (by decide) | exact om_ne ‹_› (by decide) | exact om_le2 ‹_› ‹_› (by decide) | exact om_le2s ‹_› ‹_› (by decide) | exact om_le2_63 ‹_› ‹_› (by decide) | exact om_le2s_63 ‹_› ‹_› (by decide) | exact om_z62 ‹_› (by decide) | exact om_zn62 | exact om_kle ‹_› (by decide) | exact om_neg1 | exact om_pos | exact om_at ‹_› (by decide) | exact om_at0 ‹_› | exact om_add63 ‹_› (by decide) | exact Nat.ne_of_gt (by k_extra "pick") | exact Nat.ne_of_lt (by k_extra "pick")) | lia)
  k_with "ktr_room" => (first | exact rm0 (by assumption) | exact rm1 (by assumption) (Nat.le_of_ble_eq_true rfl))
  k_with "k_ne" => ((refine neN ?_; (try dsimp only); first | exact Nat.ne_of_gt (by assumption) | exact Nat.ne_of_lt (by assumption) | exact Nat.ne_of_gt (And.left (by assumption)) | exact Nat.ne_of_lt (And.left (by assumption)) | exact Nat.ne_of_gt (And.left (And.right (by assumption))) | exact Nat.ne_of_lt (And.left (And.right (by assumption))) | exact Nat.ne_of_gt (And.right (by assumption)) | exact Nat.ne_of_lt (And.right (by assumption)) | exact Nat.ne_of_gt (And.left (And.right (And.right (by assumption)))) | exact Nat.ne_of_lt (And.left (And.right (And.right (by assumption)))) | exact Nat.ne_of_gt (And.right (And.right (by assumption))) | exact Nat.ne_of_lt (And.right (And.right (by assumption)))))
  k_with "pick" => (with_reducible first | assumption | exact And.left ‹_› | exact And.left (And.right ‹_›) | exact And.left (And.right (And.right ‹_›)) | exact And.left (And.right (And.right (And.right ‹_›))) | exact And.left (And.right (And.right (And.right (And.right ‹_›)))) | exact And.left (And.right (And.right (And.right (And.right (And.right ‹_›))))) | exact And.left (And.right (And.right (And.right (And.right (And.right (And.right ‹_›)))))) | exact And.left (And.right (And.right (And.right (And.right (And.right (And.right (And.right ‹_›))))))) | exact And.left (And.right (And.right (And.right (And.right (And.right (And.right (And.right (And.right ‹_›)))))))) | exact And.left (And.right (And.right (And.right (And.right (And.right (And.right (And.right (And.right (And.right ‹_›))))))))) | exact And.left (And.right (And.right (And.right (And.right (And.right (And.right (And.right (And.right (And.right (And.right ‹_›)))))))))) | exact (And.right ‹_›) | exact (And.right (And.right ‹_›)) | exact (And.right (And.right (And.right ‹_›))) | exact (And.right (And.right (And.right (And.right ‹_›)))) | exact (And.right (And.right (And.right (And.right (And.right ‹_›))))) | exact (And.right (And.right (And.right (And.right (And.right (And.right ‹_›)))))) | exact (And.right (And.right (And.right (And.right (And.right (And.right (And.right ‹_›))))))) | exact (And.right (And.right (And.right (And.right (And.right (And.right (And.right (And.right ‹_›)))))))) | exact (And.right (And.right (And.right (And.right (And.right (And.right (And.right (And.right (And.right ‹_›))))))))) | exact (And.right (And.right (And.right (And.right (And.right (And.right (And.right (And.right (And.right (And.right ‹_›)))))))))))
  k_with "k_room" => (((simp only [depth_under_make, depth_under_kw, depth_in1, depth_deeper, depth_caller]); omega))
  k_with "k_all" => (assumption)
  k_with "eval Name" => (k_here; dsimp only)
  k_with "eval Call" => (k_here; dsimp only)
  k_with "eval Constant int" => (k_here; dsimp only)
  k_with "eval Attribute Name" => (k_here; dsimp only)
  k_with "eval BinOp" => (k_here; dsimp only)
  k_with "storeName" => (k_here; dsimp only)
  k_with "setAttr ref" => (k_here; dsimp only)
  k_with "eval Compare" => (k_here; dsimp only)
  k_with "isTrue Compare" => (k_here; dsimp only)
  k_with "eval Subscript" => (k_here; dsimp only)
  k_with "execs cons" => (k_here; first | (with_reducible rename News _ _ _ _ => nZ9; dsimp only at nZ9) | dsimp only | ((with_reducible show wpAny _ _ _ _ _ (Shared.mk _ _ _ (HAdd.hAdd _ _) _)); refine gen_toks ?_; intro _))
  k_with "eval Name" => (k_here; (fail_if_success (with_reducible show wpAny _ _ (eval _ (compEnvC _ _ _ _)) _ _ _)); (try dsimp only); k_dflt (first | (refine' nameX_L ?q9F ?q9v ?_ ?q9a ?q9b; (case q9F => k_asm); (case q9a => rfl); (case q9b => rfl); (case q9v => rfl); k_whole) | (refine' nameX_K ?q9F ?q9X ?q9T ?q9e ?_ ?q9a ?q9b; (case q9F => k_asm); (case q9X => k_asm); (case q9T => k_asm); (case q9a => rfl); (case q9b => rfl); (case q9e => k_is); k_whole) | (refine' nameX_B ?q9F ?q9X ?q9T ?q9e ?q9v ?q9n ?_ ?q9a ?q9b; (case q9F => k_asm); (case q9X => k_asm); (case q9T => k_asm); (case q9a => rfl); (case q9b => rfl); (case q9e => k_is); (case q9v => boot_fast); (case q9n => decide); k_whole)))
  k_with "execs cons" => (k_here; (try (with_reducible rename News _ _ _ _ => nZ9; dsimp only at nZ9)); (try dsimp only); (try ((with_reducible show wpAny _ _ _ _ _ (Shared.mk _ _ _ (HAdd.hAdd _ _) _)); refine gen_toks ?_; intro _)); (with_reducible refine wpAny_execs_cons ?_); (try dsimp only))
  k_with "eval Constant int" => (k_here; (try dsimp only); refine wpAny_Constant_int ?_)
  k_with "spliced" => (k_here; (fail_if_success (with_reducible show wpAny _ _ (spliced (backTo _ (starEach (PySem.Expr.Starred _ _ :: _) _))) _ _ _)); k_dflt (first | refine args_cons ?_ | (refine args_nil ?_; try simp only [List.cons_append, List.nil_append])))
  k_with "subscriptTail" => (k_here; (with_reducible show wpAny _ _ (subscriptTail _ _ (Value.ref _) (Value.int _ _)) _ _ _); k_dflt (refine' item_tupleT ?q9t ?q9a ?q9b ?q9c ?q9d ?_; (case q9t => exact News.isTup (by k_asm) (by k_mem)); (case q9a => decide); (case q9b => decide); (case q9c => rfl); (case q9d => rfl); k_whole))
  k_with "storeName" => (k_here; (fail_if_success (with_reducible show wpAny _ _ (storeName _ _ (compEnvC _ _ _ _)) _ _ _)); (try dsimp only); k_dflt (refine' storeX_L ?q9F ?q9N ?_ ?q9a ?q9b; (case q9F => k_asm); (case q9N => k_asm); (case q9a => rfl); (case q9b => rfl); k_whole; intro z9h z9F z9N; (try k_sweep)))
  k_with "callWith ref" => (k_here; k_dflt (first | (refine' callWith_K ?q9a ?q9b ?_; (case q9a => k_asm); (case q9b => k_is); k_whole) | (refine' callWith_K0 ?q9a ?q9b ?_; (case q9a => k_in); (case q9b => k_is); k_whole) | (refine' callWith_M0 ?q9a ?q9b ?_; (case q9a => k_meth); (case q9b => k_is); k_whole; try dsimp only [List.nil_append, List.cons_append]) | (refine' callWith_M ?q9a ?q9b ?q9c ?q9d ?_; (case q9a => k_asm); (case q9b => k_asm); (case q9c => k_mem); (case q9d => k_is); k_whole)))
  k_with "truthy bool" => (with_reducible refine wpAny_truthy_bool ?_)
  k_with "k_mem" => first | with_reducible assumption | assumption
  k_with "subscriptTail" => (k_here; (with_reducible show wpAny _ _ (subscriptTail _ _ (Value.ref _) (Value.int _ _)) _ _ _); (with_unfolding_all refine' item_litK ?q9k1 ?q9k2 ?q9k3 ?q9k4 ?_ ?q9k6; (case q9k1 => exact News.isList (by k_asm) (by k_mem)); (case q9k2 => decide); (case q9k3 => decide); (case q9k4 => rfl); (case q9k6 => with_unfolding_all rfl); k_whole))
  k_with "callWith" => ((with_reducible show wpAny _ _ (callWith _ (Value.builtin _) (_ :: _) (backTo _ (starEach (_ :: _) _)) []) _ _ _); k_dflt (refine callWith_method1 ?_))
  trivial
section
variable {prog : Program} {w : World} {p : Program} {loose : List Str} {mean : ExcName → Option Value} {mg mb : Str → Option Value}
 {dp un : Nat} {gd : Option (List Code)} {cn : Str} {cs : Scope} {a : Addr} {ccd : Value} {cl : List (Str × Addr)} {outer : List Env} {A₀ : Around} {base h₀ : Heap} {L : Addr} {m : Str → Option Value} {s : Shared} {Q E : Value → Shared → Prop}
inductive All2 {α : Type} (R : Value → α → Prop) : List Value → List α → Prop
  | nil : All2 R [] []
  | cons {v : Value} {vs : List Value} {c : α} {cs : List α} : R v c → All2 R vs cs → All2 R (v :: vs) (c :: cs)
section
variable {α : Type} {R R' : Value → α → Prop}
theorem All2.imp {vs : List Value} {cs : List α} (h : All2 R vs cs) (hs : ∀ v c, R v c → R' v c) : All2 R' vs cs := by
  induction h with
  | nil => exact .nil
  | cons h _ ih => exact .cons (hs _ _ h) ih
theorem All2.length {vs : List Value} {cs : List α} (h : All2 R vs cs) : vs.length = cs.length := by
  induction h with
  | nil => rfl
  | cons _ _ ih => rw [List.length_cons, List.length_cons, ih]
theorem All2.append {vs vs' : List Value} {cs cs' : List α} (h : All2 R vs cs) (h' : All2 R vs' cs') : All2 R (vs ++ vs') (cs ++ cs') := by
  induction h with
  | nil => exact h'
  | cons a _ ih => exact .cons a ih
theorem All2.take {vs : List Value} {cs : List α} (h : All2 R vs cs) (k : Nat) : All2 R (vs.take k) (cs.take k) := by
  induction h generalizing k with
  | nil => simpa using .nil
  | cons a _ ih => cases k with
    | zero => exact .nil
    | succ k => exact .cons a (ih k)
theorem All2.drop {vs : List Value} {cs : List α} (h : All2 R vs cs) (k : Nat) : All2 R (vs.drop k) (cs.drop k) := by
  induction h generalizing k with
  | nil => simpa using .nil
  | cons a h ih => cases k with
    | zero => exact .cons a h
    | succ k => exact ih k
theorem All2.get {vs : List Value} {cs : List α} (h : All2 R vs cs) {k : Nat} {v : Value} (hk : vs[k]? = some v) : ∃ c, cs[k]? = some c ∧ R v c := by
  induction h generalizing k with
  | nil => cases hk
  | cons a h ih => cases k with
    | zero => cases hk; exact ⟨_, rfl, a⟩
    | succ k => exact ih hk
theorem All2.split : ∀ {a b : List α} {vs : List Value}, All2 R vs (a ++ b) → ∃ x y, vs = x ++ y ∧ All2 R x a ∧ All2 R y b
  | [], _, vs, h => ⟨[], vs, rfl, .nil, h⟩
  | c :: a, b, _, .cons h r => by
    obtain ⟨x, y, rfl, hx, hy⟩ := All2.split r
    exact ⟨_ :: x, y, rfl, .cons h hx, hy⟩
end
noncomputable def ColV (l : Led) (v : Value) (c : Col) : Prop := match c with
  | none => v = .none
  | some codes => ∃ x vs n, v = .ref x ∧ (x, tupO vs n) ∈ l ∧ IntsAre vs codes
theorem ColV.mono {l l' : Led} {v : Value} {c : Col} (h : ColV l v c) (hs : ∀ p ∈ l, p ∈ l') : ColV l' v c := by
  cases c with
  | none => exact h
  | some codes =>
    obtain ⟨x, vs, n, e, hm, hi⟩ := h
    exact ⟨x, vs, n, e, hs _ hm, hi⟩
noncomputable abbrev ColsV (l : Led) : List Value → List Col → Prop := All2 (ColV l)
theorem ColsV.mono {l l' : Led} {vs : List Value} {cs : List Col} (h : ColsV l vs cs) (hs : ∀ p ∈ l, p ∈ l') : ColsV l' vs cs := h.imp fun _ _ q => q.mono hs
noncomputable def headsC : Nat → List Col → List Int
  | _, [] => []
  | a, none :: r => headsC (a + 1) r
  | a, some _ :: r => (a : Int) :: headsC (a + 1) r
theorem headsC_snoc (c : Col) : ∀ (r : List Col) (a : Nat), headsC a (r ++ [c]) = headsC a r ++ (match c with | none => [] | some _ => [((a + r.length : Nat) : Int)])
  | [], a => by cases c <;> simp [headsC]
  | none :: r, a => by
    show headsC (a + 1) (r ++ [c]) = headsC (a + 1) r ++ _
    rw [headsC_snoc c r (a + 1)]
    have e : a + 1 + r.length = a + (none :: r : List Col).length := by simp; (first | lia | omega)
    rw [e]
  | some x :: r, a => by
    show (a : Int) :: headsC (a + 1) (r ++ [c]) = (a : Int) :: headsC (a + 1) r ++ _
    rw [headsC_snoc c r (a + 1)]
    have e : a + 1 + r.length = a + (some x :: r : List Col).length := by simp; (first | lia | omega)
    rw [e]; rfl
noncomputable def colsC (gs : List Glyph) : List Col := (cellsOf gs).map colOf
theorem colsC_snoc (gs : List Glyph) (g : Glyph) : colsC (gs ++ [g]) = colsC gs ++ (if g.2 then [some g.1, none] else [some g.1]) := by
  unfold colsC
  rw [cellsOf_append, List.map_append]
  congr 1
  obtain ⟨gc, gw⟩ := g
  cases gw <;> rfl
theorem headsC_cols (gs : List Glyph) (g : Glyph) : headsC 0 (colsC (gs ++ [g])) = headsC 0 (colsC gs) ++ [((colsC gs).length : Int)] := by
  rw [colsC_snoc]
  obtain ⟨gc, gw⟩ := g
  cases gw with
  | false =>
    show headsC 0 (colsC gs ++ [some gc]) = _
    rw [headsC_snoc, Nat.zero_add]
  | true =>
    show headsC 0 (colsC gs ++ [some gc, none]) = _
    have e : colsC gs ++ [some gc, none] = (colsC gs ++ [some gc]) ++ [none] := by simp
    rw [e, headsC_snoc, headsC_snoc, Nat.zero_add, List.append_nil]
theorem headsC_len : ∀ (r : List Col) (a : Nat), (headsC a r).length ≤ r.length
  | [], _ => Nat.le_refl _
  | none :: r, a => Nat.le_succ_of_le (headsC_len r (a + 1))
  | some _ :: r, a => Nat.succ_le_succ (headsC_len r (a + 1))
theorem ints_snoc {n : Int} : ∀ {ns : List Int} {vs : List Value}, IntsAre vs (ns ++ [n]) → ∃ xs t, vs = xs ++ [.int n t] ∧ IntsAre xs ns
  | [], _, .cons _ t .nil => ⟨[], t, rfl, .nil⟩
  | a :: ns, _, .cons _ t h => by
    obtain ⟨xs, t', rfl, hx⟩ := ints_snoc h
    exact ⟨_ :: xs, t', rfl, .cons _ _ hx⟩
theorem ints_shaped (ns : List Int) : SeqAt.shaped (.list (ns.map .int)) = true := by
  unfold SeqAt.shaped
  simp only [PyData.canLay0, PyData.depth, (ints_lay ns).1, (ints_lay ns).2]
  decide
theorem ints_ne_nil {A : Around} {news : Led} {vs : List Value} {ns : List Int} {a1 b1 : Addr} {n n' : Nat} (N : News h₀ L s.heap news) (ha : (a1, listOf vs.toArray n) ∈ news) (hb : (b1, listOf #[] n') ∈ news) (hi : IntsAre vs ns) (hu : A.units + 64 < cLine) {z : Bool} (hz : (!ns.isEmpty) = z) (h : Q (.bool z) s) : wpAny (model prog w) A (compareOp .NotEq (.ref a1) (.ref b1)) Q E s := by
  refine ne_dataH (reads_list_at (N.get ha) rfl rfl (ints_reads hi)) (reads_list_at (N.get hb) rfl rfl .nil) (ints_shaped ns) (by decide) hu ?_
  have e : (!PyData.eqv (.list (ns.map .int)) (.list [])) = !ns.isEmpty := by cases ns <;> rfl
  rw [e, hz]; exact h
theorem idx_mid {xv rest : List Value} {v : Value} : (xv ++ v :: rest)[((xv.length : Nat) : Int).toNat]? = some v := by
  rw [Int.toNat_natCast, List.getElem?_append_right (Nat.le_refl _), Nat.sub_self]; rfl
theorem set_mid {xv rest : List Value} {v x : Value} : (xv ++ v :: rest).set ((xv.length : Nat) : Int).toNat x = xv ++ x :: rest := by
  rw [Int.toNat_natCast, List.set_append_right _ _ (Nat.le_refl _), Nat.sub_self]; rfl
theorem frm_out {x z : Str} {v : Value} {stored : List Str} {m₀ u : Str → Option Value} (h1 : z ≠ x) (h2 : stored.contains z = false) : frm x v stored m₀ u z = m₀ z := by
  unfold frm
  rw [if_neg h1, h2]; rfl
theorem pull4 {h : Heap} {a b c d x : Addr × Obj} {T : Led} (N : News h₀ L h (a :: b :: c :: d :: x :: T)) : News h₀ L h (x :: ([a, b, c] ++ T)) := fun q hq => N q (by
  simp only [List.mem_cons, List.mem_append, List.cons_append, List.nil_append] at hq ⊢
  rcases hq with hq | hq | hq | hq | hq <;> simp only [hq, true_or, or_true])
theorem mem_mid {pre tl news : Led} {q : Addr × Obj} (hq : q ∈ tl ++ news) : q ∈ (pre ++ tl) ++ news :=
  (List.mem_append.mp hq).elim (fun h => List.mem_append.mpr (.inl (List.mem_append.mpr (.inr h)))) fun h => List.mem_append.mpr (.inr h)
theorem colsC_ctl {gs : List Glyph} {c : Int} (h : c < 32 ∨ c = 127) : colsC (putG gs c) = colsC gs := by
  unfold putG; rw [if_pos h]
theorem colsC_nar {gs : List Glyph} {c : Int} (h : 32 ≤ c ∧ c < 127) : colsC (putG gs c) = colsC gs ++ [some [c]] := by
  unfold putG; rw [if_neg (by (first | lia | omega)), if_neg (by (first | lia | omega)), decide_eq_false (by (first | lia | omega)), colsC_snoc]; rfl
theorem colsC_wid {gs : List Glyph} {c : Int} (h : 19968 ≤ c) : colsC (putG gs c) = colsC gs ++ [some [c], none] := by
  unfold putG; rw [if_neg (by (first | lia | omega)), if_neg (by (first | lia | omega)), decide_eq_true (by (first | lia | omega)), colsC_snoc]; rfl
theorem colsC_mark {gs : List Glyph} {g : Glyph} : colsC (putG (gs ++ [g]) 768) = colsC gs ++ (some (g.1 ++ [768]) :: (if g.2 then [none] else [])) := by
  unfold putG; rw [if_neg (by decide), if_pos rfl, markLast_snoc, colsC_snoc]
  obtain ⟨gc, gw⟩ := g
  cases gw <;> rfl
theorem rg57 : True := by
  k_with "k_mem" => first | with_reducible assumption | ((repeat (first | with_reducible assumption | exact List.Mem.head _ | exact List.mem_append_left _ (by with_reducible assumption) | refine List.Mem.tail _ ?_ | refine List.mem_append_right _ ?_ | assumption | refine m_tr (by with_reducible assumption) ?_)); done)
  k_with "ite" => first | (refine ite_pos (by first | omega | (simp only [beq_iff_eq, decide_eq_true_eq]; omega)) ?_; walk_say "BY OMEGA") | (refine ite_neg (by first | omega | (simp only [beq_iff_eq, decide_eq_true_eq]; omega)) ?_; walk_say "BY OMEGA")
  k_with "subscriptTail" => (k_here; (with_reducible show wpAny _ _ (subscriptTail _ _ (Value.ref _) (Value.int (-1) _)) _ _ _); (with_unfolding_all refine' item_negK ?q9zl ?q9zx ?_ ?q9zs; (case q9zl => exact News.isList (by k_asm) (by k_mem)); (case q9zx => first | exact idx_m1 | exact idx_m1c | exact rfl); (case q9zs => with_unfolding_all rfl); k_whole))
  k_with "setItem ref int" => (k_here; (with_reducible show wpAny _ _ (setItem (Value.ref _) (Value.int (-1) _) _) _ _ _); k_dflt (refine' led_setNeg ?q9zF ?q9zN ?q9za ?q9zb ?q9zc ?q9ze ?q9zU ?_; (case q9zF => k_asm); (case q9zN => k_asm); (case q9zU => k_upd); (case q9ze => first | exact set_m1 | exact set_m1c); (case q9za => decide); (case q9zb => decide); (case q9zc => ((try simp only [List.length_append, List.length_cons, List.length_nil]); omega))); intro _ _ _)
  k_with "setItem ref int" => (k_here; (with_reducible show wpAny _ _ (setItem (Value.ref _) (Value.int 0 _) _) _ _ _); k_dflt (refine' led_set ?q9zF ?q9zN ?q9za ?q9zb ?q9zc ?q9ze ?q9zU ?_; (case q9zF => k_asm); (case q9zN => k_asm); (case q9zU => k_upd); (case q9ze => exact set_head); (case q9za => decide); (case q9zb => decide); (case q9zc => ((try simp only [List.length_append, List.length_cons, List.length_nil]); omega))); intro _ _ _)
  k_with "compareOp NotEq ref ref" => (k_here; (with_reducible show wpAny _ _ (compareOp CmpOp.NotEq (Value.ref _) (Value.ref _)) _ _ _); k_dflt (refine' ints_ne_nil ?q9zN ?q9za ?q9zb ?q9zi ?q9zu ?q9zz ?_; (case q9zN => k_asm); (case q9za => k_mem); (case q9zb => k_mem); (case q9zi => assumption); (case q9zz => first | assumption | exact (rfl : _ = true) | exact (rfl : _ = false)); (case q9zu => (simp only [units_deeper]; (show _ + _ + _ < _); omega)); k_whole))
  k_with "subscriptTail" => (k_here; (with_reducible show wpAny _ _ (subscriptTail _ _ (Value.ref _) (Value.int ((List.length _ : Nat) : Int) _)) _ _ _); (with_unfolding_all refine' item_litK ?q9k1 ?q9k2 ?q9k3 ?q9k4 ?_ ?q9k6; (case q9k1 => exact News.isList (by k_asm) (by k_mem)); (case q9k2 => omega); (case q9k3 => omega); (case q9k4 => exact idx_mid); (case q9k6 => with_unfolding_all rfl); k_whole))
  k_with "setItem ref int" => (k_here; (with_reducible show wpAny _ _ (setItem (Value.ref _) (Value.int ((List.length _ : Nat) : Int) _) _) _ _ _); k_dflt (refine' led_set ?q9zF ?q9zN ?q9za ?q9zb ?q9zc ?q9ze ?q9zU ?_; (case q9zF => k_asm); (case q9zN => k_asm); (case q9zU => k_upd); (case q9ze => exact set_mid); (case q9za => omega); (case q9zb => omega); (case q9zc => ((try simp only [List.length_append, List.length_cons, List.length_nil]); omega))); intro _ _ _)
  k_with "binaryOp Add ref ref" => (k_here; k_dflt (refine' kde_addT ?q9k1 ?q9k2 ?q9k3 ?q9k4 ?q9k5 ?q9k6 ?q9k7 ?q9k8 ?_; (case q9k1 => k_asm); (case q9k2 => k_asm); (case q9k3 => exact News.isTup (by k_asm) (by k_mem)); (case q9k4 => exact News.isTup (by k_asm) (by k_mem)); (case q9k5 => assumption); (case q9k6 => exact List.cons_ne_nil _ _); (case q9k7 => ((simp only [List.length_cons, List.length_nil]); omega)); (case q9k8 => exact rfl); k_whole); intro _ _ _ _ z9l1; (try k_lt z9l1); (try k_sweep))
  k_with "call builtin:list.extend" => (k_here; (with_reducible show wpAny _ _ (call (Value.builtin _) [Value.ref _, Value.ref _]) _ _ _); k_dflt (refine' ext_any ?q9zF ?q9zN ?q9zb ?q9zU ?q9zz ?_; (case q9zF => k_asm); (case q9zN => k_asm); (case q9zb => k_mem); (case q9zU => k_updF); (case q9zz => ((simp only [List.length_cons, List.length_nil]); omega))); intro _ _ _ z9N'; (try dsimp only at z9N'))
  k_with "exec For Name Name cons nil" => (k_here; (rename Fr _ _ _ _ => z9lF'); (with_unfolding_all refine' For_invVF z9lF' ?q9k1 ?q9k2 ?_; (case q9k1 => exact rfl); (case q9k2 => exact rfl); k_whole))
  k_with "pyIter ref" => (refine stop_in ?_)
  k_with "exec Assign cons ListComp" => (k_here; k_dflt (refine kce_Assign (by k_asm) (by rfl) (by with_unfolding_all rfl) (by with_unfolding_all rfl) (by decide) (by rfl) (by decide) (by rfl) (by rfl) (by decide) (by rfl) (by rfl) ?_ (by intro _; rfl)))
  k_with "call type:enumerate" => ((with_reducible show wpAny _ _ (call (Value.type _) [Value.ref _]) (KceSrc _ _ _ _ _ _ _ _ _ _ _ _ _ _) _ _); refine stop_in ?_)
  trivial
theorem law_columns_ok {news : Led} {lc : Addr} {cvs : List Value} {codes : List Int} {nc : Nat} (B : Below A₀ base outer h₀) (F : Fr h₀ L s.heap m) (X : (Mine.frag.heap_1 w.params).In h₀) (N : News h₀ L s.heap news) (T : Top p loose mean mg mb h₀) (hk : cs.kind = .function)
   (hd : dp + 4 < recursionLimit) (hu : un + 120 < cLine)
   (hlc : (lc, listOf cvs.toArray nc) ∈ news) (hi : IntsAre cvs codes) (hok : ∀ c ∈ codes, OkCode c) (hl8 : codes.length ≤ 40)
   (hret : ∀ l vs n tl h' tk', Fr h₀ L h' m → News h₀ L h' ((l, listOf vs.toArray n) :: (tl ++ news)) → (∀ q ∈ news, q.1 < l) → (∀ p ∈ tl ++ news, p.1 ≠ l) → ColsV (tl ++ news) vs (colsC (putAll codes)) → Q (.ref l) { s with heap := h', toks := tk' }) :
   wpAny (model prog w) (ktrTop dp un gd cn cs L a ccd cl outer) (call (.ref 570) [.ref lc]) Q E s := by
  refine wpAny_call ?_
  k_dflt ktr_enter
  k_steps
  rename Fr _ _ _ _ => F1
  rename News _ _ _ _ => N1
  rename ∀ p : Addr × Obj, p ∈ news → _ => hlt
  refine loop_mut [Str.ofString "heads"] (fun i o tl => ∃ vs n, o = listOf vs.toArray n ∧ ColsV (tl ++ news) vs (colsC (putAll (codes.take i)))) (by rfl) hlc F1 N1 (fun p hp => Nat.ne_of_lt (hlt p hp)) ⟨[], 0, rfl, .nil⟩ ?_ ?_
  · rintro i v o tl u h tk own hv hne ⟨vs, n, rfl, hC⟩ F2 N2
    (try ((show wpAny _ _ _ _ _ _); k_fold))
    have hil : i < codes.length := by rw [← hi.length]; exact (List.getElem?_eq_some_iff.mp hv).1
    obtain ⟨t0, hx⟩ := hi.get i (codes[i]'hil) (List.getElem?_eq_getElem hil)
    have ev : v = .int (codes[i]'hil) t0 := by rw [hx] at hv; exact (Option.some.inj hv).symm
    subst ev
    have hok' : OkCode (codes[i]'hil) := hok _ (List.getElem_mem hil)
    have hnx := putAll_take (List.getElem?_eq_getElem hil)
    have hgl := (putAll_good0 (codes.take i)).1
    have hgg := (putAll_good0 (codes.take i)).2
    have htl : (codes.take i).length ≤ 40 := by rw [List.length_take]; omega
    generalize putAll (codes.take i) = gs at hC hnx hgl hgg
    generalize codes[i]'hil = c at *
    have hvl : vs.length ≤ 100 := by
      have h1 := hC.length
      have h2 : (colsC gs).length = (cellsOf gs).length := List.length_map _
      have h3 := cellsOf_len gs
      omega
    k_steps
    (show wpAny _ _ (call (Value.type "enumerate") _) _ _ _)
    refine kce_call (fun i ys => IntsAre ys (headsC 0 ((colsC gs).take i))) (by rfl) (by k_asm) (by k_asm) (.head _) (by omega) .nil ?_ ?_
    · intro s₂ i x t ys C oC D m₂ h tk E' hx2 hJ hns ha hb F3 N3
      (try ((show wpAny _ _ _ _ _ _); k_fold))
      obtain ⟨col, hcol, hcv⟩ := hC.get hx2
      have hsn : (colsC gs).take (i + 1) = (colsC gs).take i ++ [col] := by rw [List.take_add_one, hcol]; rfl
      have hil2 : i ≤ (colsC gs).length := Nat.le_of_lt (List.getElem?_eq_some_iff.mp hcol).1
      cases col with
      | none =>
        cases hcv
        k_steps
        show IntsAre ys (headsC 0 ((colsC gs).take (i + 1)))
        rw [hsn, headsC_snoc, List.append_nil]; exact hJ
      | some cc =>
        obtain ⟨x9, vs9, n9, rfl, hm9, hi9⟩ := hcv
        k_steps
        show IntsAre (ys ++ [_]) (headsC 0 ((colsC gs).take (i + 1)))
        have e9 : 0 + ((colsC gs).take i).length = i := by rw [List.length_take]; omega
        rw [hsn, headsC_snoc, e9]; exact hJ.append (.cons _ _ .nil)
    · refine fun h3 ys hJ D h tk F3 N3 o1 => ?_
      have hJ2 : IntsAre ys (headsC 0 (colsC gs)) := by
        have e9 : (colsC gs).take vs.length = colsC gs := List.take_of_length_le (Nat.le_of_eq hC.length.symm)
        rw [e9] at hJ; exact hJ
      have hlD := o1.1
      have hDl := Ne.symm hlD
      have hysl := hJ2.length
      have hhl := headsC_len (colsC gs) 0
      have hcgl := hC.length
      replace N3 : News _ _ h ((D, listOf ys.toArray ys.length) :: (_, listOf vs.toArray n) :: (tl ++ (news ++ own))) := N3
      clear hJ
      dsimp only
      rcases hok' with hc | hc | hc | hc | hc
      · k_steps
        all_goals first | (rename News _ _ _ _ => kN; refine ⟨_, _, _, _, [], rfl, by assumption, fun z h1 h2 => ?_, news_sub kN ?_, above_nil, vs, n, rfl, ?_⟩; (· rw [if_neg (contains_ne h2 (by simp))]; exact frm_out h1 h2); (· intro q hq; (repeat (first | exact hq | refine List.Mem.tail _ ?_))); (· rw [hnx, colsC_ctl (by omega)]; exact hC)) | (exfalso; rename List.any [127, 768] _ = _ => ha; simp only [List.any_cons, List.any_nil, Bool.or_false, Bool.or_eq_true, Bool.or_eq_false_iff, beq_iff_eq, beq_eq_false_iff_ne] at ha; omega)
      · k_steps
        all_goals first | (rename News _ _ _ _ => kN; refine ⟨_, _, _, _, [], rfl, by assumption, fun z h1 h2 => ?_, news_sub kN ?_, above_nil, vs, n, rfl, ?_⟩; (· rw [if_neg (contains_ne h2 (by simp))]; exact frm_out h1 h2); (· intro q hq; (repeat (first | exact hq | refine List.Mem.tail _ ?_))); (· rw [hnx, colsC_ctl (by omega)]; exact hC)) | (exfalso; rename List.any [127, 768] _ = _ => ha; simp only [List.any_cons, List.any_nil, Bool.or_false, Bool.or_eq_true, Bool.or_eq_false_iff, beq_iff_eq, beq_eq_false_iff_ne] at ha; omega)
      · have hcol := colsC_nar (gs := gs) hc
        k_steps
        all_goals try (exfalso; rename List.any [127, 768] _ = _ => ha; simp only [List.any_cons, List.any_nil, Bool.or_false, Bool.or_eq_true, Bool.or_eq_false_iff, beq_iff_eq, beq_eq_false_iff_ne] at ha; omega)
        all_goals (rename News _ _ _ _ => kN; refine ⟨_, _, _, _, _, rfl, by assumption, fun z h1 h2 => ?_, pull4 kN, above_cons (allLt_cons (by k_extra "pick") (by k_extra "pick")) (above_cons (allLt_cons (by k_extra "pick") (by k_extra "pick")) (above_cons (allLt_cons (by k_extra "pick") (by k_extra "pick")) above_nil)), _, _, rfl, ?_⟩; (· rw [if_neg (contains_ne h2 (by simp))]; exact frm_out h1 h2); (· rw [hnx, hcol]; exact All2.append (ColsV.mono hC fun q hq => mem_mid hq) (.cons ⟨_, _, _, rfl, .tail _ (.head _), .cons _ _ .nil⟩ .nil)))
      · subst hc
        rcases List.eq_nil_or_concat gs with rfl | ⟨r, g, rfl⟩
        · cases hC
          cases hJ2
          have hE : (!(headsC 0 (colsC [])).isEmpty) = false := rfl
          k_steps
          all_goals first | (rename News _ _ _ _ => kN; refine ⟨_, _, _, _, [], rfl, by assumption, fun z h1 h2 => ?_, news_sub kN ?_, above_nil, [], n, rfl, ?_⟩; (· rw [if_neg (contains_ne h2 (by simp))]; exact frm_out h1 h2); (· intro q hq; (repeat (first | exact hq | refine List.Mem.tail _ ?_))); (· rw [hnx, show colsC (putG [] 768) = colsC [] from rfl]; exact .nil))
        · rw [List.concat_eq_append] at *
          have hgg1 := hgg g (List.mem_append.mpr (.inr (List.mem_singleton.mpr rfl)))
          rw [headsC_cols] at hJ2
          obtain ⟨ysr, tk9, rfl, hysr⟩ := ints_snoc hJ2
          rw [colsC_snoc] at hC
          obtain ⟨xv, yv, rfl, hxv, hyv⟩ := hC.split
          have hxl := hxv.length
          have hcgr : (colsC r).length = (cellsOf r).length := List.length_map _
          have hcr := cellsOf_len r
          have hrl : r.length ≤ 40 := by rw [List.length_append] at hgl; omega
          have hE : (!(headsC 0 (colsC r) ++ [((colsC r).length : Int)]).isEmpty) = true := by cases headsC 0 (colsC r) <;> rfl
          rw [← hxl] at N3 hJ2 hE
          obtain ⟨gc, gw⟩ := g
          cases gw with
          | false =>
            cases hyv with
            | cons h1 hy =>
              cases hy
              obtain ⟨x1, vs1, n1, rfl, hm1, hi1⟩ := h1
              have hl1 := hi1.length
              have hl1b : vs1.length ≤ 40 := by rw [hl1]; exact Nat.le_trans hgg1.2 htl
              have hv1 : vs1.toArray.toList ≠ [] := by
                intro e
                have e2 : vs1 = [] := by simpa using e
                rw [e2] at hl1
                exact hgg1.1 (List.eq_nil_of_length_eq_zero hl1.symm)
              have hm1' : (x1, tupO vs1 n1) ∈ tl ++ (news ++ own) := (List.mem_append.mp hm1).elim (fun h => List.mem_append.mpr (.inl h)) fun h => List.mem_append.mpr (.inr (List.mem_append.mpr (.inl h)))
              k_steps
              rename News _ _ _ _ => kN
              refine ⟨_, _, _, _, _, rfl, by assumption, fun z h1 h2 => ?_, pull4 kN, above_cons (allLt_cons (by k_extra "pick") (by k_extra "pick")) (above_cons (allLt_cons (by k_extra "pick") (by k_extra "pick")) (above_cons (allLt_cons (by k_extra "pick") (by k_extra "pick")) above_nil)), _, _, rfl, ?_⟩
              · rw [if_neg (contains_ne h2 (by simp))]; exact frm_out h1 h2
              · rw [hnx, colsC_mark]
                exact All2.append (ColsV.mono hxv fun q hq => mem_mid hq) (.cons ⟨_, _, _, rfl, .head _, hi1.append (.cons _ _ .nil)⟩ .nil)
          | true =>
            cases hyv with
            | cons h1 hy =>
              cases hy with
              | cons h2 hy =>
                cases hy
                cases h2
                obtain ⟨x1, vs1, n1, rfl, hm1, hi1⟩ := h1
                have hl1 := hi1.length
                have hl1b : vs1.length ≤ 40 := by rw [hl1]; exact Nat.le_trans hgg1.2 htl
                have hv1 : vs1.toArray.toList ≠ [] := by
                  intro e
                  have e2 : vs1 = [] := by simpa using e
                  rw [e2] at hl1
                  exact hgg1.1 (List.eq_nil_of_length_eq_zero hl1.symm)
                have hm1' : (x1, tupO vs1 n1) ∈ tl ++ (news ++ own) := (List.mem_append.mp hm1).elim (fun h => List.mem_append.mpr (.inl h)) fun h => List.mem_append.mpr (.inr (List.mem_append.mpr (.inl h)))
                k_steps
                rename News _ _ _ _ => kN
                refine ⟨_, _, _, _, _, rfl, by assumption, fun z h1 h2 => ?_, pull4 kN, above_cons (allLt_cons (by k_extra "pick") (by k_extra "pick")) (above_cons (allLt_cons (by k_extra "pick") (by k_extra "pick")) (above_cons (allLt_cons (by k_extra "pick") (by k_extra "pick")) above_nil)), _, _, rfl, ?_⟩
                · rw [if_neg (contains_ne h2 (by simp))]; exact frm_out h1 h2
                · rw [hnx, colsC_mark]
                  exact All2.append (ColsV.mono hxv fun q hq => mem_mid hq) (.cons ⟨_, _, _, rfl, .head _, hi1.append (.cons _ _ .nil)⟩ (.cons rfl .nil))
      · have hcol := colsC_wid (gs := gs) hc.1
        k_steps
        all_goals try (exfalso; rename List.any [127, 768] _ = _ => ha; simp only [List.any_cons, List.any_nil, Bool.or_false, Bool.or_eq_true, Bool.or_eq_false_iff, beq_iff_eq, beq_eq_false_iff_ne] at ha; omega)
        all_goals (rename News _ _ _ _ => kN; refine ⟨_, _, _, _, _, rfl, by assumption, fun z h1 h2 => ?_, pull4 kN, above_cons (allLt_cons (by k_extra "pick") (by k_extra "pick")) (above_cons (allLt_cons (by k_extra "pick") (by k_extra "pick")) (above_cons (allLt_cons (by k_extra "pick") (by k_extra "pick")) above_nil)), _, _, rfl, ?_⟩; (· rw [if_neg (contains_ne h2 (by simp))]; exact frm_out h1 h2); (· rw [hnx, hcol]; exact All2.append (ColsV.mono hC fun q hq => mem_mid hq) (.cons ⟨_, _, _, rfl, .tail _ (.head _), .cons _ _ .nil⟩ (.cons rfl .nil))))
  · rintro o tl h tk u hne ⟨vs, n, rfl, hC⟩ F2 N2
    rw [hi.length, List.take_length] at hC
    k_steps
    rename News _ _ _ _ => kN
    exact hret _ _ _ _ _ _ (by assumption) kN hlt hne hC

end
end
section
theorem rg58 : True := by
  k_with_none
  k_with "omega" => (first | decide | (with_reducible first | exact Int.natCast_nonneg _ | exact rm1 ‹_› (by decide) | exact rm2 ‹_› (by decide) | exact rm3 ‹_› (by decide) | exact om_le ‹_› (by decide) | exact om_63 ‹_› (by decide) | exact om_eqle ‹_› ‹_› (by decide) | exact om_eq63 ‹_› ‹_› (by decide) | exact om_add ‹_› (by decide) | exact om_ne ‹_› (by decide) | exact om_le2 ‹_› ‹_› (by decide) | exact om_le2s ‹_› ‹_› (by decide) | exact om_le2_63 ‹_› ‹_› (by decide) | exact om_le2s_63 ‹_› ‹_› (by decide) | exact om_z62 ‹_› (by decide) | exact om_zn62 | exact om_kle ‹_› (by decide) | exact om_neg1 | exact om_pos | exact om_at ‹_› (by decide) | exact om_at0 ‹_› | exact om_add63 ‹_› (by decide) | exact Nat.ne_of_gt (by k_extra "pick") | exact Nat.ne_of_lt (by k_extra "pick")))
  k_with "ktr_room" => (first | exact rm0 (by assumption) | exact rm1 (by assumption) (Nat.le_of_ble_eq_true rfl))
  k_with "k_ne" => ((refine neN ?_; (try dsimp only); first | exact Nat.ne_of_gt (by assumption) | exact Nat.ne_of_lt (by assumption) | exact Nat.ne_of_gt (And.left (by assumption)) | exact Nat.ne_of_lt (And.left (by assumption)) | exact Nat.ne_of_gt (And.left (And.right (by assumption))) | exact Nat.ne_of_lt (And.left (And.right (by assumption))) | exact Nat.ne_of_gt (And.right (by assumption)) | exact Nat.ne_of_lt (And.right (by assumption)) | exact Nat.ne_of_gt (And.left (And.right (And.right (by assumption)))) | exact Nat.ne_of_lt (And.left (And.right (And.right (by assumption)))) | exact Nat.ne_of_gt (And.right (And.right (by assumption))) | exact Nat.ne_of_lt (And.right (And.right (by assumption)))))
  k_with "pick" => (with_reducible first | assumption | exact And.left ‹_› | exact And.left (And.right ‹_›) | exact And.left (And.right (And.right ‹_›)) | exact And.left (And.right (And.right (And.right ‹_›))) | exact And.left (And.right (And.right (And.right (And.right ‹_›)))) | exact And.left (And.right (And.right (And.right (And.right (And.right ‹_›))))) | exact And.left (And.right (And.right (And.right (And.right (And.right (And.right ‹_›)))))) | exact And.left (And.right (And.right (And.right (And.right (And.right (And.right (And.right ‹_›))))))) | exact And.left (And.right (And.right (And.right (And.right (And.right (And.right (And.right (And.right ‹_›)))))))) | exact And.left (And.right (And.right (And.right (And.right (And.right (And.right (And.right (And.right (And.right ‹_›))))))))) | exact And.left (And.right (And.right (And.right (And.right (And.right (And.right (And.right (And.right (And.right (And.right ‹_›)))))))))) | exact (And.right ‹_›) | exact (And.right (And.right ‹_›)) | exact (And.right (And.right (And.right ‹_›))) | exact (And.right (And.right (And.right (And.right ‹_›)))) | exact (And.right (And.right (And.right (And.right (And.right ‹_›))))) | exact (And.right (And.right (And.right (And.right (And.right (And.right ‹_›)))))) | exact (And.right (And.right (And.right (And.right (And.right (And.right (And.right ‹_›))))))) | exact (And.right (And.right (And.right (And.right (And.right (And.right (And.right (And.right ‹_›)))))))) | exact (And.right (And.right (And.right (And.right (And.right (And.right (And.right (And.right (And.right ‹_›))))))))) | exact (And.right (And.right (And.right (And.right (And.right (And.right (And.right (And.right (And.right (And.right ‹_›)))))))))))
  k_with "k_room" => (((simp only [depth_under_make, depth_under_kw, depth_in1, depth_deeper, depth_caller]); omega))
  k_with "k_all" => (assumption)
  k_with "eval Name" => (k_here; dsimp only)
  k_with "eval Call" => (k_here; dsimp only)
  k_with "eval Constant int" => (k_here; dsimp only)
  k_with "eval Attribute Name" => (k_here; dsimp only)
  k_with "eval BinOp" => (k_here; dsimp only)
  k_with "storeName" => (k_here; dsimp only)
  k_with "setAttr ref" => (k_here; dsimp only)
  k_with "eval Compare" => (k_here; dsimp only)
  k_with "isTrue Compare" => (k_here; dsimp only)
  k_with "eval Subscript" => (k_here; dsimp only)
  k_with "execs cons" => (k_here; first | (with_reducible rename News _ _ _ _ => nZ9; dsimp only at nZ9) | dsimp only | ((with_reducible show wpAny _ _ _ _ _ (Shared.mk _ _ _ (HAdd.hAdd _ _) _)); refine gen_toks ?_; intro _))
  k_with "eval Name" => (k_here; (fail_if_success (with_reducible show wpAny _ _ (eval _ (compEnvC _ _ _ _)) _ _ _)); (try dsimp only); k_dflt (first | (refine' nameX_L ?q9F ?q9v ?_ ?q9a ?q9b; (case q9F => k_asm); (case q9a => rfl); (case q9b => rfl); (case q9v => rfl); k_whole) | (refine' nameX_K ?q9F ?q9X ?q9T ?q9e ?_ ?q9a ?q9b; (case q9F => k_asm); (case q9X => k_asm); (case q9T => k_asm); (case q9a => rfl); (case q9b => rfl); (case q9e => k_is); k_whole) | (refine' nameX_B ?q9F ?q9X ?q9T ?q9e ?q9v ?q9n ?_ ?q9a ?q9b; (case q9F => k_asm); (case q9X => k_asm); (case q9T => k_asm); (case q9a => rfl); (case q9b => rfl); (case q9e => k_is); (case q9v => boot_fast); (case q9n => decide); k_whole)))
  k_with "execs cons" => (k_here; (try (with_reducible rename News _ _ _ _ => nZ9; dsimp only at nZ9)); (try dsimp only); (try ((with_reducible show wpAny _ _ _ _ _ (Shared.mk _ _ _ (HAdd.hAdd _ _) _)); refine gen_toks ?_; intro _)); (with_reducible refine wpAny_execs_cons ?_); (try dsimp only))
  k_with "eval Constant int" => (k_here; (try dsimp only); refine wpAny_Constant_int ?_)
  k_with "spliced" => (k_here; (fail_if_success (with_reducible show wpAny _ _ (spliced (backTo _ (starEach (PySem.Expr.Starred _ _ :: _) _))) _ _ _)); k_dflt (first | refine args_cons ?_ | (refine args_nil ?_; try simp only [List.cons_append, List.nil_append])))
  k_with "subscriptTail" => (k_here; (with_reducible show wpAny _ _ (subscriptTail _ _ (Value.ref _) (Value.int _ _)) _ _ _); k_dflt (refine' item_tupleT ?q9t ?q9a ?q9b ?q9c ?q9d ?_; (case q9t => exact News.isTup (by k_asm) (by k_mem)); (case q9a => decide); (case q9b => decide); (case q9c => rfl); (case q9d => rfl); k_whole))
  k_with "storeName" => (k_here; (fail_if_success (with_reducible show wpAny _ _ (storeName _ _ (compEnvC _ _ _ _)) _ _ _)); (try dsimp only); k_dflt (refine' storeX_L ?q9F ?q9N ?_ ?q9a ?q9b; (case q9F => k_asm); (case q9N => k_asm); (case q9a => rfl); (case q9b => rfl); k_whole; intro z9h z9F z9N; (try k_sweep)))
  k_with "callWith ref" => (k_here; k_dflt (first | (refine' callWith_K ?q9a ?q9b ?_; (case q9a => k_asm); (case q9b => k_is); k_whole) | (refine' callWith_K0 ?q9a ?q9b ?_; (case q9a => k_in); (case q9b => k_is); k_whole) | (refine' callWith_M0 ?q9a ?q9b ?_; (case q9a => k_meth); (case q9b => k_is); k_whole; try dsimp only [List.nil_append, List.cons_append]) | (refine' callWith_M ?q9a ?q9b ?q9c ?q9d ?_; (case q9a => k_asm); (case q9b => k_asm); (case q9c => k_mem); (case q9d => k_is); k_whole)))
  k_with "truthy bool" => (with_reducible refine wpAny_truthy_bool ?_)
  k_with "k_mem" => first | with_reducible assumption | assumption
  k_with "subscriptTail" => (k_here; (with_reducible show wpAny _ _ (subscriptTail _ _ (Value.ref _) (Value.int _ _)) _ _ _); (with_unfolding_all refine' item_litK ?q9k1 ?q9k2 ?q9k3 ?q9k4 ?_ ?q9k6; (case q9k1 => exact News.isList (by k_asm) (by k_mem)); (case q9k2 => decide); (case q9k3 => decide); (case q9k4 => rfl); (case q9k6 => with_unfolding_all rfl); k_whole))
  k_with "callWith" => ((with_reducible show wpAny _ _ (callWith _ (Value.builtin _) (_ :: _) (backTo _ (starEach (_ :: _) _)) []) _ _ _); k_dflt (refine callWith_method1 ?_))
  trivial
section
variable {prog : Program} {w : World} {p : Program} {loose : List Str} {mean : ExcName → Option Value} {mg mb : Str → Option Value}
 {dp un : Nat} {gd : Option (List Code)} {cn : Str} {cs : Scope} {a : Addr} {ccd : Value} {cl : List (Str × Addr)} {outer : List Env} {A₀ : Around} {base h₀ : Heap} {L : Addr} {m : Str → Option Value} {s : Shared} {Q E : Value → Shared → Prop}
noncomputable def colP : Col → PyData
  | none => .none
  | some codes => .tuple (codes.map .int)
theorem ColV.reads {h : Heap} {news : Led} {v : Value} {c : Col} (N : News h₀ L h news) (hc : ColV news v c) : Reads h v (colP c) [] := by
  cases c with
  | none =>
    have e : v = .none := hc
    subst e; exact Reads.none
  | some codes =>
    obtain ⟨x, vs, n, rfl, hx, hi⟩ := hc
    exact reads_tuple_at (N.get hx) rfl rfl (ints_reads hi)
theorem ColsV.reads {h : Heap} {news : Led} (N : News h₀ L h news) : ∀ {vs : List Value} {cs : List Col}, ColsV news vs cs → ReadsAll h vs (cs.map colP) []
  | _, _, .nil => .nil
  | _, _, .cons hc r => readsAll_cons_val (ColV.reads N hc) (ColsV.reads N r)
theorem col_lay (c : Col) : (colP c).canLay0 = true ∧ (colP c).depth ≤ 2 := by
  cases c with
  | none => exact ⟨rfl, by simp [colP, PyData.depth]⟩
  | some codes =>
    unfold colP
    simp only [PyData.canLay0, PyData.depth, (ints_lay codes).1, (ints_lay codes).2]
    decide
theorem cols_lay : ∀ cs : List Col, PyData.canLayAll0 (cs.map colP) = true ∧ PyData.depthAll (cs.map colP) ≤ 2
  | [] => by simp [PyData.canLayAll0, PyData.depthAll]
  | c :: cs => by
    have := cols_lay cs
    have h1 := col_lay c
    simp only [List.map_cons, PyData.canLayAll0, PyData.depthAll, h1.1, this.1]
    refine ⟨rfl, ?_⟩
    (first | lia | omega)
theorem cols_shaped (cs : List Col) : SeqAt.shaped (.list (cs.map colP)) = true := by
  have := cols_lay cs
  unfold SeqAt.shaped
  simp only [PyData.canLay0, PyData.depth, this.1, Bool.true_and]
  exact decide_eq_true (by have := this.2; (first | lia | omega))
theorem cols_ne_nil {A : Around} {news : Led} {vs : List Value} {cc : List Col} {a1 b1 : Addr} {n n' : Nat} (N : News h₀ L s.heap news) (ha : (a1, listOf vs.toArray n) ∈ news) (hb : (b1, listOf #[] n') ∈ news) (hC : ColsV news vs cc) (hu : A.units + 64 < cLine) {z : Bool} (hz : (!cc.isEmpty) = z) (h : Q (.bool z) s) : wpAny (model prog w) A (compareOp .NotEq (.ref a1) (.ref b1)) Q E s := by
  refine ne_dataH (reads_list_at (N.get ha) rfl rfl (hC.reads N)) (reads_list_at (N.get hb) rfl rfl .nil) (cols_shaped cc) (by decide) hu ?_
  have e : (!PyData.eqv (.list (cc.map colP)) (.list [])) = !cc.isEmpty := by
    cases cc <;> rfl
  rw [e, hz]; exact h
theorem colV_empty {l : Led} {x : Addr} {n : Nat} (h : (x, tupO [] n) ∈ l) : ColV l (.ref x) (some []) := ⟨x, [], n, rfl, h, .nil⟩
noncomputable def nextNone : Option Col → Bool
  | some none => true
  | _ => false
theorem cols_eq_none {A : Around} {news n₁ : Led} {vs : List Value} {cc : List Col} {a1 b1 : Addr} {n n' : Nat} (N : News h₀ L s.heap news) (ha : (a1, listOf vs.toArray n) ∈ news) (hb : (b1, listOf #[.none] n') ∈ news) (hC : ColsV n₁ vs cc) (hs : ∀ q ∈ n₁, q ∈ news) (hl : cc.length ≤ 1) (hu : A.units + 64 < cLine) {z : Bool} (hz : nextNone cc[0]? = z) (h : Q (.bool z) s) : wpAny (model prog w) A (compareOp .Eq (.ref a1) (.ref b1)) Q E s := by
  refine eq_dataH (reads_list_at (N.get ha) rfl rfl ((hC.mono hs).reads N)) (reads_list_at (N.get hb) rfl rfl (readsAll_cons_val Reads.none .nil)) (cols_shaped cc) (by decide) hu ?_
  have e : PyData.eqv (.list (cc.map colP)) (.list [.none]) = nextNone cc[0]? := by
    cases cc with
    | nil => rfl
    | cons c r =>
      cases r with
      | nil => cases c <;> rfl
      | cons d r => simp at hl
  rw [e, hz]; exact h
theorem pick_nn {vs : List Value} {x y : Int} {lo hi : Nat} (hx : x = lo) (hy : y = hi) : kms_pick vs.toArray.toList (some x) (some y) = (vs.take hi).drop lo := by
  have := pick_ll (vs := vs) hx hy
  rw [show (if x > 0 then x else 0) = x by split <;> (first | lia | omega), show (if y > 0 then y else 0) = y by split <;> (first | lia | omega)] at this
  exact this
theorem next_slice (cols : List Col) (hi : Nat) : ((cols.take (hi + 1)).drop hi)[0]? = cols[hi]? := by
  rw [List.getElem?_drop, List.getElem?_take, Nat.add_zero, if_pos (Nat.lt_succ_self _)]
theorem next_len (cols : List Col) (hi : Nat) : ((cols.take (hi + 1)).drop hi).length ≤ 1 := by
  rw [List.length_drop, List.length_take]; (first | lia | omega)
theorem rg59 : True := by
  k_with "k_mem" => first | with_reducible assumption | ((repeat (first | with_reducible assumption | exact List.Mem.head _ | exact List.mem_append_left _ (by with_reducible assumption) | refine List.Mem.tail _ ?_ | refine List.mem_append_right _ ?_ | assumption | refine m_tr (by with_reducible assumption) ?_)); done)
  k_with "ite" => first | (refine ite_pos (by first | omega | (simp only [beq_iff_eq, decide_eq_true_eq]; omega)) ?_; walk_say "BY OMEGA") | (refine ite_neg (by first | omega | (simp only [beq_iff_eq, decide_eq_true_eq]; omega)) ?_; walk_say "BY OMEGA")
  k_with "subscriptTail" => (k_here; (with_reducible show wpAny _ _ (subscriptTail _ _ (Value.ref _) (Value.int (-1) _)) _ _ _); (with_unfolding_all refine' item_negK ?q9zl ?q9zx ?_ ?q9zs; (case q9zl => exact News.isList (by k_asm) (by k_mem)); (case q9zx => first | exact idx_m1 | exact idx_m1c | exact rfl); (case q9zs => with_unfolding_all rfl); k_whole))
  k_with "setItem ref int" => (k_here; (with_reducible show wpAny _ _ (setItem (Value.ref _) (Value.int (-1) _) _) _ _ _); k_dflt (refine' led_setNeg ?q9zF ?q9zN ?q9za ?q9zb ?q9zc ?q9ze ?q9zU ?_; (case q9zF => k_asm); (case q9zN => k_asm); (case q9zU => k_upd); (case q9ze => first | exact set_m1 | exact set_m1c); (case q9za => decide); (case q9zb => decide); (case q9zc => ((try simp only [List.length_append, List.length_cons, List.length_nil]); omega))); intro _ _ _)
  k_with "setItem ref int" => (k_here; (with_reducible show wpAny _ _ (setItem (Value.ref _) (Value.int 0 _) _) _ _ _); k_dflt (refine' led_set ?q9zF ?q9zN ?q9za ?q9zb ?q9zc ?q9ze ?q9zU ?_; (case q9zF => k_asm); (case q9zN => k_asm); (case q9zU => k_upd); (case q9ze => exact set_head); (case q9za => decide); (case q9zb => decide); (case q9zc => ((try simp only [List.length_append, List.length_cons, List.length_nil]); omega))); intro _ _ _)
  k_with "compareOp NotEq ref ref" => (k_here; (with_reducible show wpAny _ _ (compareOp CmpOp.NotEq (Value.ref _) (Value.ref _)) _ _ _); k_dflt (refine' cols_ne_nil ?q9zN ?q9za ?q9zb ?q9zC ?q9zu ?q9zz ?_; (case q9zN => k_asm); (case q9za => k_mem); (case q9zb => k_mem); (case q9zC => first | exact .nil | exact .cons (ColV.mono (by assumption) (by (intro z9qq z9hqq; k_mem))) .nil | exact .cons (colV_empty (by k_mem)) .nil | exact .cons (ColV.mono (by assumption) (by (intro z9qq z9hqq; k_mem))) (All2.append (ColsV.mono (by assumption) (by (intro z9qq z9hqq; k_mem))) (.cons (ColV.mono (by assumption) (by (intro z9qq z9hqq; k_mem))) .nil)) | exact .cons (colV_empty (by k_mem)) (All2.append (ColsV.mono (by assumption) (by (intro z9qq z9hqq; k_mem))) (.cons (ColV.mono (by assumption) (by (intro z9qq z9hqq; k_mem))) .nil))); (case q9zz => first | exact (rfl : _ = true) | exact (rfl : _ = false)); (case q9zu => (simp only [units_deeper]; (show _ + _ + _ < _); omega)); k_whole))
  k_with "compareOp Eq ref ref" => (k_here; (with_reducible show wpAny _ _ (compareOp CmpOp.Eq (Value.ref _) (Value.ref _)) _ _ _); k_dflt (refine' cols_eq_none ?q9zN ?q9za ?q9zb ?q9zC ?q9zs ?q9zl ?q9zu ?q9zz ?_; (case q9zN => k_asm); (case q9za => k_mem); (case q9zb => k_mem); (case q9zC => assumption); (case q9zs => (intro _ _; k_mem)); (case q9zl => assumption); (case q9zz => assumption); (case q9zu => (simp only [units_deeper]; (show _ + _ + _ < _); omega)); k_whole))
  k_with "subscriptTail Name Slice ref ref" => (k_here; (with_reducible show wpAny _ _ (subscriptTail _ (PySem.Expr.Slice (some _) (some _) none _) (Value.ref _) (Value.ref _)) _ _ _); k_dflt (refine' kms_slice_lit ?q9zF ?q9zN ?q9zl ?q9zp ?q9zq ?q9ze ?_ ?q9zs ?q9zt ?q9zz; (case q9zF => k_asm); (case q9zN => k_asm); (case q9zl => exact News.isList (by k_asm) (by k_mem)); (case q9zp => kmk_part); (case q9zq => kmk_part); (case q9ze => first | exact (pick_nn (by assumption) (by assumption)).trans (by assumption) | exact pick_nn (by assumption) (by assumption)); (case q9zs => with_unfolding_all rfl); (case q9zt => kmk_pure); (case q9zz => ((simp only [List.size_toArray, sizeLine_eq]); omega))); intro _ _ _ _ z9l1; (try k_lt z9l1); (try k_sweep))
  trivial
theorem law_cut_nil {news : Led} {lc : Addr} {cvs : List Value} {nc lo hi t0 t1 : Nat} {left right : Int} (B : Below A₀ base outer h₀) (F : Fr h₀ L s.heap m) (X : (Mine.frag.heap_1 w.params).In h₀) (N : News h₀ L s.heap news) (T : Top p loose mean mg mb h₀) (hk : cs.kind = .function)
   (hd : dp + 3 < recursionLimit) (hu : un + 100 < cLine)
   (hlc : (lc, listOf cvs.toArray nc) ∈ news) (hl8 : cvs.length ≤ 200) (hle : left = lo) (hri : right = hi) (hlo : lo ≤ 1000) (hhi : hi ≤ 1000)
   (hv : (cvs.take hi).drop lo = []) (hC : ColsV news [] [])
   (hret : ∀ l vs n news' h' tk', Fr h₀ L h' m → News h₀ L h' news' → (∀ q ∈ news, q ∈ news') → (l, listOf vs.toArray n) ∈ news' → ColsV news' vs ([]) → Q (.ref l) { s with heap := h', toks := tk' }) :
   wpAny (model prog w) (ktrTop dp un gd cn cs L a ccd cl outer) (call (.ref 577) [.ref lc, .int left t0, .int right t1]) Q E s := by
  refine wpAny_call ?_
  k_dflt ktr_enter
  k_steps
  rename News _ _ _ _ => kN
  exact hret _ _ _ _ _ _ (by assumption) kN (by (intro qq hqq; first | exact hqq | simp only [List.mem_cons, List.mem_append, hqq, or_true, true_or])) (by k_mem) .nil
theorem law_cut_one {news : Led} {lc : Addr} {cvs nvs : List Value} {ncol : List Col} {nc lo hi t0 t1 : Nat} {left right : Int} {u : Value} {c : Col} (B : Below A₀ base outer h₀) (F : Fr h₀ L s.heap m) (X : (Mine.frag.heap_1 w.params).In h₀) (N : News h₀ L s.heap news) (T : Top p loose mean mg mb h₀) (hk : cs.kind = .function)
   (hd : dp + 3 < recursionLimit) (hu : un + 100 < cLine)
   (hlc : (lc, listOf cvs.toArray nc) ∈ news) (hl8 : cvs.length ≤ 200) (hle : left = lo) (hri : right = hi) (hlo : lo ≤ 1000) (hhi : hi ≤ 1000)
   (hv : (cvs.take hi).drop lo = [u]) (hc : ColV news u c) (hnv : (cvs.take (hi + 1)).drop hi = nvs) (hnC : ColsV news nvs ncol) (hnl : ncol.length ≤ 1) {z : Bool} (hnz : nextNone ncol[0]? = z)
   (hret : ∀ l vs n news' h' tk', Fr h₀ L h' m → News h₀ L h' news' → (∀ q ∈ news, q ∈ news') → (l, listOf vs.toArray n) ∈ news' → ColsV news' vs (if z then fixLastP (fixFirstP [c]) else fixFirstP [c]) → Q (.ref l) { s with heap := h', toks := tk' }) :
   wpAny (model prog w) (ktrTop dp un gd cn cs L a ccd cl outer) (call (.ref 577) [.ref lc, .int left t0, .int right t1]) Q E s := by
  have hri1 : right + 1 = ((hi + 1 : Nat) : Int) := by omega
  cases c with
  | none =>
    have e : u = .none := hc
    subst e
    cases z
    all_goals
      refine wpAny_call ?_
      k_dflt ktr_enter
      k_steps
      rename News h₀ _ _ _ => kN
      first | exact hret _ _ _ _ _ _ (by assumption) kN (by (intro qq hqq; first | exact hqq | simp only [List.mem_cons, List.mem_append, hqq, or_true, true_or])) (by k_mem) (.cons (colV_empty (by k_mem)) .nil)
  | some codes =>
    have hc0 := hc
    obtain ⟨x0, vs0, n0, rfl, hm0, hi0⟩ := hc0
    cases z
    all_goals
      refine wpAny_call ?_
      k_dflt ktr_enter
      k_steps
      rename News h₀ _ _ _ => kN
      first | exact hret _ _ _ _ _ _ (by assumption) kN (by (intro qq hqq; first | exact hqq | simp only [List.mem_cons, List.mem_append, hqq, or_true, true_or])) (by k_mem) (.cons (ColV.mono hc (by (intro qq hqq; first | exact hqq | simp only [List.mem_cons, List.mem_append, hqq, or_true, true_or]))) .nil) | exact hret _ _ _ _ _ _ (by assumption) kN (by (intro qq hqq; first | exact hqq | simp only [List.mem_cons, List.mem_append, hqq, or_true, true_or])) (by k_mem) (.cons (colV_empty (by k_mem)) .nil)
theorem law_cut_two {news : Led} {lc : Addr} {cvs nvs r : List Value} {ncol rc : List Col} {nc lo hi t0 t1 : Nat} {left right : Int} {u v : Value} {c d : Col} (B : Below A₀ base outer h₀) (F : Fr h₀ L s.heap m) (X : (Mine.frag.heap_1 w.params).In h₀) (N : News h₀ L s.heap news) (T : Top p loose mean mg mb h₀) (hk : cs.kind = .function)
   (hd : dp + 3 < recursionLimit) (hu : un + 100 < cLine)
   (hlc : (lc, listOf cvs.toArray nc) ∈ news) (hl8 : cvs.length ≤ 200) (hle : left = lo) (hri : right = hi) (hlo : lo ≤ 1000) (hhi : hi ≤ 1000)
   (hv : (cvs.take hi).drop lo = u :: (r ++ [v])) (hc : ColV news u c) (hr : ColsV news r rc) (hcd : ColV news v d) (hnv : (cvs.take (hi + 1)).drop hi = nvs) (hnC : ColsV news nvs ncol) (hnl : ncol.length ≤ 1) {z : Bool} (hnz : nextNone ncol[0]? = z)
   (hret : ∀ l vs n news' h' tk', Fr h₀ L h' m → News h₀ L h' news' → (∀ q ∈ news, q ∈ news') → (l, listOf vs.toArray n) ∈ news' → ColsV news' vs (if z then fixLastP (fixFirstP (c :: (rc ++ [d]))) else fixFirstP (c :: (rc ++ [d]))) → Q (.ref l) { s with heap := h', toks := tk' }) :
   wpAny (model prog w) (ktrTop dp un gd cn cs L a ccd cl outer) (call (.ref 577) [.ref lc, .int left t0, .int right t1]) Q E s := by
  have hri1 : right + 1 = ((hi + 1 : Nat) : Int) := by omega
  have hrl : r.length ≤ 200 := by
    have e := congrArg List.length hv
    simp only [List.length_drop, List.length_take, List.length_cons, List.length_append] at e
    omega
  have sn : ∀ c : Col, fixLastP (c :: (rc ++ [d])) = c :: (rc ++ [lastP d]) := fun c => fixLastP_snoc d (c :: rc)
  cases c with
  | none =>
    have e : u = .none := hc
    subst e
    have f0 : fixFirstP (none :: (rc ++ [d])) = some [] :: (rc ++ [d]) := rfl
    rw [f0, sn] at hret
    cases d with
    | none =>
      have e : v = .none := hcd
      subst e
      have hret := hret
      simp only [lastP, ite_self] at hret
      refine wpAny_call ?_
      k_dflt ktr_enter
      k_steps
      rename News h₀ _ _ _ => kN
      first | exact hret _ _ _ _ _ _ (by assumption) kN (by (intro qq hqq; first | exact hqq | simp only [List.mem_cons, List.mem_append, hqq, or_true, true_or])) (by k_mem) (.cons (colV_empty (by k_mem)) (All2.append (ColsV.mono hr (by (intro qq hqq; first | exact hqq | simp only [List.mem_cons, List.mem_append, hqq, or_true, true_or]))) (.cons rfl .nil)))
    | some codes =>
      have hc0 := hcd
      obtain ⟨x0, vs0, n0, rfl, hm0, hi0⟩ := hc0
      cases z
      · refine wpAny_call ?_
        k_dflt ktr_enter
        k_steps
        rename News h₀ _ _ _ => kN
        first | exact hret _ _ _ _ _ _ (by assumption) kN (by (intro qq hqq; first | exact hqq | simp only [List.mem_cons, List.mem_append, hqq, or_true, true_or])) (by k_mem) (.cons (colV_empty (by k_mem)) (All2.append (ColsV.mono hr (by (intro qq hqq; first | exact hqq | simp only [List.mem_cons, List.mem_append, hqq, or_true, true_or]))) (.cons (ColV.mono hcd (by (intro qq hqq; first | exact hqq | simp only [List.mem_cons, List.mem_append, hqq, or_true, true_or]))) .nil)))
      · refine wpAny_call ?_
        k_dflt ktr_enter
        k_steps
        rename News h₀ _ _ _ => kN
        first | exact hret _ _ _ _ _ _ (by assumption) kN (by (intro qq hqq; first | exact hqq | simp only [List.mem_cons, List.mem_append, hqq, or_true, true_or])) (by k_mem) (.cons (colV_empty (by k_mem)) (All2.append (ColsV.mono hr (by (intro qq hqq; first | exact hqq | simp only [List.mem_cons, List.mem_append, hqq, or_true, true_or]))) (.cons (colV_empty (by k_mem)) .nil)))
  | some codes0 =>
    have hc1 := hc
    obtain ⟨x1, vs1, n1, rfl, hm1, hi1⟩ := hc1
    have f0 : fixFirstP (some codes0 :: (rc ++ [d])) = some codes0 :: (rc ++ [d]) := rfl
    rw [f0, sn] at hret
    cases d with
    | none =>
      have e : v = .none := hcd
      subst e
      have hret := hret
      simp only [lastP, ite_self] at hret
      refine wpAny_call ?_
      k_dflt ktr_enter
      k_steps
      rename News h₀ _ _ _ => kN
      first | exact hret _ _ _ _ _ _ (by assumption) kN (by (intro qq hqq; first | exact hqq | simp only [List.mem_cons, List.mem_append, hqq, or_true, true_or])) (by k_mem) (.cons (ColV.mono hc (by (intro qq hqq; first | exact hqq | simp only [List.mem_cons, List.mem_append, hqq, or_true, true_or]))) (All2.append (ColsV.mono hr (by (intro qq hqq; first | exact hqq | simp only [List.mem_cons, List.mem_append, hqq, or_true, true_or]))) (.cons rfl .nil)))
    | some codes =>
      have hc0 := hcd
      obtain ⟨x0, vs0, n0, rfl, hm0, hi0⟩ := hc0
      cases z
      · refine wpAny_call ?_
        k_dflt ktr_enter
        k_steps
        rename News h₀ _ _ _ => kN
        first | exact hret _ _ _ _ _ _ (by assumption) kN (by (intro qq hqq; first | exact hqq | simp only [List.mem_cons, List.mem_append, hqq, or_true, true_or])) (by k_mem) (.cons (ColV.mono hc (by (intro qq hqq; first | exact hqq | simp only [List.mem_cons, List.mem_append, hqq, or_true, true_or]))) (All2.append (ColsV.mono hr (by (intro qq hqq; first | exact hqq | simp only [List.mem_cons, List.mem_append, hqq, or_true, true_or]))) (.cons (ColV.mono hcd (by (intro qq hqq; first | exact hqq | simp only [List.mem_cons, List.mem_append, hqq, or_true, true_or]))) .nil)))
      · refine wpAny_call ?_
        k_dflt ktr_enter
        k_steps
        rename News h₀ _ _ _ => kN
        first | exact hret _ _ _ _ _ _ (by assumption) kN (by (intro qq hqq; first | exact hqq | simp only [List.mem_cons, List.mem_append, hqq, or_true, true_or])) (by k_mem) (.cons (ColV.mono hc (by (intro qq hqq; first | exact hqq | simp only [List.mem_cons, List.mem_append, hqq, or_true, true_or]))) (All2.append (ColsV.mono hr (by (intro qq hqq; first | exact hqq | simp only [List.mem_cons, List.mem_append, hqq, or_true, true_or]))) (.cons (colV_empty (by k_mem)) .nil)))
theorem law_cut_ok {news : Led} {lc : Addr} {cvs : List Value} {cols : List Col} {nc lo hi t0 t1 : Nat} {left right : Int} (B : Below A₀ base outer h₀) (F : Fr h₀ L s.heap m) (X : (Mine.frag.heap_1 w.params).In h₀) (N : News h₀ L s.heap news) (T : Top p loose mean mg mb h₀) (hk : cs.kind = .function)
   (hd : dp + 3 < recursionLimit) (hu : un + 100 < cLine)
   (hlc : (lc, listOf cvs.toArray nc) ∈ news) (hC : ColsV news cvs cols) (hl8 : cvs.length ≤ 200) (hle : left = lo) (hri : right = hi) (hlo : lo ≤ 1000) (hhi : hi ≤ 1000)
   (hret : ∀ l vs n news' h' tk', Fr h₀ L h' m → News h₀ L h' news' → (∀ q ∈ news, q ∈ news') → (l, listOf vs.toArray n) ∈ news' → ColsV news' vs (cutP cols lo hi) → Q (.ref l) { s with heap := h', toks := tk' }) :
   wpAny (model prog w) (ktrTop dp un gd cn cs L a ccd cl outer) (call (.ref 577) [.ref lc, .int left t0, .int right t1]) Q E s := by
  have hS := (hC.take hi).drop lo
  have hN := (hC.take (hi + 1)).drop hi
  have hnl := next_len cols hi
  have hns := next_slice cols hi
  have hnz : nextNone ((cols.take (hi + 1)).drop hi)[0]? = decide (cols[hi]? = some none) := by
    rw [hns]
    cases cols[hi]? with
    | none => rfl
    | some c => cases c <;> rfl
  have hcut : cutP cols lo hi = if decide (cols[hi]? = some none) = true then fixLastP (fixFirstP ((cols.take hi).drop lo)) else fixFirstP ((cols.take hi).drop lo) := by
    unfold cutP
    by_cases h : cols[hi]? = some none
    · rw [if_pos h, if_pos (decide_eq_true h)]
    · rw [if_neg h, if_neg (by simp [h])]
  rw [hcut] at hret
  generalize decide (cols[hi]? = some none) = z at hnz hret
  generalize (cols.take (hi + 1)).drop hi = ncol at hN hnl hnz
  generalize hfv : (cvs.take hi).drop lo = fv at hS
  generalize (cols.take hi).drop lo = fc at hS hret
  cases hS with
  | nil =>
    have e : (if z = true then fixLastP (fixFirstP []) else fixFirstP []) = ([] : List Col) := by cases z <;> rfl
    rw [e] at hret
    exact law_cut_nil B F X N T hk hd hu hlc hl8 hle hri hlo hhi hfv .nil hret
  | cons hc hr =>
    rename_i v vs c cs'
    rcases List.eq_nil_or_concat cs' with rfl | ⟨rc, d, rfl⟩
    · cases hr
      exact law_cut_one B F X N T hk hd hu hlc hl8 hle hri hlo hhi hfv hc rfl hN hnl hnz hret
    · rw [List.concat_eq_append] at hr hret
      obtain ⟨x, y, rfl, hx, hy⟩ := hr.split
      cases hy with
      | cons hv hy =>
        cases hy
        exact law_cut_two B F X N T hk hd hu hlc hl8 hle hri hlo hhi hfv hc hx hv rfl hN hnl hnz hret

end
end
section
theorem rg60 : True := by
  k_with_none
  k_with "omega" => (first | decide | (with_reducible first | exact Int.natCast_nonneg _ | exact rm1 ‹_› (by decide) | exact rm2 ‹_› (by decide) | exact rm3 ‹_› (by decide) | exact om_le ‹_› (by decide) | exact om_63 ‹_› (by decide) | exact om_eqle ‹_› ‹_› (by decide) | exact om_eq63 ‹_› ‹_› (by decide) | exact om_add ‹_› (by decide) | exact om_ne ‹_› (by decide) | exact om_le2 ‹_› ‹_› (by decide) | exact om_le2s ‹_› ‹_› (by decide) | exact om_le2_63 ‹_› ‹_› (by decide) | exact om_le2s_63 ‹_› ‹_› (by decide) | exact om_z62 ‹_› (by decide) | exact om_zn62 | exact om_kle ‹_› (by decide) | exact om_neg1 | exact om_pos | exact om_at ‹_› (by decide) | exact om_at0 ‹_› | exact om_add63 ‹_› (by decide) | exact Nat.ne_of_gt (by k_extra "pick") | exact Nat.ne_of_lt (by k_extra "pick")))
  k_with "ktr_room" => (first | exact rm0 (by assumption) | exact rm1 (by assumption) (Nat.le_of_ble_eq_true rfl))
  k_with "k_ne" => ((refine neN ?_; (try dsimp only); first | exact Nat.ne_of_gt (by assumption) | exact Nat.ne_of_lt (by assumption) | exact Nat.ne_of_gt (And.left (by assumption)) | exact Nat.ne_of_lt (And.left (by assumption)) | exact Nat.ne_of_gt (And.left (And.right (by assumption))) | exact Nat.ne_of_lt (And.left (And.right (by assumption))) | exact Nat.ne_of_gt (And.right (by assumption)) | exact Nat.ne_of_lt (And.right (by assumption)) | exact Nat.ne_of_gt (And.left (And.right (And.right (by assumption)))) | exact Nat.ne_of_lt (And.left (And.right (And.right (by assumption)))) | exact Nat.ne_of_gt (And.right (And.right (by assumption))) | exact Nat.ne_of_lt (And.right (And.right (by assumption)))))
  k_with "pick" => (with_reducible first | assumption | exact And.left ‹_› | exact And.left (And.right ‹_›) | exact And.left (And.right (And.right ‹_›)) | exact And.left (And.right (And.right (And.right ‹_›))) | exact And.left (And.right (And.right (And.right (And.right ‹_›)))) | exact And.left (And.right (And.right (And.right (And.right (And.right ‹_›))))) | exact And.left (And.right (And.right (And.right (And.right (And.right (And.right ‹_›)))))) | exact And.left (And.right (And.right (And.right (And.right (And.right (And.right (And.right ‹_›))))))) | exact And.left (And.right (And.right (And.right (And.right (And.right (And.right (And.right (And.right ‹_›)))))))) | exact And.left (And.right (And.right (And.right (And.right (And.right (And.right (And.right (And.right (And.right ‹_›))))))))) | exact And.left (And.right (And.right (And.right (And.right (And.right (And.right (And.right (And.right (And.right (And.right ‹_›)))))))))) | exact (And.right ‹_›) | exact (And.right (And.right ‹_›)) | exact (And.right (And.right (And.right ‹_›))) | exact (And.right (And.right (And.right (And.right ‹_›)))) | exact (And.right (And.right (And.right (And.right (And.right ‹_›))))) | exact (And.right (And.right (And.right (And.right (And.right (And.right ‹_›)))))) | exact (And.right (And.right (And.right (And.right (And.right (And.right (And.right ‹_›))))))) | exact (And.right (And.right (And.right (And.right (And.right (And.right (And.right (And.right ‹_›)))))))) | exact (And.right (And.right (And.right (And.right (And.right (And.right (And.right (And.right (And.right ‹_›))))))))) | exact (And.right (And.right (And.right (And.right (And.right (And.right (And.right (And.right (And.right (And.right ‹_›)))))))))))
  k_with "k_room" => (((simp only [depth_under_make, depth_under_kw, depth_in1, depth_deeper, depth_caller]); omega))
  k_with "k_all" => (assumption)
  k_with "eval Name" => (k_here; dsimp only)
  k_with "eval Call" => (k_here; dsimp only)
  k_with "eval Constant int" => (k_here; dsimp only)
  k_with "eval Attribute Name" => (k_here; dsimp only)
  k_with "eval BinOp" => (k_here; dsimp only)
  k_with "storeName" => (k_here; dsimp only)
  k_with "setAttr ref" => (k_here; dsimp only)
  k_with "eval Compare" => (k_here; dsimp only)
  k_with "isTrue Compare" => (k_here; dsimp only)
  k_with "eval Subscript" => (k_here; dsimp only)
  k_with "execs cons" => (k_here; first | (with_reducible rename News _ _ _ _ => nZ9; dsimp only at nZ9) | dsimp only | ((with_reducible show wpAny _ _ _ _ _ (Shared.mk _ _ _ (HAdd.hAdd _ _) _)); refine gen_toks ?_; intro _))
  k_with "eval Name" => (k_here; (fail_if_success (with_reducible show wpAny _ _ (eval _ (compEnvC _ _ _ _)) _ _ _)); (try dsimp only); k_dflt (first | (refine' nameX_L ?q9F ?q9v ?_ ?q9a ?q9b; (case q9F => k_asm); (case q9a => rfl); (case q9b => rfl); (case q9v => rfl); k_whole) | (refine' nameX_K ?q9F ?q9X ?q9T ?q9e ?_ ?q9a ?q9b; (case q9F => k_asm); (case q9X => k_asm); (case q9T => k_asm); (case q9a => rfl); (case q9b => rfl); (case q9e => k_is); k_whole) | (refine' nameX_B ?q9F ?q9X ?q9T ?q9e ?q9v ?q9n ?_ ?q9a ?q9b; (case q9F => k_asm); (case q9X => k_asm); (case q9T => k_asm); (case q9a => rfl); (case q9b => rfl); (case q9e => k_is); (case q9v => boot_fast); (case q9n => decide); k_whole)))
  k_with "execs cons" => (k_here; (try (with_reducible rename News _ _ _ _ => nZ9; dsimp only at nZ9)); (try dsimp only); (try ((with_reducible show wpAny _ _ _ _ _ (Shared.mk _ _ _ (HAdd.hAdd _ _) _)); refine gen_toks ?_; intro _)); (with_reducible refine wpAny_execs_cons ?_); (try dsimp only))
  k_with "eval Constant int" => (k_here; (try dsimp only); refine wpAny_Constant_int ?_)
  k_with "spliced" => (k_here; (fail_if_success (with_reducible show wpAny _ _ (spliced (backTo _ (starEach (PySem.Expr.Starred _ _ :: _) _))) _ _ _)); k_dflt (first | refine args_cons ?_ | (refine args_nil ?_; try simp only [List.cons_append, List.nil_append])))
  k_with "subscriptTail" => (k_here; (with_reducible show wpAny _ _ (subscriptTail _ _ (Value.ref _) (Value.int _ _)) _ _ _); k_dflt (refine' item_tupleT ?q9t ?q9a ?q9b ?q9c ?q9d ?_; (case q9t => exact News.isTup (by k_asm) (by k_mem)); (case q9a => decide); (case q9b => decide); (case q9c => rfl); (case q9d => rfl); k_whole))
  k_with "storeName" => (k_here; (fail_if_success (with_reducible show wpAny _ _ (storeName _ _ (compEnvC _ _ _ _)) _ _ _)); (try dsimp only); k_dflt (refine' storeX_L ?q9F ?q9N ?_ ?q9a ?q9b; (case q9F => k_asm); (case q9N => k_asm); (case q9a => rfl); (case q9b => rfl); k_whole; intro z9h z9F z9N; (try k_sweep)))
  k_with "callWith ref" => (k_here; k_dflt (first | (refine' callWith_K ?q9a ?q9b ?_; (case q9a => k_asm); (case q9b => k_is); k_whole) | (refine' callWith_K0 ?q9a ?q9b ?_; (case q9a => k_in); (case q9b => k_is); k_whole) | (refine' callWith_M0 ?q9a ?q9b ?_; (case q9a => k_meth); (case q9b => k_is); k_whole; try dsimp only [List.nil_append, List.cons_append]) | (refine' callWith_M ?q9a ?q9b ?q9c ?q9d ?_; (case q9a => k_asm); (case q9b => k_asm); (case q9c => k_mem); (case q9d => k_is); k_whole)))
  k_with "truthy bool" => (with_reducible refine wpAny_truthy_bool ?_)
  k_with "k_mem" => first | with_reducible assumption | assumption
  k_with "subscriptTail" => (k_here; (with_reducible show wpAny _ _ (subscriptTail _ _ (Value.ref _) (Value.int _ _)) _ _ _); (with_unfolding_all refine' item_litK ?q9k1 ?q9k2 ?q9k3 ?q9k4 ?_ ?q9k6; (case q9k1 => exact News.isList (by k_asm) (by k_mem)); (case q9k2 => decide); (case q9k3 => decide); (case q9k4 => rfl); (case q9k6 => with_unfolding_all rfl); k_whole))
  k_with "callWith" => ((with_reducible show wpAny _ _ (callWith _ (Value.builtin _) (_ :: _) (backTo _ (starEach (_ :: _) _)) []) _ _ _); k_dflt (refine callWith_method1 ?_))
  trivial
section
variable {prog : Program} {w : World} {p : Program} {loose : List Str} {mean : ExcName → Option Value} {mg mb : Str → Option Value}
 {dp un : Nat} {gd : Option (List Code)} {cn : Str} {cs : Scope} {a : Addr} {ccd : Value} {cl : List (Str × Addr)} {outer : List Env} {A₀ : Around} {base h₀ : Heap} {L : Addr} {m : Str → Option Value} {s : Shared} {Q E : Value → Shared → Prop}
noncomputable def PenK (pen : Value) (bg : Int) : Prop := (pen = .ref 549 ∧ bg = 4) ∨ (pen = .ref 551 ∧ bg = -1)
theorem penK549 (P : Params) : ∃ o, (Mine.frag.heap_1 P).lookup 549 = some o ∧ o.cls = .type "tuple" ∧ ∃ t0 t1 t2 t3 t4 n, o.data = .seq #[.int 0 t0, .int (-1) t1, .int 4 t2, .int (-1) t3, .int 0 t4] n :=
  ⟨_, rfl, rfl, _, _, _, _, _, _, rfl⟩
theorem penK551 (P : Params) : ∃ o, (Mine.frag.heap_1 P).lookup 551 = some o ∧ o.cls = .type "tuple" ∧ ∃ t0 t1 t2 t3 t4 n, o.data = .seq #[.int 0 t0, .int (-1) t1, .int (-1) t2, .int (-1) t3, .int 0 t4] n :=
  ⟨_, rfl, rfl, _, _, _, _, _, _, rfl⟩
theorem PenK.reads {h : Heap} {pv : Value} {bg : Int} {P : Params} (K : (Mine.frag.heap_1 P).In h) (hp : PenK pv bg) : Reads h pv (penP bg) [] := by
  rcases hp with ⟨rfl, rfl⟩ | ⟨rfl, rfl⟩
  · obtain ⟨o, e, c, t0, t1, t2, t3, t4, n, d⟩ := penK549 P
    exact reads_tuple_at (K _ _ e) c d (readsAll_cons_val (Reads.int _ _) (readsAll_cons_val (Reads.int _ _) (readsAll_cons_val (Reads.int _ _) (readsAll_cons_val (Reads.int _ _) (readsAll_cons_val (Reads.int _ _) .nil)))))
  · obtain ⟨o, e, c, t0, t1, t2, t3, t4, n, d⟩ := penK551 P
    exact reads_tuple_at (K _ _ e) c d (readsAll_cons_val (Reads.int _ _) (readsAll_cons_val (Reads.int _ _) (readsAll_cons_val (Reads.int _ _) (readsAll_cons_val (Reads.int _ _) (readsAll_cons_val (Reads.int _ _) .nil)))))
theorem PenK.ref {pv : Value} {bg : Int} (hp : PenK pv bg) : ∃ r, pv = .ref r := by
  rcases hp with ⟨rfl, _⟩ | ⟨rfl, _⟩
  · exact ⟨_, rfl⟩
  · exact ⟨_, rfl⟩
theorem pen_shaped (bg : Int) : SeqAt.shaped (penP bg) = true := by
  unfold SeqAt.shaped penP
  simp only [PyData.canLay0, PyData.canLayAll0, PyData.depth, PyData.depthAll]
  rfl
theorem pens_ne {A : Around} {news : Led} {a1 b1 : Addr} {bg : Int} {P : Params} {Q : Value → Shared → Prop} (K : (Mine.frag.heap_1 P).In s.heap) (N : News h₀ L s.heap news) (ha : PenV news (.ref a1) bg) (hb : PenK (.ref b1) bg) (hu : A.units + 64 < cLine) (h : Q (.bool false) s) : wpAny (model prog w) A (compareOp .NotEq (.ref a1) (.ref b1)) Q E s := by
  refine ne_dataH (ha.reads K N) (hb.reads K) (pen_shaped bg) (pen_shaped bg) hu ?_
  have e : (!PyData.eqv (penP bg) (penP bg)) = false := by simp [penP, PyData.eqv, PyData.eqvAll]
  rw [e]; exact h
theorem codes_in {A : Around} {news : Led} {a b c d : Addr} {vs : List Value} {ns : List Int} {n n1 n2 n3 : Nat} {t : Tok} {z : Bool} {Q : Value → Shared → Prop} (N : News h₀ L s.heap news) (ha : (a, tupO vs n) ∈ news) (hi : IntsAre vs ns) (hb : (b, tupO [.ref c, .ref d] n1) ∈ news) (hc : (c, tupO [] n2) ∈ news) (hd : (d, tupO [.int 32 t] n3) ∈ news) (hz : (ns.isEmpty || decide (ns = [32])) = z) (hu : A.units + 64 < cLine) (h : Q (.bool z) s) :
    wpAny (model prog w) A (compareOp .In (.ref a) (.ref b)) Q E s := by
  have rc : Reads s.heap (.ref b) (.tuple [.tuple [], .tuple [.int 32]]) [] := reads_tuple_at (N.get hb) rfl rfl (readsAll_cons_val (reads_tuple_at (N.get hc) rfl rfl .nil) (readsAll_cons_val (reads_tuple_at (N.get hd) rfl rfl (readsAll_cons_val (Reads.int _ _) .nil)) .nil))
  have rx : Reads s.heap (.ref a) (.tuple (ns.map .int)) [] := reads_tuple_at (N.get ha) rfl rfl (ints_reads hi)
  refine SeqAt.in_tuple_reads rc rx rfl ?_ ?_ ?_
  · simp only [PyData.canLay0, (ints_lay ns).1]
  · have e : min (PyData.depthAll [.tuple [], .tuple [.int 32]]) (PyData.tuple (ns.map .int)).depth ≤ 2 := Nat.le_trans (Nat.min_le_left _ _) (by simp [PyData.depthAll, PyData.depth])
    (first | lia | omega)
  · have e : ([PyData.tuple [], PyData.tuple [.int 32]].any fun y => PyData.eqv y (.tuple (ns.map .int))) = z := by
      rw [← hz]
      cases ns with
      | nil => rfl
      | cons x r =>
        cases r with
        | nil =>
          by_cases h : x = 32
          · subst h; rfl
          · simp [PyData.eqv, PyData.eqvAll, h]
            intro e; exact h e.symm
        | cons y r => simp [PyData.eqv, PyData.eqvAll]
    rw [e]; exact h
theorem tup_len {A : Around} {news : Led} {t : Addr} {v : Value} {vs : List Value} {n : Nat} {Q : Value → Shared → Prop} (N : News h₀ L s.heap news) (hm : (t, tupO (v :: vs) n) ∈ news) (hfit : vs.length ≤ 1000)
    (h : Q (.int ((vs.length : Int) + 1) (s.toks + 1)) { s with toks := s.toks + 1 + 1 }) : wpAny (model prog w) A (call (.builtin "len") [.ref t]) Q E s := by
  refine len_tuple (News.isTup N hm) (by simp; (first | lia | omega)) ?_
  have e : ((v :: vs).toArray.size : Int) = (vs.length : Int) + 1 := by simp
  rw [e]; exact h
theorem tup_item0 {A : Around} {news : Led} {value slice : PySem.Expr} {t : Addr} {v : Value} {vs : List Value} {n : Nat} {u : Tok} {Q : Value → Shared → Prop} (N : News h₀ L s.heap news) (hm : (t, tupO (v :: vs) n) ∈ news) (h : Q v s)
    (hs : subscripted slice false (.ref t) (.int 0 u) = operate [.ref t, .int 0 u] (getItem (.ref t) (.int 0 u))) : wpAny (model prog w) A (subscriptTail value slice (.ref t) (.int 0 u)) Q E s :=
  item_tupleT (j := 0) (News.isTup N hm) (by decide) (by decide) (by simp [seqIndex?]) rfl h hs
theorem rg61 : True := by
  k_with "k_mem" => first | with_reducible assumption | ((repeat (first | with_reducible assumption | exact List.Mem.head _ | exact List.mem_append_left _ (by with_reducible assumption) | refine List.Mem.tail _ ?_ | refine List.mem_append_right _ ?_ | assumption | refine m_tr (by with_reducible assumption) ?_)); done)
  k_with "ite" => first | (refine ite_pos (by first | omega | (simp only [beq_iff_eq, decide_eq_true_eq]; omega)) ?_; walk_say "BY OMEGA") | (refine ite_neg (by first | omega | (simp only [beq_iff_eq, decide_eq_true_eq]; omega)) ?_; walk_say "BY OMEGA")
  trivial
theorem exD {h : Heap} {D : Addr} {o : Obj} {r : Led} (_N : News h₀ L h ((D, o) :: r)) : ∃ D9 : Addr, D9 = D := ⟨D, rfl⟩
structure ShS where
  vs : List Value
  n : Nat
  tl : Led
theorem rg62 : True := by
  k_with "exec For Tuple Name cons nil" => (k_here; (rename Fr _ _ _ _ => z9lF'); k_dflt (with_unfolding_all refine' For_turns z9lF' ?_))
  k_with "pyIter ref" => ((with_reducible show wpAny _ _ (pyIter (Value.ref _)) (fun it s₂ => TurnsAt _ _ _ _ _ _ _ _ _ it s₂) _ _); refine stop_in ?_)
  k_with "compareOp NotEq ref ref" => (k_here; (with_reducible show wpAny _ _ (compareOp CmpOp.NotEq (Value.ref _) (Value.ref _)) _ _ _); k_dflt (refine' pens_ne (P := w.params) ?q9zK ?q9zN ?q9za ?q9zb ?q9zu ?_; (case q9zK => exact Frag.In.keeps (by k_asm) (Fr.keep (by k_asm))); (case q9zN => k_asm); (case q9zb => assumption); (case q9za => exact PenV.mono (by assumption) (by (intro _ _; k_mem))); (case q9zu => (simp only [units_deeper]; (show _ + _ + _ < _); omega)); k_whole))
  k_with "call builtin:len" => (k_here; (with_reducible show wpAny _ _ (call (Value.builtin "len") [Value.ref _]) _ _ _); k_dflt (refine' tup_len ?q9zN ?q9zm ?q9zf ?_; (case q9zN => k_asm); (case q9zm => k_mem); (case q9zf => omega)))
  k_with "subscriptTail" => (k_here; (with_reducible show wpAny _ _ (subscriptTail _ _ (Value.ref _) (Value.int 0 _)) _ _ _); k_dflt (refine' tup_item0 ?q9zN ?q9zm ?_ (by with_unfolding_all rfl); (case q9zN => k_asm); (case q9zm => k_mem)))
  k_with "call type:tuple" => (k_here; (with_reducible show wpAny _ _ (call (Value.type _) [Value.ref _]) _ _ _); k_dflt (refine' call_tuple_same ?q9zl ?_; (case q9zl => exact News.isTup (by k_asm) (by k_mem))))
  k_with "compareOp In ref ref" => (k_here; (with_reducible show wpAny _ _ (compareOp CmpOp.In (Value.ref _) (Value.ref _)) _ _ _); k_dflt (refine' codes_in ?q9zN ?q9za ?q9zi ?q9zb ?q9zc ?q9zd ?q9zz ?q9zu ?_; (case q9zN => k_asm); (case q9za => k_mem); (case q9zi => first | assumption | exact .nil | exact .cons _ _ (by assumption)); (case q9zb => k_mem); (case q9zc => k_mem); (case q9zd => k_mem); (case q9zz => assumption); (case q9zu => (simp only [units_deeper]; (show _ + _ + _ < _); omega)); k_whole))
  trivial
theorem law_shown_ok {news : Led} {lc : Addr} {cvs : List Value} {cc : List Cell} {nc : Nat} {bg : Int} {pen : Value} (B : Below A₀ base outer h₀) (F : Fr h₀ L s.heap m) (X : (Mine.frag.heap_1 w.params).In h₀) (N : News h₀ L s.heap news) (T : Top p loose mean mg mb h₀) (hk : cs.kind = .function)
   (hd : dp + 4 < recursionLimit) (hu : un + 120 < cLine)
   (hlc : (lc, listOf cvs.toArray nc) ∈ news) (hC : CellsV news bg cvs cc) (hl8 : cvs.length ≤ 200) (hp : PenK pen bg) (hsh : ∀ c ∈ cc, ShowOk c)
   (hret : ∀ l vs n tl h' tk', Fr h₀ L h' m → News h₀ L h' ((l, listOf vs.toArray n) :: (tl ++ news)) → (∀ q ∈ news, q.1 < l) → (∀ p ∈ tl ++ news, p.1 ≠ l) → ColsV (tl ++ news) vs (cc.map colOf) → Q (.ref l) { s with heap := h', toks := tk' }) :
   wpAny (model prog w) (ktrTop dp un gd cn cs L a ccd cl outer) (call (.ref 584) [.ref lc, pen]) Q E s := by
  obtain ⟨pr, rfl⟩ := hp.ref
  refine wpAny_call ?_
  k_dflt ktr_enter
  k_steps
  rename Fr _ _ _ _ => F1
  rename News _ _ _ _ => N1
  rename ∀ p : Addr × Obj, p ∈ news → _ => hlt
  obtain ⟨l0, e0⟩ := exD N1
  subst e0
  have hcl := hC.length
  (show wpAny _ _ (pyIter (Value.ref lc)) _ _ _)
  refine turns_st (σ := ShS) (fun c => (l0, listOf c.vs.toArray c.n) :: (c.tl ++ news)) (fun _ => []) [Str.ofString "codes", Str.ofString "width", Str.ofString "own", Str.ofString "is_guarded"]
    (fun i c => ColsV (c.tl ++ news) c.vs ((cc.take i).map colOf) ∧ (∀ p ∈ c.tl ++ news, p.1 ≠ l0)) ⟨[], 0, []⟩ rfl (fun c => .tail _ (List.mem_append.mpr (.inr hlc))) F1 N1 (fun _ h => nomatch h) ⟨.nil, fun p hp => Nat.ne_of_lt (hlt p hp)⟩ ?_ ?_
  · rintro i v ⟨vs9, n9, tl9⟩ u h tk own hv hown ⟨hC9, hn⟩ F2 N2
    (try ((show wpAny _ _ _ _ _ _); k_fold))
    dsimp only at *
    have hil : i < cc.length := by rw [← hcl]; exact (List.getElem?_eq_some_iff.mp hv).1
    obtain ⟨v', hv', hcv⟩ := hC.get (List.getElem?_eq_getElem hil)
    obtain rfl : v' = v := Option.some.inj (hv'.symm.trans hv)
    have hs9 := hsh _ (List.getElem_mem hil)
    have htk : (cc.take (i + 1)).map colOf = (cc.take i).map colOf ++ [colOf (cc[i]'hil)] := by rw [List.take_add_one, List.getElem?_eq_getElem hil, List.map_append]; rfl
    have hl9 : vs9.length ≤ 200 := by rw [hC9.length, List.length_map, List.length_take]; omega
    generalize cc[i]'hil = c at *
    replace N2 : News _ _ h ((l0, listOf vs9.toArray n9) :: ((tl9 ++ news) ++ own)) := N2
    have hsub9 : ∀ p ∈ news, p ∈ (tl9 ++ news) ++ own := fun p hp => List.mem_append.mpr (.inl (List.mem_append.mpr (.inr hp)))
    have hne9 : ∀ p ∈ (tl9 ++ news) ++ own, p.1 ≠ l0 := fun p hp => (List.mem_append.mp hp).elim (hn p) fun h => hown p h l0 (.head _)
    obtain ⟨x, cx, vs, pv, t, nn, n', rfl, hx, hcx, hi, hpv⟩ := hcv
    have hcx0 := hcx
    replace hx := hsub9 _ hx
    replace hcx := hsub9 _ hcx
    replace hpv := PenV.mono hpv hsub9
    obtain ⟨pr2, rfl⟩ := hpv.ref
    obtain ⟨codes, cw⟩ := c
    dsimp only at *
    have hil2 := hi.length
    obtain ⟨hln, hs9⟩ := hs9
    dsimp only at hln
    rcases hs9 with hw | ⟨hw, hco⟩ | ⟨y, r, hco, hy, ⟨hw, hy2⟩ | ⟨hw, hy2⟩⟩
    · dsimp only at hw
      subst hw
      k_steps
      rename News _ _ _ _ => kN
      rename Fr _ _ _ _ => kF
      simp only [List.push_toArray] at kN
      refine ⟨⟨vs9 ++ [.none], n9 + 1, tl9⟩, _, _, _, _, rfl, kF, kN, ?_, ?_, ?_, (fun _ h => nomatch h), ?_, ?_, ?_⟩
      · intro q hq
        simp only [List.mem_cons, List.mem_append, List.cons_append] at hq ⊢
        rcases hq with hq | hq | hq <;> simp only [hq, true_or, or_true]
      · intro q hq
        simp only [List.mem_cons, List.mem_append, hq, or_true]
      · exact hown
      · intro z _ h3
        rw [if_neg (contains_ne h3 (by simp)), if_neg (contains_ne h3 (by simp)), if_neg (contains_ne h3 (by simp)), if_neg (contains_ne h3 (by simp))]
        exact frmT_out rfl h3
      · rw [htk]
        exact All2.append hC9 (.cons rfl .nil)
      · exact hn
    · dsimp only at hw hco
      subst hw hco
      cases hi
      have hz : (([] : List Int).isEmpty || decide (([] : List Int) = [32])) = true := rfl
      k_steps
      rename News _ _ _ _ => kN
      rename Fr _ _ _ _ => kF
      simp only [List.push_toArray] at kN
      obtain ⟨D9, hD9⟩ := exD kN
      subst hD9
      refine ⟨⟨vs9 ++ [.ref D9], n9 + 1, (D9, tupO [] 0) :: tl9⟩, _, _, _, _, rfl, kF, kN, ?_, ?_, ?_, (fun _ h => nomatch h), ?_, ?_, ?_⟩
      · intro q hq
        simp only [List.mem_cons, List.mem_append, List.cons_append] at hq ⊢
        rcases hq with hq | hq | hq | hq <;> simp only [hq, true_or, or_true]
      · intro q hq
        simp only [List.mem_cons, List.mem_append, hq, or_true]
      · exact ownOff_map fun p hp q hq => by
          simp only [List.mem_cons, List.mem_append, List.cons_append] at hq
          rcases hq with rfl | rfl | hq | hq
          · exact hown p hp _ (.head _)
          · exact Nat.ne_of_lt (lt_of_all (by k_extra "pick") p (List.mem_append.mpr (.inr hp)))
          all_goals (refine hown p hp _ (List.mem_map.mpr ⟨_, ?_, rfl⟩); simp [hq])
      · intro z _ h3
        rw [if_neg (contains_ne h3 (by simp)), if_neg (contains_ne h3 (by simp)), if_neg (contains_ne h3 (by simp)), if_neg (contains_ne h3 (by simp))]
        exact frmT_out rfl h3
      · rw [htk]
        exact All2.append (ColsV.mono hC9 fun q hq => .tail _ hq) (.cons (colV_empty (.head _)) .nil)
      · intro p hp
        rcases List.mem_cons.mp hp with rfl | hp
        · exact Nat.ne_of_gt (by k_extra "pick")
        · exact hn p hp
    · dsimp only at hw hco
      subst hw hco
      cases hi with | cons _ t1 hr =>
      have hrl := hr.length
      simp only [List.length_cons] at hln
      have hz : ((y :: r).isEmpty || decide ((y :: r) = [32])) = false := by simp; intro e; exact absurd e hy
      k_steps
      rename News _ _ _ _ => kN
      rename Fr _ _ _ _ => kF
      simp only [List.push_toArray] at kN
      refine ⟨⟨vs9 ++ [.ref cx], n9 + 1, tl9⟩, _, _, _, _, rfl, kF, kN, ?_, ?_, ?_, (fun _ h => nomatch h), ?_, ?_, ?_⟩
      · intro q hq
        simp only [List.mem_cons, List.mem_append, List.cons_append] at hq ⊢
        rcases hq with hq | hq | hq <;> simp only [hq, true_or, or_true]
      · intro q hq
        simp only [List.mem_cons, List.mem_append, hq, or_true]
      · exact hown
      · intro z _ h3
        rw [if_neg (contains_ne h3 (by simp)), if_neg (contains_ne h3 (by simp)), if_neg (contains_ne h3 (by simp)), if_neg (contains_ne h3 (by simp))]
        exact frmT_out rfl h3
      · rw [htk]
        exact All2.append hC9 (.cons ⟨_, _, _, rfl, List.mem_append.mpr (.inr hcx0), .cons _ _ hr⟩ .nil)
      · exact hn
    · dsimp only at hw hco
      subst hw hco
      cases hi with | cons _ t1 hr =>
      have hrl := hr.length
      simp only [List.length_cons] at hln
      have hz : ((y :: r).isEmpty || decide ((y :: r) = [32])) = false := by simp; intro e; exact absurd e hy
      k_steps
      rename News _ _ _ _ => kN
      rename Fr _ _ _ _ => kF
      simp only [List.push_toArray] at kN
      refine ⟨⟨vs9 ++ [.ref cx], n9 + 1, tl9⟩, _, _, _, _, rfl, kF, kN, ?_, ?_, ?_, (fun _ h => nomatch h), ?_, ?_, ?_⟩
      · intro q hq
        simp only [List.mem_cons, List.mem_append, List.cons_append] at hq ⊢
        rcases hq with hq | hq | hq <;> simp only [hq, true_or, or_true]
      · intro q hq
        simp only [List.mem_cons, List.mem_append, hq, or_true]
      · exact hown
      · intro z _ h3
        rw [if_neg (contains_ne h3 (by simp)), if_neg (contains_ne h3 (by simp)), if_neg (contains_ne h3 (by simp)), if_neg (contains_ne h3 (by simp))]
        exact frmT_out rfl h3
      · rw [htk]
        exact All2.append hC9 (.cons ⟨_, _, _, rfl, List.mem_append.mpr (.inr hcx0), .cons _ _ hr⟩ .nil)
      · exact hn
  · rintro ⟨vs9, n9, tl9⟩ u h tk ⟨hC9, hn⟩ F2 N2
    dsimp only at *
    k_steps
    rename News h₀ _ _ _ => kN
    rw [hcl, List.take_length] at hC9
    exact hret _ _ _ _ _ _ (by assumption) kN hlt hn hC9

end
end
section
theorem rg63 : True := by
  k_with_none
  k_with "omega" => (first | decide | (with_reducible first | exact Int.natCast_nonneg _ | exact rm1 ‹_› (by decide) | exact rm2 ‹_› (by decide) | exact rm3 ‹_› (by decide) | exact om_le ‹_› (by decide) | exact om_63 ‹_› (by decide) | exact om_eqle ‹_› ‹_› (by decide) | exact om_eq63 ‹_› ‹_› (by decide) | exact om_add ‹_› (by decide) | exact om_ne ‹_› (by decide) | exact om_le2 ‹_› ‹_› (by decide) | exact om_le2s ‹_› ‹_› (by decide) | exact om_le2_63 ‹_› ‹_› (by decide) | exact om_le2s_63 ‹_› ‹_› (by decide) | exact om_z62 ‹_› (by decide) | exact om_zn62 | exact om_kle ‹_› (by decide) | exact om_neg1 | exact om_pos | exact om_at ‹_› (by decide) | exact om_at0 ‹_› | exact om_add63 ‹_› (by decide) | exact Nat.ne_of_gt (by k_extra "pick") | exact Nat.ne_of_lt (by k_extra "pick")))
  k_with "ktr_room" => (first | exact rm0 (by assumption) | exact rm1 (by assumption) (Nat.le_of_ble_eq_true rfl))
  k_with "k_ne" => ((refine neN ?_; (try dsimp only); first | exact Nat.ne_of_gt (by assumption) | exact Nat.ne_of_lt (by assumption) | exact Nat.ne_of_gt (And.left (by assumption)) | exact Nat.ne_of_lt (And.left (by assumption)) | exact Nat.ne_of_gt (And.left (And.right (by assumption))) | exact Nat.ne_of_lt (And.left (And.right (by assumption))) | exact Nat.ne_of_gt (And.right (by assumption)) | exact Nat.ne_of_lt (And.right (by assumption)) | exact Nat.ne_of_gt (And.left (And.right (And.right (by assumption)))) | exact Nat.ne_of_lt (And.left (And.right (And.right (by assumption)))) | exact Nat.ne_of_gt (And.right (And.right (by assumption))) | exact Nat.ne_of_lt (And.right (And.right (by assumption)))))
  k_with "pick" => (with_reducible first | assumption | exact And.left ‹_› | exact And.left (And.right ‹_›) | exact And.left (And.right (And.right ‹_›)) | exact And.left (And.right (And.right (And.right ‹_›))) | exact And.left (And.right (And.right (And.right (And.right ‹_›)))) | exact And.left (And.right (And.right (And.right (And.right (And.right ‹_›))))) | exact And.left (And.right (And.right (And.right (And.right (And.right (And.right ‹_›)))))) | exact And.left (And.right (And.right (And.right (And.right (And.right (And.right (And.right ‹_›))))))) | exact And.left (And.right (And.right (And.right (And.right (And.right (And.right (And.right (And.right ‹_›)))))))) | exact And.left (And.right (And.right (And.right (And.right (And.right (And.right (And.right (And.right (And.right ‹_›))))))))) | exact And.left (And.right (And.right (And.right (And.right (And.right (And.right (And.right (And.right (And.right (And.right ‹_›)))))))))) | exact (And.right ‹_›) | exact (And.right (And.right ‹_›)) | exact (And.right (And.right (And.right ‹_›))) | exact (And.right (And.right (And.right (And.right ‹_›)))) | exact (And.right (And.right (And.right (And.right (And.right ‹_›))))) | exact (And.right (And.right (And.right (And.right (And.right (And.right ‹_›)))))) | exact (And.right (And.right (And.right (And.right (And.right (And.right (And.right ‹_›))))))) | exact (And.right (And.right (And.right (And.right (And.right (And.right (And.right (And.right ‹_›)))))))) | exact (And.right (And.right (And.right (And.right (And.right (And.right (And.right (And.right (And.right ‹_›))))))))) | exact (And.right (And.right (And.right (And.right (And.right (And.right (And.right (And.right (And.right (And.right ‹_›)))))))))))
  k_with "k_room" => (((simp only [depth_under_make, depth_under_kw, depth_in1, depth_deeper, depth_caller]); omega))
  k_with "k_all" => (assumption)
  k_with "eval Name" => (k_here; dsimp only)
  k_with "eval Call" => (k_here; dsimp only)
  k_with "eval Constant int" => (k_here; dsimp only)
  k_with "eval Attribute Name" => (k_here; dsimp only)
  k_with "eval BinOp" => (k_here; dsimp only)
  k_with "storeName" => (k_here; dsimp only)
  k_with "setAttr ref" => (k_here; dsimp only)
  k_with "eval Compare" => (k_here; dsimp only)
  k_with "isTrue Compare" => (k_here; dsimp only)
  k_with "eval Subscript" => (k_here; dsimp only)
  k_with "execs cons" => (k_here; first | (with_reducible rename News _ _ _ _ => nZ9; dsimp only at nZ9) | dsimp only | ((with_reducible show wpAny _ _ _ _ _ (Shared.mk _ _ _ (HAdd.hAdd _ _) _)); refine gen_toks ?_; intro _))
  k_with "eval Name" => (k_here; (fail_if_success (with_reducible show wpAny _ _ (eval _ (compEnvC _ _ _ _)) _ _ _)); (try dsimp only); k_dflt (first | (refine' nameX_L ?q9F ?q9v ?_ ?q9a ?q9b; (case q9F => k_asm); (case q9a => rfl); (case q9b => rfl); (case q9v => rfl); k_whole) | (refine' nameX_K ?q9F ?q9X ?q9T ?q9e ?_ ?q9a ?q9b; (case q9F => k_asm); (case q9X => k_asm); (case q9T => k_asm); (case q9a => rfl); (case q9b => rfl); (case q9e => k_is); k_whole) | (refine' nameX_B ?q9F ?q9X ?q9T ?q9e ?q9v ?q9n ?_ ?q9a ?q9b; (case q9F => k_asm); (case q9X => k_asm); (case q9T => k_asm); (case q9a => rfl); (case q9b => rfl); (case q9e => k_is); (case q9v => boot_fast); (case q9n => decide); k_whole)))
  k_with "execs cons" => (k_here; (try (with_reducible rename News _ _ _ _ => nZ9; dsimp only at nZ9)); (try dsimp only); (try ((with_reducible show wpAny _ _ _ _ _ (Shared.mk _ _ _ (HAdd.hAdd _ _) _)); refine gen_toks ?_; intro _)); (with_reducible refine wpAny_execs_cons ?_); (try dsimp only))
  k_with "eval Constant int" => (k_here; (try dsimp only); refine wpAny_Constant_int ?_)
  k_with "spliced" => (k_here; (fail_if_success (with_reducible show wpAny _ _ (spliced (backTo _ (starEach (PySem.Expr.Starred _ _ :: _) _))) _ _ _)); k_dflt (first | refine args_cons ?_ | (refine args_nil ?_; try simp only [List.cons_append, List.nil_append])))
  k_with "subscriptTail" => (k_here; (with_reducible show wpAny _ _ (subscriptTail _ _ (Value.ref _) (Value.int _ _)) _ _ _); k_dflt (refine' item_tupleT ?q9t ?q9a ?q9b ?q9c ?q9d ?_; (case q9t => exact News.isTup (by k_asm) (by k_mem)); (case q9a => decide); (case q9b => decide); (case q9c => rfl); (case q9d => rfl); k_whole))
  k_with "storeName" => (k_here; (fail_if_success (with_reducible show wpAny _ _ (storeName _ _ (compEnvC _ _ _ _)) _ _ _)); (try dsimp only); k_dflt (refine' storeX_L ?q9F ?q9N ?_ ?q9a ?q9b; (case q9F => k_asm); (case q9N => k_asm); (case q9a => rfl); (case q9b => rfl); k_whole; intro z9h z9F z9N; (try k_sweep)))
  k_with "callWith ref" => (k_here; k_dflt (first | (refine' callWith_K ?q9a ?q9b ?_; (case q9a => k_asm); (case q9b => k_is); k_whole) | (refine' callWith_K0 ?q9a ?q9b ?_; (case q9a => k_in); (case q9b => k_is); k_whole) | (refine' callWith_M0 ?q9a ?q9b ?_; (case q9a => k_meth); (case q9b => k_is); k_whole; try dsimp only [List.nil_append, List.cons_append]) | (refine' callWith_M ?q9a ?q9b ?q9c ?q9d ?_; (case q9a => k_asm); (case q9b => k_asm); (case q9c => k_mem); (case q9d => k_is); k_whole)))
  k_with "truthy bool" => (with_reducible refine wpAny_truthy_bool ?_)
  k_with "k_mem" => first | with_reducible assumption | assumption
  k_with "subscriptTail" => (k_here; (with_reducible show wpAny _ _ (subscriptTail _ _ (Value.ref _) (Value.int _ _)) _ _ _); (with_unfolding_all refine' item_litK ?q9k1 ?q9k2 ?q9k3 ?q9k4 ?_ ?q9k6; (case q9k1 => exact News.isList (by k_asm) (by k_mem)); (case q9k2 => decide); (case q9k3 => decide); (case q9k4 => rfl); (case q9k6 => with_unfolding_all rfl); k_whole))
  k_with "callWith" => ((with_reducible show wpAny _ _ (callWith _ (Value.builtin _) (_ :: _) (backTo _ (starEach (_ :: _) _)) []) _ _ _); k_dflt (refine callWith_method1 ?_))
  trivial
section
variable {prog : Program} {w : World} {p : Program} {loose : List Str} {mean : ExcName → Option Value} {mg mb : Str → Option Value}
 {dp un : Nat} {gd : Option (List Code)} {cn : Str} {cs : Scope} {a : Addr} {ccd : Value} {cl : List (Str × Addr)} {outer : List Env} {A₀ : Around} {base h₀ : Heap} {L : Addr} {m : Str → Option Value} {s : Shared} {Q E : Value → Shared → Prop}
theorem take_eq {id : String} {b : Array UInt8} {t : Tok} : Builtin.Bytes.takeBufferQuiet? id (.bytes b t) 0 = pure (some (b, none)) := by
  have e : Builtin.Bytes.takeBuffer? id (.bytes b t) 0 = pure (some (b, none)) := by
    unfold Builtin.Bytes.takeBuffer?
    rw [KBy.special_eq KBy.look_buffer, KBy.own_buffer]
    have e2 : Builtin.Bytes.buffer? id (.bytes b t) (full := (0 : Int) == Builtin.Bytes.fullReadOnly) = pure (some b) := KBy.buffer_eq
    simp only [pure_bind]
    rw [e2]
    rfl
  unfold Builtin.Bytes.takeBufferQuiet?
  rw [e]
  rfl
inductive BytesAre : List Value → List (Array UInt8) → Prop
  | nil : BytesAre [] []
  | cons (b : Array UInt8) (t : Tok) {vs : List Value} {bs : List (Array UInt8)} : BytesAre vs bs → BytesAre (.bytes b t :: vs) (b :: bs)
theorem BytesAre.length {vs : List Value} {bs : List (Array UInt8)} (h : BytesAre vs bs) : vs.length = bs.length := by
  induction h with
  | nil => rfl
  | cons _ _ _ ih => rw [List.length_cons, List.length_cons, ih]
theorem BytesAre.get {vs : List Value} {bs : List (Array UInt8)} (h : BytesAre vs bs) {i : Nat} {b : Array UInt8} (hb : bs[i]? = some b) : ∃ t, vs[i]? = some (.bytes b t) := by
  induction h generalizing i with
  | nil => cases hb
  | cons b t _ ih => cases i with
    | zero => cases hb; exact ⟨t, rfl⟩
    | succ i => exact ih hb
theorem joined_nil (bs : List (Array UInt8)) : (Builtin.Bytes.joined #[] bs).toList = (bs.map Array.toList).flatten := by
  unfold Builtin.Bytes.joined
  have go : ∀ (bs : List (Array UInt8)) (k : Nat) (acc : Array UInt8), ((bs.zipIdx k).foldl (fun out (p : Array UInt8 × Nat) => (if p.2 > 0 then out ++ #[] else out) ++ p.1) acc).toList = acc.toList ++ (bs.map Array.toList).flatten := by
    intro bs
    induction bs with
    | nil => intro k acc; simp
    | cons b r ih =>
      intro k acc
      rw [List.zipIdx_cons, List.foldl_cons, ih]
      simp
  have := go bs 0 #[]
  simpa using this
theorem letGo_all {M : Model} {A : Around} {taken : List (Value × Option Value)} {keep : List Value} {Q : Unit → Shared → Prop} (hw : ∀ p ∈ taken, p.2 = none) (h : Q () s) : wpAny M A (Builtin.Bytes.joinLetGo taken keep) Q E s := by
  induction taken with
  | nil => exact wpAny_pure h
  | cons p r ih =>
    obtain ⟨x, w⟩ := p
    have e : w = none := hw (x, w) (.head _)
    subst e
    unfold Builtin.Bytes.joinLetGo
    exact wpAny_bind (wpAny_letGo (ih fun q hq => hw q (.tail _ hq)))
theorem bt_sum : ∀ (l : List (Array UInt8)) (k : Nat), (∀ b ∈ l, b.size ≤ 10) → l.foldl (fun x1 x2 => x1 + x2.size) k ≤ k + 10 * l.length := by
  intro l
  induction l with
  | nil => intro k _; simp
  | cons a r ih =>
    intro k hk
    rw [List.foldl_cons, List.length_cons]
    have h1 := hk a (.head _)
    have h2 := ih (k + a.size) (fun b hb => hk b (.tail _ hb))
    (first | lia | omega)
theorem bt_flat : ∀ (l : List (Array UInt8)), (∀ b ∈ l, b.size ≤ 10) → ((l.map Array.toList).flatten).length ≤ 10 * l.length := by
  intro l
  induction l with
  | nil => intro _; simp
  | cons a r ih =>
    intro hk
    have h1 := hk a (.head _)
    have h2 := ih (fun b hb => hk b (.tail _ hb))
    simp only [List.map_cons, List.flatten_cons, List.length_append, List.length_cons, Array.length_toList]
    (first | lia | omega)
theorem bt_long {bs : List (Array UInt8)} (hl : bs.length ≤ 20) (hs : ∀ b ∈ bs, b.size ≤ 10) : Builtin.Bytes.tooLong (Array.foldl (fun x1 x2 => x1 + x2.size) ((#[] : Array UInt8).size * (bs.toArray.size - 1)) bs.toArray) = false := by
  refine KBy.tooLong_not ?_
  rw [← Array.foldl_toList, List.toList_toArray]
  have := bt_sum bs ((#[] : Array UInt8).size * (bs.toArray.size - 1)) hs
  have e0 : (#[] : Array UInt8).size = 0 := rfl
  rw [e0, Nat.zero_mul] at this ⊢
  (first | lia | omega)
theorem bt_size {bs : List (Array UInt8)} (hl : bs.length ≤ 20) (hs : ∀ b ∈ bs, b.size ≤ 10) : (Builtin.Bytes.joined #[] bs.toArray.toList).size ≤ sizeLine := by
  have h1 := congrArg List.length (joined_nil bs)
  rw [Array.length_toList] at h1
  have h2 := bt_flat bs hs
  rw [sizeLine_eq]
  show (Builtin.Bytes.joined #[] bs).size ≤ _
  (first | lia | omega)
inductive JoinAt (vs : List Value) (bs : List (Array UInt8)) (s : Shared) (rest : List Nat) (parts : Array (Array UInt8)) (taken : List (Value × Option Value)) (s' : Shared) : Prop
  | mk (i : Nat) (p1 : s' = s) (p2 : rest = List.range' i (vs.length - i)) (p3 : i ≤ vs.length) (p4 : parts.toList = bs.take i) (p5 : ∀ p ∈ taken, p.2 = none ∧ p.1.onHeap = false) : JoinAt vs bs s rest parts taken s'
inductive JoinTurn (vs : List Value) (bs : List (Array UInt8)) (s : Shared) (x : Nat) (rest : List Nat) (parts : Array (Array UInt8)) (taken : List (Value × Option Value)) (s' : Shared) : Prop
  | mk (b : Array UInt8) (t : Tok) (p1 : s' = s) (p2 : vs.toArray.getD x Value.none = .bytes b t) (p3 : (taken.any fun x => x.1.onHeap) = false) (p4 : ∀ v, v = .bytes b t → JoinAt vs bs s rest (parts.push b) (taken ++ [(v, none)]) s) : JoinTurn vs bs s x rest parts taken s'
theorem bt_turn {vs : List Value} {bs : List (Array UInt8)} {x : Nat} {rest : List Nat} {parts : Array (Array UInt8)} {taken : List (Value × Option Value)} {s s' : Shared} (hb : BytesAre vs bs) (h : JoinAt vs bs s (x :: rest) parts taken s') : JoinTurn vs bs s x rest parts taken s' := by
  obtain ⟨i, hs, hr, hi, hp, hk⟩ := h
  have hlt : i < vs.length := by
    rcases Nat.lt_or_ge i vs.length with h1 | h1
    · exact h1
    · rw [Nat.sub_eq_zero_of_le h1] at hr; cases hr
  have e1 : vs.length - i = (vs.length - (i + 1)) + 1 := by (first | lia | omega)
  rw [e1, List.range'_succ] at hr
  injection hr with hx hrest
  subst hx hrest
  have hlb : x < bs.length := by rw [← hb.length]; exact hlt
  obtain ⟨t9, hx9⟩ := hb.get (List.getElem?_eq_getElem hlb)
  refine ⟨bs[x], t9, hs, ?_, ?_, fun v hv => ⟨x + 1, rfl, rfl, hlt, ?_, ?_⟩⟩
  · rw [Array.getD_eq_getD_getElem?, List.getElem?_toArray, hx9]; rfl
  · rw [List.any_eq_false]
    intro p hp
    rw [(hk p hp).2]; decide
  · rw [Array.toList_push, hp, List.take_add_one, List.getElem?_eq_getElem hlb]; rfl
  · intro p hp
    rcases List.mem_append.mp hp with hp | hp
    · exact hk p hp
    · rw [List.mem_singleton.mp hp, hv]; exact ⟨rfl, rfl⟩
theorem bt_end {vs : List Value} {bs : List (Array UInt8)} {parts : Array (Array UInt8)} {taken : List (Value × Option Value)} {s s' : Shared} (hb : BytesAre vs bs) (h : JoinAt vs bs s [] parts taken s') : s' = s ∧ parts = bs.toArray ∧ ∀ p ∈ taken, p.2 = none := by
  obtain ⟨i, hs, hr, hi, hp, hk⟩ := h
  have hi2 : i = vs.length := by
    rcases Nat.lt_or_ge i vs.length with h1 | h1
    · have e1 : vs.length - i = (vs.length - (i + 1)) + 1 := by (first | lia | omega)
      rw [e1, List.range'_succ] at hr; cases hr
    · (first | lia | omega)
  subst hi2
  rw [hb.length, List.take_length] at hp
  exact ⟨hs, by rw [← hp, Array.toArray_toList], fun p hp => (hk p hp).1⟩
theorem bt_one {α : Type} {M : Model} {A : Around} {Q : α → Shared → Prop} {vs : List Value} {h1 : Value → Sem α} {h2 : Array Value → Sem α} (hsz : ¬ vs.length = 1) (h : wpAny M A (h2 vs.toArray) Q E s) : wpAny M A (Builtin.Bytes.joinM.match_1 (fun _ => Sem α) vs.toArray h1 h2) Q E s := by
  rw [show Builtin.Bytes.joinM.match_1 (fun _ => Sem α) vs.toArray h1 h2 = h2 vs.toArray from by
      unfold Builtin.Bytes.joinM.match_1
      rw [dif_neg (by simpa using hsz)]]
  exact h
theorem bt_join {A : Around} {news : Led} {l : Addr} {vs : List Value} {bs : List (Array UInt8)} {n : Nat} {t : Tok} {Q : Value → Shared → Prop} (N : News h₀ L s.heap news) (hm : (l, listOf vs.toArray n) ∈ news) (hb : BytesAre vs bs) (hl : bs.length ≤ 20) (hs : ∀ b ∈ bs, b.size ≤ 10)
    (h : ∀ (c : Array UInt8) t' tk', c.toList = (bs.map Array.toList).flatten → Q (.bytes c t') { s with toks := tk' }) : wpAny (model prog w) A (call (.builtin "bytes.join") [.bytes #[] t, .ref l]) Q E s := by
  refine call_meets (S := fun A R s => s.heap.get? l = some (listOf vs.toArray n) ∧ ∀ (c : Array UInt8) t' tk', c.toList = (bs.map Array.toList).flatten → R (.ok (.ret (.bytes c t'))) { s with toks := tk' }) slot_join (typeIs_bytes _ _ _) entry_join (args_join _ _) (fun prog w A R s hS => ?_) ⟨(N _ hm).1, h⟩
  obtain ⟨ho, h⟩ := hS
  unfold Builtin.«bytes.join» Builtin.Bytes.joinM
  refine wpAny_bind (wpAny_of_eq (a := (.bytes #[] t, .ref l)) rfl ?_)
  refine wpAny_bind ?_
  unfold Builtin.Bytes.joinItems
  refine wpAny_bind (wpAny_typeOf ⟨_, ho, rfl⟩ ?_)
  refine wpAny_ite_true (by decide) ?_
  refine wpAny_pure ?_
  refine wpAny_bind (wpAny_seqItems ho rfl ?_)
  refine wpAny_ite_true (by decide) ?_
  by_cases hsz : vs.length = 1
  · cases hb with
    | nil => cases hsz
    | cons b t hb =>
      cases hb with
      | cons b2 t2 hb => simp at hsz
      | nil =>
        refine wpAny_bind (wpAny_typeOf (typeIs_bytes _ _ _) ?_)
        refine wpAny_ite_true (by decide) ?_
        exact wpAny_bind (wpAny_rule (wpAny_pure (h b t s.toks (by simp))))
  · refine bt_one hsz ?_
    refine wpAny_bind ?_
    rw [Std.Legacy.Range.forIn_eq_forIn_range']
    refine wpAny_forIn_list _ (fun rest st s' => JoinAt vs bs s rest st.1 st.2 s') _ ?_ ?_ _ _ ⟨0, rfl, by simp [Std.Legacy.Range.size], Nat.zero_le _, rfl, fun _ h => nomatch h⟩
    · intro x rest st s' hJ
      obtain ⟨b, t9, e, hgd, hany, hN⟩ := bt_turn hb hJ
      refine wpAny_bind (wpAny_seqItems (e ▸ ho) rfl ?_)
      refine wpAny_ite_false (decide_eq_false (Bool.eq_false_iff.mp hany)) ?_
      refine wpAny_bind (wpAny_holding (wpAny_of_eq ((congrArg (fun v => Builtin.Bytes.takeBufferQuiet? _ v 0) hgd).trans take_eq) ?_))
      refine wpAny_bind (wpAny_seqItems (e ▸ ho) rfl ?_)
      refine wpAny_ite_false (by simp) ?_
      exact wpAny_pure (e.symm ▸ hN _ hgd)
    · intro st s' hJ
      obtain ⟨e, hpe, hk⟩ := bt_end hb hJ
      refine wpAny_bind (wpAny_of_eq (a := (#[] : Array UInt8)) rfl ?_)
      refine wpAny_ite_false (by rw [hpe]; exact decide_eq_false (Bool.eq_false_iff.mp (bt_long hl hs))) ?_
      refine wpAny_bind (wpAny_mkBytes ?_ (by rw [hpe]; exact bt_size hl hs))
      refine wpAny_bind (wpAny_holding (wpAny_point ?_))
      refine wpAny_bind (letGo_all hk ?_)
      exact wpAny_pure (by rw [e, hpe]; exact h _ _ _ (joined_nil bs))


end
end
section
theorem rg64 : True := by
  k_with_none
  k_with "omega" => (first | decide | (with_reducible first | exact Int.natCast_nonneg _ | exact rm1 ‹_› (by decide) | exact rm2 ‹_› (by decide) | exact rm3 ‹_› (by decide) | exact om_le ‹_› (by decide) | exact om_63 ‹_› (by decide) | exact om_eqle ‹_› ‹_› (by decide) | exact om_eq63 ‹_› ‹_› (by decide) | exact om_add ‹_› (by decide) | exact om_ne ‹_› (by decide) | exact om_le2 ‹_› ‹_› (by decide) | exact om_le2s ‹_› ‹_› (by decide) | exact om_le2_63 ‹_› ‹_› (by decide) | exact om_le2s_63 ‹_› ‹_› (by decide) | exact om_z62 ‹_› (by decide) | exact om_zn62 | exact om_kle ‹_› (by decide) | exact om_neg1 | exact om_pos | exact om_at ‹_› (by decide) | exact om_at0 ‹_› | exact om_add63 ‹_› (by decide) | exact Nat.ne_of_gt (by k_extra "pick") | exact Nat.ne_of_lt (by k_extra "pick")))
  k_with "ktr_room" => (first | exact rm0 (by assumption) | exact rm1 (by assumption) (Nat.le_of_ble_eq_true rfl))
  k_with "k_ne" => ((refine neN ?_; (try dsimp only); first | exact Nat.ne_of_gt (by assumption) | exact Nat.ne_of_lt (by assumption) | exact Nat.ne_of_gt (And.left (by assumption)) | exact Nat.ne_of_lt (And.left (by assumption)) | exact Nat.ne_of_gt (And.left (And.right (by assumption))) | exact Nat.ne_of_lt (And.left (And.right (by assumption))) | exact Nat.ne_of_gt (And.right (by assumption)) | exact Nat.ne_of_lt (And.right (by assumption)) | exact Nat.ne_of_gt (And.left (And.right (And.right (by assumption)))) | exact Nat.ne_of_lt (And.left (And.right (And.right (by assumption)))) | exact Nat.ne_of_gt (And.right (And.right (by assumption))) | exact Nat.ne_of_lt (And.right (And.right (by assumption)))))
  k_with "pick" => (with_reducible first | assumption | exact And.left ‹_› | exact And.left (And.right ‹_›) | exact And.left (And.right (And.right ‹_›)) | exact And.left (And.right (And.right (And.right ‹_›))) | exact And.left (And.right (And.right (And.right (And.right ‹_›)))) | exact And.left (And.right (And.right (And.right (And.right (And.right ‹_›))))) | exact And.left (And.right (And.right (And.right (And.right (And.right (And.right ‹_›)))))) | exact And.left (And.right (And.right (And.right (And.right (And.right (And.right (And.right ‹_›))))))) | exact And.left (And.right (And.right (And.right (And.right (And.right (And.right (And.right (And.right ‹_›)))))))) | exact And.left (And.right (And.right (And.right (And.right (And.right (And.right (And.right (And.right (And.right ‹_›))))))))) | exact And.left (And.right (And.right (And.right (And.right (And.right (And.right (And.right (And.right (And.right (And.right ‹_›)))))))))) | exact (And.right ‹_›) | exact (And.right (And.right ‹_›)) | exact (And.right (And.right (And.right ‹_›))) | exact (And.right (And.right (And.right (And.right ‹_›)))) | exact (And.right (And.right (And.right (And.right (And.right ‹_›))))) | exact (And.right (And.right (And.right (And.right (And.right (And.right ‹_›)))))) | exact (And.right (And.right (And.right (And.right (And.right (And.right (And.right ‹_›))))))) | exact (And.right (And.right (And.right (And.right (And.right (And.right (And.right (And.right ‹_›)))))))) | exact (And.right (And.right (And.right (And.right (And.right (And.right (And.right (And.right (And.right ‹_›))))))))) | exact (And.right (And.right (And.right (And.right (And.right (And.right (And.right (And.right (And.right (And.right ‹_›)))))))))))
  k_with "k_room" => (((simp only [depth_under_make, depth_under_kw, depth_in1, depth_deeper, depth_caller]); omega))
  k_with "k_all" => (assumption)
  k_with "eval Name" => (k_here; dsimp only)
  k_with "eval Call" => (k_here; dsimp only)
  k_with "eval Constant int" => (k_here; dsimp only)
  k_with "eval Attribute Name" => (k_here; dsimp only)
  k_with "eval BinOp" => (k_here; dsimp only)
  k_with "storeName" => (k_here; dsimp only)
  k_with "setAttr ref" => (k_here; dsimp only)
  k_with "eval Compare" => (k_here; dsimp only)
  k_with "isTrue Compare" => (k_here; dsimp only)
  k_with "eval Subscript" => (k_here; dsimp only)
  k_with "execs cons" => (k_here; first | (with_reducible rename News _ _ _ _ => nZ9; dsimp only at nZ9) | dsimp only | ((with_reducible show wpAny _ _ _ _ _ (Shared.mk _ _ _ (HAdd.hAdd _ _) _)); refine gen_toks ?_; intro _))
  k_with "eval Name" => (k_here; (fail_if_success (with_reducible show wpAny _ _ (eval _ (compEnvC _ _ _ _)) _ _ _)); (try dsimp only); k_dflt (first | (refine' nameX_L ?q9F ?q9v ?_ ?q9a ?q9b; (case q9F => k_asm); (case q9a => rfl); (case q9b => rfl); (case q9v => rfl); k_whole) | (refine' nameX_K ?q9F ?q9X ?q9T ?q9e ?_ ?q9a ?q9b; (case q9F => k_asm); (case q9X => k_asm); (case q9T => k_asm); (case q9a => rfl); (case q9b => rfl); (case q9e => k_is); k_whole) | (refine' nameX_B ?q9F ?q9X ?q9T ?q9e ?q9v ?q9n ?_ ?q9a ?q9b; (case q9F => k_asm); (case q9X => k_asm); (case q9T => k_asm); (case q9a => rfl); (case q9b => rfl); (case q9e => k_is); (case q9v => boot_fast); (case q9n => decide); k_whole)))
  k_with "execs cons" => (k_here; (try (with_reducible rename News _ _ _ _ => nZ9; dsimp only at nZ9)); (try dsimp only); (try ((with_reducible show wpAny _ _ _ _ _ (Shared.mk _ _ _ (HAdd.hAdd _ _) _)); refine gen_toks ?_; intro _)); (with_reducible refine wpAny_execs_cons ?_); (try dsimp only))
  k_with "eval Constant int" => (k_here; (try dsimp only); refine wpAny_Constant_int ?_)
  k_with "spliced" => (k_here; (fail_if_success (with_reducible show wpAny _ _ (spliced (backTo _ (starEach (PySem.Expr.Starred _ _ :: _) _))) _ _ _)); k_dflt (first | refine args_cons ?_ | (refine args_nil ?_; try simp only [List.cons_append, List.nil_append])))
  k_with "subscriptTail" => (k_here; (with_reducible show wpAny _ _ (subscriptTail _ _ (Value.ref _) (Value.int _ _)) _ _ _); k_dflt (refine' item_tupleT ?q9t ?q9a ?q9b ?q9c ?q9d ?_; (case q9t => exact News.isTup (by k_asm) (by k_mem)); (case q9a => decide); (case q9b => decide); (case q9c => rfl); (case q9d => rfl); k_whole))
  k_with "storeName" => (k_here; (fail_if_success (with_reducible show wpAny _ _ (storeName _ _ (compEnvC _ _ _ _)) _ _ _)); (try dsimp only); k_dflt (refine' storeX_L ?q9F ?q9N ?_ ?q9a ?q9b; (case q9F => k_asm); (case q9N => k_asm); (case q9a => rfl); (case q9b => rfl); k_whole; intro z9h z9F z9N; (try k_sweep)))
  k_with "callWith ref" => (k_here; k_dflt (first | (refine' callWith_K ?q9a ?q9b ?_; (case q9a => k_asm); (case q9b => k_is); k_whole) | (refine' callWith_K0 ?q9a ?q9b ?_; (case q9a => k_in); (case q9b => k_is); k_whole) | (refine' callWith_M0 ?q9a ?q9b ?_; (case q9a => k_meth); (case q9b => k_is); k_whole; try dsimp only [List.nil_append, List.cons_append]) | (refine' callWith_M ?q9a ?q9b ?q9c ?q9d ?_; (case q9a => k_asm); (case q9b => k_asm); (case q9c => k_mem); (case q9d => k_is); k_whole)))
  k_with "truthy bool" => (with_reducible refine wpAny_truthy_bool ?_)
  k_with "k_mem" => first | with_reducible assumption | assumption
  k_with "subscriptTail" => (k_here; (with_reducible show wpAny _ _ (subscriptTail _ _ (Value.ref _) (Value.int _ _)) _ _ _); (with_unfolding_all refine' item_litK ?q9k1 ?q9k2 ?q9k3 ?q9k4 ?_ ?q9k6; (case q9k1 => exact News.isList (by k_asm) (by k_mem)); (case q9k2 => decide); (case q9k3 => decide); (case q9k4 => rfl); (case q9k6 => with_unfolding_all rfl); k_whole))
  k_with "callWith" => ((with_reducible show wpAny _ _ (callWith _ (Value.builtin _) (_ :: _) (backTo _ (starEach (_ :: _) _)) []) _ _ _); k_dflt (refine callWith_method1 ?_))
  trivial
section
variable {prog : Program} {w : World} {p : Program} {loose : List Str} {mean : ExcName → Option Value} {mg mb : Str → Option Value}
 {dp un : Nat} {gd : Option (List Code)} {cn : Str} {cs : Scope} {a : Addr} {ccd : Value} {cl : List (Str × Addr)} {outer : List Env} {A₀ : Around} {base h₀ : Heap} {L : Addr} {m : Str → Option Value} {s : Shared} {Q E : Value → Shared → Prop}
theorem item_style {A : Around} {value slice : PySem.Expr} {v : Int} {u : Tok} {Q : Value → Shared → Prop} (K : (Mine.frag.heap_1 w.params).In s.heap) (h0 : 0 ≤ v) (h1 : v < 2)
    (h : ∀ x sb t p bg, s.heap.IsTuple x #[.bytes sb t, .ref p] → StyleIs sb bg → PenK (.ref p) bg → Q (.ref x) s)
    (hs : subscripted slice false (.ref 553) (.int v u) = operate [.ref 553, .int v u] (getItem (.ref 553) (.int v u))) :
    wpAny (model prog w) A (subscriptTail value slice (.ref 553) (.int v u)) Q E s := by
  have ht : s.heap.IsTuple 553 [Value.ref 550, Value.ref 552].toArray := ⟨_, K 553 _ rfl, rfl, _, rfl⟩
  have hv : v = 0 ∨ v = 1 := by (first | lia | omega)
  rcases hv with rfl | rfl
  · exact item_tupleT (j := 0) ht (by decide) (by decide) rfl rfl (h 550 _ _ 549 4 ⟨_, K 550 _ rfl, rfl, _, rfl⟩ (.inl ⟨rfl, rfl⟩) (.inl ⟨rfl, rfl⟩)) hs
  · exact item_tupleT (j := 1) ht (by decide) (by decide) rfl rfl (h 552 _ _ 551 (-1) ⟨_, K 552 _ rfl, rfl, _, rfl⟩ (.inr ⟨rfl, rfl⟩) (.inr ⟨rfl, rfl⟩)) hs
noncomputable def IsSign (c : Int) : Prop := c = 97 ∨ c = 19968 ∨ c = 58 ∨ c = 122 ∨ c = 19970
noncomputable def IsTyped (c : Int) : Prop := c = 98 ∨ c = 19969 ∨ c = 768 ∨ c = 7 ∨ c = 99 ∨ c = 19971 ∨ c = 127
theorem item_sign {A : Around} {value slice : PySem.Expr} {v : Int} {u : Tok} {Q : Value → Shared → Prop} (K : (Mine.frag.heap_1 w.params).In s.heap) (h0 : 0 ≤ v) (h1 : v < 5)
    (h : ∀ c t, IsSign c → Q (.int c t) s)
    (hs : subscripted slice false (.ref 547) (.int v u) = operate [.ref 547, .int v u] (getItem (.ref 547) (.int v u))) :
    wpAny (model prog w) A (subscriptTail value slice (.ref 547) (.int v u)) Q E s := by
  have ht : s.heap.IsTuple 547 _ := ⟨_, K 547 _ rfl, rfl, _, rfl⟩
  have ht' := tl_tup ht rfl
  have hv : v = 0 ∨ v = 1 ∨ v = 2 ∨ v = 3 ∨ v = 4 := by (first | lia | omega)
  rcases hv with rfl | rfl | rfl | rfl | rfl
  · exact item_tupleT (j := 0) ht' (by decide) (by decide) rfl rfl (h _ _ (by simp [IsSign])) hs
  · exact item_tupleT (j := 1) ht' (by decide) (by decide) rfl rfl (h _ _ (by simp [IsSign])) hs
  · exact item_tupleT (j := 2) ht' (by decide) (by decide) rfl rfl (h _ _ (by simp [IsSign])) hs
  · exact item_tupleT (j := 3) ht' (by decide) (by decide) rfl rfl (h _ _ (by simp [IsSign])) hs
  · exact item_tupleT (j := 4) ht' (by decide) (by decide) rfl rfl (h _ _ (by simp [IsSign])) hs
theorem item_typed {A : Around} {value slice : PySem.Expr} {v : Int} {u : Tok} {Q : Value → Shared → Prop} (K : (Mine.frag.heap_1 w.params).In s.heap) (h0 : 0 ≤ v) (h1 : v < 7)
    (h : ∀ c t, IsTyped c → Q (.int c t) s)
    (hs : subscripted slice false (.ref 548) (.int v u) = operate [.ref 548, .int v u] (getItem (.ref 548) (.int v u))) :
    wpAny (model prog w) A (subscriptTail value slice (.ref 548) (.int v u)) Q E s := by
  have ht : s.heap.IsTuple 548 _ := ⟨_, K 548 _ rfl, rfl, _, rfl⟩
  have ht' := tl_tup ht rfl
  have hv : v = 0 ∨ v = 1 ∨ v = 2 ∨ v = 3 ∨ v = 4 ∨ v = 5 ∨ v = 6 := by (first | lia | omega)
  rcases hv with rfl | rfl | rfl | rfl | rfl | rfl | rfl
  · exact item_tupleT (j := 0) ht' (by decide) (by decide) rfl rfl (h _ _ (by simp [IsTyped])) hs
  · exact item_tupleT (j := 1) ht' (by decide) (by decide) rfl rfl (h _ _ (by simp [IsTyped])) hs
  · exact item_tupleT (j := 2) ht' (by decide) (by decide) rfl rfl (h _ _ (by simp [IsTyped])) hs
  · exact item_tupleT (j := 3) ht' (by decide) (by decide) rfl rfl (h _ _ (by simp [IsTyped])) hs
  · exact item_tupleT (j := 4) ht' (by decide) (by decide) rfl rfl (h _ _ (by simp [IsTyped])) hs
  · exact item_tupleT (j := 5) ht' (by decide) (by decide) rfl rfl (h _ _ (by simp [IsTyped])) hs
  · exact item_tupleT (j := 6) ht' (by decide) (by decide) rfl rfl (h _ _ (by simp [IsTyped])) hs
theorem law_draw_mid {post : Led} (pre : Led) {d ll : Addr} {q : DeckS} {many : Int} {t0 : Nat} (B : Below A₀ base outer h₀) (F : Fr h₀ L s.heap m) (X : (Mine.frag.heap_1 w.params).In h₀) (N : News h₀ L s.heap (pre ++ (d, q.o) :: (ll, listOf q.lv.toArray q.nl) :: post)) (T : Top p loose mean mg mb h₀) (hk : cs.kind = .function)
   (hd : dp + 3 < recursionLimit) (hu : un + 100 < cLine)
   (hq : DeckOk prog w ll q) (hlo : (d == sysModules) = false) (hne : @Ne Nat ll d) (ha1 : ∀ p ∈ pre, @Ne Nat p.1 d) (ha2 : ∀ p ∈ pre, @Ne Nat p.1 ll) (ho1 : ∀ p ∈ post, @Ne Nat p.1 d) (ho2 : ∀ p ∈ post, @Ne Nat p.1 ll) (h10 : 1 ≤ many) (h11 : many ≤ 20)
   (hret : ∀ v t' q' h' tk', Fr h₀ L h' m → News h₀ L h' (pre ++ (d, q'.o) :: (ll, listOf q'.lv.toArray q'.nl) :: post) → DeckOk prog w ll q' → 0 ≤ v → v < many → Q (.int v t') { s with heap := h', toks := tk' }) :
   wpAny (model prog w) (ktrTop dp un gd cn cs L a ccd cl outer) (call (.ref 565) [.ref d, .int many t0]) Q E s := by
  refine law_draw_ok (rest := pre ++ post) (q := q) B F X (news_sub N ?_) T hk hd hu hq hlo hne (fun p hp => (List.mem_append.mp hp).elim (ha1 p) (ho1 p)) (fun p hp => (List.mem_append.mp hp).elim (ha2 p) (ho2 p)) h10 h11 (fun v t' q' h' tk' F' N' hq' h0 h1 => hret v t' q' h' tk' F' (news_sub N' ?_) hq' h0 h1)
  · intro x hx
    unfold deckL at hx
    simp only [List.mem_cons, List.mem_append] at hx ⊢
    rcases hx with hx | hx | hx | hx <;> simp only [hx, true_or, or_true]
  · intro x hx
    unfold deckL
    simp only [List.mem_cons, List.mem_append] at hx ⊢
    rcases hx with hx | hx | hx | hx <;> simp only [hx, true_or, or_true]

end
end
section
theorem rg65 : True := by
  k_with_none
  k_with "omega" => (first | decide | (with_reducible first | exact Int.natCast_nonneg _ | exact rm1 ‹_› (by decide) | exact rm2 ‹_› (by decide) | exact rm3 ‹_› (by decide) | exact om_le ‹_› (by decide) | exact om_63 ‹_› (by decide) | exact om_eqle ‹_› ‹_› (by decide) | exact om_eq63 ‹_› ‹_› (by decide) | exact om_add ‹_› (by decide) | exact om_ne ‹_› (by decide) | exact om_le2 ‹_› ‹_› (by decide) | exact om_le2s ‹_› ‹_› (by decide) | exact om_le2_63 ‹_› ‹_› (by decide) | exact om_le2s_63 ‹_› ‹_› (by decide) | exact om_z62 ‹_› (by decide) | exact om_zn62 | exact om_kle ‹_› (by decide) | exact om_neg1 | exact om_pos | exact om_at ‹_› (by decide) | exact om_at0 ‹_› | exact om_add63 ‹_› (by decide) | exact Nat.ne_of_gt (by k_extra "pick") | exact Nat.ne_of_lt (by k_extra "pick")))
  k_with "ktr_room" => (first | exact rm0 (by assumption) | exact rm1 (by assumption) (Nat.le_of_ble_eq_true rfl))
  k_with "k_ne" => ((refine neN ?_; (try dsimp only); first | exact Nat.ne_of_gt (by assumption) | exact Nat.ne_of_lt (by assumption) | exact Nat.ne_of_gt (And.left (by assumption)) | exact Nat.ne_of_lt (And.left (by assumption)) | exact Nat.ne_of_gt (And.left (And.right (by assumption))) | exact Nat.ne_of_lt (And.left (And.right (by assumption))) | exact Nat.ne_of_gt (And.right (by assumption)) | exact Nat.ne_of_lt (And.right (by assumption)) | exact Nat.ne_of_gt (And.left (And.right (And.right (by assumption)))) | exact Nat.ne_of_lt (And.left (And.right (And.right (by assumption)))) | exact Nat.ne_of_gt (And.right (And.right (by assumption))) | exact Nat.ne_of_lt (And.right (And.right (by assumption)))))
  k_with "pick" => (with_reducible first | assumption | exact And.left ‹_› | exact And.left (And.right ‹_›) | exact And.left (And.right (And.right ‹_›)) | exact And.left (And.right (And.right (And.right ‹_›))) | exact And.left (And.right (And.right (And.right (And.right ‹_›)))) | exact And.left (And.right (And.right (And.right (And.right (And.right ‹_›))))) | exact And.left (And.right (And.right (And.right (And.right (And.right (And.right ‹_›)))))) | exact And.left (And.right (And.right (And.right (And.right (And.right (And.right (And.right ‹_›))))))) | exact And.left (And.right (And.right (And.right (And.right (And.right (And.right (And.right (And.right ‹_›)))))))) | exact And.left (And.right (And.right (And.right (And.right (And.right (And.right (And.right (And.right (And.right ‹_›))))))))) | exact And.left (And.right (And.right (And.right (And.right (And.right (And.right (And.right (And.right (And.right (And.right ‹_›)))))))))) | exact (And.right ‹_›) | exact (And.right (And.right ‹_›)) | exact (And.right (And.right (And.right ‹_›))) | exact (And.right (And.right (And.right (And.right ‹_›)))) | exact (And.right (And.right (And.right (And.right (And.right ‹_›))))) | exact (And.right (And.right (And.right (And.right (And.right (And.right ‹_›)))))) | exact (And.right (And.right (And.right (And.right (And.right (And.right (And.right ‹_›))))))) | exact (And.right (And.right (And.right (And.right (And.right (And.right (And.right (And.right ‹_›)))))))) | exact (And.right (And.right (And.right (And.right (And.right (And.right (And.right (And.right (And.right ‹_›))))))))) | exact (And.right (And.right (And.right (And.right (And.right (And.right (And.right (And.right (And.right (And.right ‹_›)))))))))))
  k_with "k_room" => (((simp only [depth_under_make, depth_under_kw, depth_in1, depth_deeper, depth_caller]); omega))
  k_with "k_all" => (assumption)
  k_with "eval Name" => (k_here; dsimp only)
  k_with "eval Call" => (k_here; dsimp only)
  k_with "eval Constant int" => (k_here; dsimp only)
  k_with "eval Attribute Name" => (k_here; dsimp only)
  k_with "eval BinOp" => (k_here; dsimp only)
  k_with "storeName" => (k_here; dsimp only)
  k_with "setAttr ref" => (k_here; dsimp only)
  k_with "eval Compare" => (k_here; dsimp only)
  k_with "isTrue Compare" => (k_here; dsimp only)
  k_with "eval Subscript" => (k_here; dsimp only)
  k_with "execs cons" => (k_here; first | (with_reducible rename News _ _ _ _ => nZ9; dsimp only at nZ9) | dsimp only | ((with_reducible show wpAny _ _ _ _ _ (Shared.mk _ _ _ (HAdd.hAdd _ _) _)); refine gen_toks ?_; intro _))
  k_with "eval Name" => (k_here; (fail_if_success (with_reducible show wpAny _ _ (eval _ (compEnvC _ _ _ _)) _ _ _)); (try dsimp only); k_dflt (first | (refine' nameX_L ?q9F ?q9v ?_ ?q9a ?q9b; (case q9F => k_asm); (case q9a => rfl); (case q9b => rfl); (case q9v => rfl); k_whole) | (refine' nameX_K ?q9F ?q9X ?q9T ?q9e ?_ ?q9a ?q9b; (case q9F => k_asm); (case q9X => k_asm); (case q9T => k_asm); (case q9a => rfl); (case q9b => rfl); (case q9e => k_is); k_whole) | (refine' nameX_B ?q9F ?q9X ?q9T ?q9e ?q9v ?q9n ?_ ?q9a ?q9b; (case q9F => k_asm); (case q9X => k_asm); (case q9T => k_asm); (case q9a => rfl); (case q9b => rfl); (case q9e => k_is); (case q9v => boot_fast); (case q9n => decide); k_whole)))
  k_with "execs cons" => (k_here; (try (with_reducible rename News _ _ _ _ => nZ9; dsimp only at nZ9)); (try dsimp only); (try ((with_reducible show wpAny _ _ _ _ _ (Shared.mk _ _ _ (HAdd.hAdd _ _) _)); refine gen_toks ?_; intro _)); (with_reducible refine wpAny_execs_cons ?_); (try dsimp only))
  k_with "eval Constant int" => (k_here; (try dsimp only); refine wpAny_Constant_int ?_)
  k_with "spliced" => (k_here; (fail_if_success (with_reducible show wpAny _ _ (spliced (backTo _ (starEach (PySem.Expr.Starred _ _ :: _) _))) _ _ _)); k_dflt (first | refine args_cons ?_ | (refine args_nil ?_; try simp only [List.cons_append, List.nil_append])))
  k_with "subscriptTail" => (k_here; (with_reducible show wpAny _ _ (subscriptTail _ _ (Value.ref _) (Value.int _ _)) _ _ _); k_dflt (refine' item_tupleT ?q9t ?q9a ?q9b ?q9c ?q9d ?_; (case q9t => exact News.isTup (by k_asm) (by k_mem)); (case q9a => decide); (case q9b => decide); (case q9c => rfl); (case q9d => rfl); k_whole))
  k_with "storeName" => (k_here; (fail_if_success (with_reducible show wpAny _ _ (storeName _ _ (compEnvC _ _ _ _)) _ _ _)); (try dsimp only); k_dflt (refine' storeX_L ?q9F ?q9N ?_ ?q9a ?q9b; (case q9F => k_asm); (case q9N => k_asm); (case q9a => rfl); (case q9b => rfl); k_whole; intro z9h z9F z9N; (try k_sweep)))
  k_with "callWith ref" => (k_here; k_dflt (first | (refine' callWith_K ?q9a ?q9b ?_; (case q9a => k_asm); (case q9b => k_is); k_whole) | (refine' callWith_K0 ?q9a ?q9b ?_; (case q9a => k_in); (case q9b => k_is); k_whole) | (refine' callWith_M0 ?q9a ?q9b ?_; (case q9a => k_meth); (case q9b => k_is); k_whole; try dsimp only [List.nil_append, List.cons_append]) | (refine' callWith_M ?q9a ?q9b ?q9c ?q9d ?_; (case q9a => k_asm); (case q9b => k_asm); (case q9c => k_mem); (case q9d => k_is); k_whole)))
  k_with "truthy bool" => (with_reducible refine wpAny_truthy_bool ?_)
  k_with "k_mem" => first | with_reducible assumption | assumption
  k_with "subscriptTail" => (k_here; (with_reducible show wpAny _ _ (subscriptTail _ _ (Value.ref _) (Value.int _ _)) _ _ _); (with_unfolding_all refine' item_litK ?q9k1 ?q9k2 ?q9k3 ?q9k4 ?_ ?q9k6; (case q9k1 => exact News.isList (by k_asm) (by k_mem)); (case q9k2 => decide); (case q9k3 => decide); (case q9k4 => rfl); (case q9k6 => with_unfolding_all rfl); k_whole))
  k_with "callWith" => ((with_reducible show wpAny _ _ (callWith _ (Value.builtin _) (_ :: _) (backTo _ (starEach (_ :: _) _)) []) _ _ _); k_dflt (refine callWith_method1 ?_))
  trivial
section
variable {prog : Program} {w : World} {p : Program} {loose : List Str} {mean : ExcName → Option Value} {mg mb : Str → Option Value}
 {dp un : Nat} {gd : Option (List Code)} {cn : Str} {cs : Scope} {a : Addr} {ccd : Value} {cl : List (Str × Addr)} {outer : List Env} {A₀ : Around} {base h₀ : Heap} {L : Addr} {m : Str → Option Value} {s : Shared} {Q E : Value → Shared → Prop}
noncomputable def encB (c : Int) : Array UInt8 := byteArr (enc c)
theorem enc_in {c : Int} (h : IsSign c) : KBa.In (enc c) := by
  have hs : 0 ≤ c ∧ (c < 128 ∨ 19968 ≤ c ∧ c ≤ 19970) := by rcases h with h | h | h | h | h <;> (first | lia | omega)
  intro n hn
  unfold enc at hn
  split at hn
  · simp only [List.mem_cons, List.not_mem_nil, or_false] at hn
    rcases hn with hn | hn | hn <;> (first | lia | omega)
  · simp only [List.mem_cons, List.not_mem_nil, or_false] at hn
    (first | lia | omega)
theorem encB_size (c : Int) : (encB c).size ≤ 10 := by
  unfold encB byteArr enc
  split <;> simp
theorem octs_join {ss : List Int} {oc : Array UInt8} (h : ∀ x ∈ ss, IsSign x) (hc : oc.toList = ((ss.map encB).map Array.toList).flatten) : KBw.bInts oc = encs ss := by
  unfold KBw.bInts
  rw [hc]
  clear hc
  induction ss with
  | nil => rfl
  | cons a r ih =>
    have h1 := KBa.ints_make (enc_in (h a (.head _)))
    rw [encs_cons, List.map_cons, List.map_cons, List.flatten_cons, List.map_append, ih fun x hx => h x (.tail _ hx)]
    exact congrArg (· ++ _) h1
noncomputable def OctI (codes : List Int) (rest : Led) (i : Nat) (ys : List Value) (nw : Led) : Prop := (∃ tl, nw = tl ++ rest) ∧ BytesAre ys ((codes.take i).map encB)
theorem BytesAre.append {vs vs' : List Value} {bs bs' : List (Array UInt8)} (h : BytesAre vs bs) (h' : BytesAre vs' bs') : BytesAre (vs ++ vs') (bs ++ bs') := by
  induction h with
  | nil => exact h'
  | cons b t _ ih => exact .cons b t ih
theorem OctI.snoc {codes : List Int} {rest tl : Led} {i : Nat} {ys : List Value} {c : Int} {ns : List Int} {t : Tok} {x : Addr × Obj} (hb : BytesAre ys ((codes.take i).map encB)) (hc : codes[i]? = some c) (hn : ns = enc c) :
    OctI codes rest (i + 1) (ys ++ [.bytes (byteArr ns) t]) (x :: (tl ++ rest)) := by
  subst hn
  refine ⟨⟨x :: tl, rfl⟩, ?_⟩
  rw [List.take_add_one, hc, List.map_append]
  exact hb.append (.cons (encB c) t .nil)
theorem sign_rng {c : Int} (h : IsSign c) : 0 ≤ c ∧ c ≤ 19970 ∧ (c < 128 ∨ 19968 ≤ c) := by
  rcases h with h | h | h | h | h <;> (first | lia | omega)
theorem enc3 {c : Int} (h : 19968 ≤ c) : [228, 184, 128 + c - 19968] = enc c := by
  unfold enc
  rw [if_pos h]
  congr 3
  (first | lia | omega)
theorem enc1 {c : Int} (h : ¬ 19968 ≤ c) : [c] = enc c := by
  unfold enc
  rw [if_neg h]
theorem signs_ok {ss : List Int} (h : ∀ x ∈ ss, IsSign x) : ∀ x ∈ ss, SignOk x := fun x hx => by
  rcases h x hx with h | h | h | h | h <;> unfold SignOk <;> (first | lia | omega)
theorem lts3 {I C D l' : Addr} (h : @LT.lt Nat _ I l') (h2 : @LT.lt Nat _ C l') (h3 : @LT.lt Nat _ D l') {o : Obj} {tl rest : Led} (off : LCg.Off3 I C D (tl ++ rest)) : LCg.Off3 I C D ((l', o) :: (tl ++ rest)) :=
  ⟨⟨Nat.ne_of_gt h, Nat.ne_of_gt h2, Nat.ne_of_gt h3⟩, off⟩
theorem ints_at {vs : List Value} {ns : List Int} (h : IntsAre vs ns) {i : Nat} {v : Value} (hv : vs.toArray[i]? = some v) : ∃ c t, ns[i]? = some c ∧ v = .int c t := by
  rw [List.getElem?_toArray] at hv
  have hil : i < ns.length := by rw [← h.length]; exact (List.getElem?_eq_some_iff.mp hv).1
  obtain ⟨t, ht⟩ := h.get i (ns[i]'hil) (List.getElem?_eq_getElem hil)
  rw [hv] at ht
  exact ⟨_, t, List.getElem?_eq_getElem hil, Option.some.inj ht⟩
theorem octI_fin {codes : List Int} {rest nw : Led} {ys vs : List Value} (hI : IntsAre vs codes) (h : OctI codes rest vs.toArray.size ys nw) : (∃ tl, nw = tl ++ rest) ∧ BytesAre ys (codes.map encB) := by
  refine ⟨h.1, ?_⟩
  have := h.2
  rw [List.size_toArray, hI.length, List.take_length] at this
  exact this
theorem sub_oct {x a b c : Addr × Obj} {T : Led} : ∀ p ∈ a :: b :: c :: x :: T, p ∈ x :: a :: b :: c :: T := by
  intro q hq
  simp only [List.mem_cons] at hq ⊢
  rcases hq with hq | hq | hq | hq | hq <;> simp only [hq, true_or, or_true]

end
end
section
theorem rg66 : True := by
  k_with_none
  k_with "omega" => (first | decide | (with_reducible first | exact Int.natCast_nonneg _ | exact rm1 ‹_› (by decide) | exact rm2 ‹_› (by decide) | exact rm3 ‹_› (by decide) | exact om_le ‹_› (by decide) | exact om_63 ‹_› (by decide) | exact om_eqle ‹_› ‹_› (by decide) | exact om_eq63 ‹_› ‹_› (by decide) | exact om_add ‹_› (by decide) | exact om_ne ‹_› (by decide) | exact om_le2 ‹_› ‹_› (by decide) | exact om_le2s ‹_› ‹_› (by decide) | exact om_le2_63 ‹_› ‹_› (by decide) | exact om_le2s_63 ‹_› ‹_› (by decide) | exact om_z62 ‹_› (by decide) | exact om_zn62 | exact om_kle ‹_› (by decide) | exact om_neg1 | exact om_pos | exact om_at ‹_› (by decide) | exact om_at0 ‹_› | exact om_add63 ‹_› (by decide) | exact Nat.ne_of_gt (by k_extra "pick") | exact Nat.ne_of_lt (by k_extra "pick")))
  k_with "ktr_room" => (first | exact rm0 (by assumption) | exact rm1 (by assumption) (Nat.le_of_ble_eq_true rfl))
  k_with "k_ne" => ((refine neN ?_; (try dsimp only); first | exact Nat.ne_of_gt (by assumption) | exact Nat.ne_of_lt (by assumption) | exact Nat.ne_of_gt (And.left (by assumption)) | exact Nat.ne_of_lt (And.left (by assumption)) | exact Nat.ne_of_gt (And.left (And.right (by assumption))) | exact Nat.ne_of_lt (And.left (And.right (by assumption))) | exact Nat.ne_of_gt (And.right (by assumption)) | exact Nat.ne_of_lt (And.right (by assumption)) | exact Nat.ne_of_gt (And.left (And.right (And.right (by assumption)))) | exact Nat.ne_of_lt (And.left (And.right (And.right (by assumption)))) | exact Nat.ne_of_gt (And.right (And.right (by assumption))) | exact Nat.ne_of_lt (And.right (And.right (by assumption)))))
  k_with "pick" => (with_reducible first | assumption | exact And.left ‹_› | exact And.left (And.right ‹_›) | exact And.left (And.right (And.right ‹_›)) | exact And.left (And.right (And.right (And.right ‹_›))) | exact And.left (And.right (And.right (And.right (And.right ‹_›)))) | exact And.left (And.right (And.right (And.right (And.right (And.right ‹_›))))) | exact And.left (And.right (And.right (And.right (And.right (And.right (And.right ‹_›)))))) | exact And.left (And.right (And.right (And.right (And.right (And.right (And.right (And.right ‹_›))))))) | exact And.left (And.right (And.right (And.right (And.right (And.right (And.right (And.right (And.right ‹_›)))))))) | exact And.left (And.right (And.right (And.right (And.right (And.right (And.right (And.right (And.right (And.right ‹_›))))))))) | exact And.left (And.right (And.right (And.right (And.right (And.right (And.right (And.right (And.right (And.right (And.right ‹_›)))))))))) | exact (And.right ‹_›) | exact (And.right (And.right ‹_›)) | exact (And.right (And.right (And.right ‹_›))) | exact (And.right (And.right (And.right (And.right ‹_›)))) | exact (And.right (And.right (And.right (And.right (And.right ‹_›))))) | exact (And.right (And.right (And.right (And.right (And.right (And.right ‹_›)))))) | exact (And.right (And.right (And.right (And.right (And.right (And.right (And.right ‹_›))))))) | exact (And.right (And.right (And.right (And.right (And.right (And.right (And.right (And.right ‹_›)))))))) | exact (And.right (And.right (And.right (And.right (And.right (And.right (And.right (And.right (And.right ‹_›))))))))) | exact (And.right (And.right (And.right (And.right (And.right (And.right (And.right (And.right (And.right (And.right ‹_›)))))))))))
  k_with "k_room" => (((simp only [depth_under_make, depth_under_kw, depth_in1, depth_deeper, depth_caller]); omega))
  k_with "k_all" => (assumption)
  k_with "eval Name" => (k_here; dsimp only)
  k_with "eval Call" => (k_here; dsimp only)
  k_with "eval Constant int" => (k_here; dsimp only)
  k_with "eval Attribute Name" => (k_here; dsimp only)
  k_with "eval BinOp" => (k_here; dsimp only)
  k_with "storeName" => (k_here; dsimp only)
  k_with "setAttr ref" => (k_here; dsimp only)
  k_with "eval Compare" => (k_here; dsimp only)
  k_with "isTrue Compare" => (k_here; dsimp only)
  k_with "eval Subscript" => (k_here; dsimp only)
  k_with "execs cons" => (k_here; first | (with_reducible rename News _ _ _ _ => nZ9; dsimp only at nZ9) | dsimp only | ((with_reducible show wpAny _ _ _ _ _ (Shared.mk _ _ _ (HAdd.hAdd _ _) _)); refine gen_toks ?_; intro _))
  k_with "eval Name" => (k_here; (fail_if_success (with_reducible show wpAny _ _ (eval _ (compEnvC _ _ _ _)) _ _ _)); (try dsimp only); k_dflt (first | (refine' nameX_L ?q9F ?q9v ?_ ?q9a ?q9b; (case q9F => k_asm); (case q9a => rfl); (case q9b => rfl); (case q9v => rfl); k_whole) | (refine' nameX_K ?q9F ?q9X ?q9T ?q9e ?_ ?q9a ?q9b; (case q9F => k_asm); (case q9X => k_asm); (case q9T => k_asm); (case q9a => rfl); (case q9b => rfl); (case q9e => k_is); k_whole) | (refine' nameX_B ?q9F ?q9X ?q9T ?q9e ?q9v ?q9n ?_ ?q9a ?q9b; (case q9F => k_asm); (case q9X => k_asm); (case q9T => k_asm); (case q9a => rfl); (case q9b => rfl); (case q9e => k_is); (case q9v => boot_fast); (case q9n => decide); k_whole)))
  k_with "execs cons" => (k_here; (try (with_reducible rename News _ _ _ _ => nZ9; dsimp only at nZ9)); (try dsimp only); (try ((with_reducible show wpAny _ _ _ _ _ (Shared.mk _ _ _ (HAdd.hAdd _ _) _)); refine gen_toks ?_; intro _)); (with_reducible refine wpAny_execs_cons ?_); (try dsimp only))
  k_with "eval Constant int" => (k_here; (try dsimp only); refine wpAny_Constant_int ?_)
  k_with "spliced" => (k_here; (fail_if_success (with_reducible show wpAny _ _ (spliced (backTo _ (starEach (PySem.Expr.Starred _ _ :: _) _))) _ _ _)); k_dflt (first | refine args_cons ?_ | (refine args_nil ?_; try simp only [List.cons_append, List.nil_append])))
  k_with "subscriptTail" => (k_here; (with_reducible show wpAny _ _ (subscriptTail _ _ (Value.ref _) (Value.int _ _)) _ _ _); k_dflt (refine' item_tupleT ?q9t ?q9a ?q9b ?q9c ?q9d ?_; (case q9t => exact News.isTup (by k_asm) (by k_mem)); (case q9a => decide); (case q9b => decide); (case q9c => rfl); (case q9d => rfl); k_whole))
  k_with "storeName" => (k_here; (fail_if_success (with_reducible show wpAny _ _ (storeName _ _ (compEnvC _ _ _ _)) _ _ _)); (try dsimp only); k_dflt (refine' storeX_L ?q9F ?q9N ?_ ?q9a ?q9b; (case q9F => k_asm); (case q9N => k_asm); (case q9a => rfl); (case q9b => rfl); k_whole; intro z9h z9F z9N; (try k_sweep)))
  k_with "callWith ref" => (k_here; k_dflt (first | (refine' callWith_K ?q9a ?q9b ?_; (case q9a => k_asm); (case q9b => k_is); k_whole) | (refine' callWith_K0 ?q9a ?q9b ?_; (case q9a => k_in); (case q9b => k_is); k_whole) | (refine' callWith_M0 ?q9a ?q9b ?_; (case q9a => k_meth); (case q9b => k_is); k_whole; try dsimp only [List.nil_append, List.cons_append]) | (refine' callWith_M ?q9a ?q9b ?q9c ?q9d ?_; (case q9a => k_asm); (case q9b => k_asm); (case q9c => k_mem); (case q9d => k_is); k_whole)))
  k_with "truthy bool" => (with_reducible refine wpAny_truthy_bool ?_)
  k_with "k_mem" => first | with_reducible assumption | assumption
  k_with "subscriptTail" => (k_here; (with_reducible show wpAny _ _ (subscriptTail _ _ (Value.ref _) (Value.int _ _)) _ _ _); (with_unfolding_all refine' item_litK ?q9k1 ?q9k2 ?q9k3 ?q9k4 ?_ ?q9k6; (case q9k1 => exact News.isList (by k_asm) (by k_mem)); (case q9k2 => decide); (case q9k3 => decide); (case q9k4 => rfl); (case q9k6 => with_unfolding_all rfl); k_whole))
  k_with "callWith" => ((with_reducible show wpAny _ _ (callWith _ (Value.builtin _) (_ :: _) (backTo _ (starEach (_ :: _) _)) []) _ _ _); k_dflt (refine callWith_method1 ?_))
  trivial
section
variable {prog : Program} {w : World} {p : Program} {loose : List Str} {mean : ExcName → Option Value} {mg mb : Str → Option Value}
 {dp un : Nat} {gd : Option (List Code)} {cn : Str} {cs : Scope} {a : Addr} {ccd : Value} {cl : List (Str × Addr)} {outer : List Env} {A₀ : Around} {base h₀ : Heap} {L : Addr} {m : Str → Option Value} {s : Shared} {Q E : Value → Shared → Prop}
theorem rg67 : True := by
  k_with "k_mem" => first | with_reducible assumption | ((repeat (first | with_reducible assumption | exact List.Mem.head _ | exact List.mem_append_left _ (by with_reducible assumption) | refine List.Mem.tail _ ?_ | refine List.mem_append_right _ ?_ | assumption | refine m_tr (by with_reducible assumption) ?_)); done)
  k_with "ite" => first | (refine ite_pos (by first | omega | (simp only [beq_iff_eq, decide_eq_true_eq]; omega)) ?_; walk_say "BY OMEGA") | (refine ite_neg (by first | omega | (simp only [beq_iff_eq, decide_eq_true_eq]; omega)) ?_; walk_say "BY OMEGA")
  k_with "exec For Tuple Call cons nil" => (k_here; (rename Fr _ _ _ _ => z9lF'); (with_unfolding_all refine' For_turns z9lF' ?_; k_whole))
  k_with "UnrEndW" => k_dflt (first | (refine' unrWk [] ?q9zF ?q9zN ?q9zp ?q9za ⟨?q9zk, ?_⟩; (case q9zF => assumption); (case q9zN => assumption); (case q9zp => (repeat (first | exact off_nil | (refine' off_cons ?q9zz ?_; (case q9zz => k_ne))))); (case q9za => (repeat (first | exact off_lt (by assumption) | (refine' off_cons ?q9zz ?_; (case q9zz => k_ne))))); (case q9zk => first | trivial | exact ⟨(by k_mem), trivial⟩); (try simp only [List.cons_append, List.nil_append])) | (refine' unrWk [_] ?q9zF ?q9zN ?q9zp ?q9za ⟨?q9zk, ?_⟩; (case q9zF => assumption); (case q9zN => assumption); (case q9zp => (repeat (first | exact off_nil | (refine' off_cons ?q9zz ?_; (case q9zz => k_ne))))); (case q9za => (repeat (first | exact off_lt (by assumption) | (refine' off_cons ?q9zz ?_; (case q9zz => k_ne))))); (case q9zk => first | trivial | exact ⟨(by k_mem), trivial⟩); (try simp only [List.cons_append, List.nil_append])) | (refine' unrWk [_, _] ?q9zF ?q9zN ?q9zp ?q9za ⟨?q9zk, ?_⟩; (case q9zF => assumption); (case q9zN => assumption); (case q9zp => (repeat (first | exact off_nil | (refine' off_cons ?q9zz ?_; (case q9zz => k_ne))))); (case q9za => (repeat (first | exact off_lt (by assumption) | (refine' off_cons ?q9zz ?_; (case q9zz => k_ne))))); (case q9zk => first | trivial | exact ⟨(by k_mem), trivial⟩); (try simp only [List.cons_append, List.nil_append])) | (refine' unrWk [_, _, _] ?q9zF ?q9zN ?q9zp ?q9za ⟨?q9zk, ?_⟩; (case q9zF => assumption); (case q9zN => assumption); (case q9zp => (repeat (first | exact off_nil | (refine' off_cons ?q9zz ?_; (case q9zz => k_ne))))); (case q9za => (repeat (first | exact off_lt (by assumption) | (refine' off_cons ?q9zz ?_; (case q9zz => k_ne))))); (case q9zk => first | trivial | exact ⟨(by k_mem), trivial⟩); (try simp only [List.cons_append, List.nil_append])) | (refine' unrWk [_, _, _, _] ?q9zF ?q9zN ?q9zp ?q9za ⟨?q9zk, ?_⟩; (case q9zF => assumption); (case q9zN => assumption); (case q9zp => (repeat (first | exact off_nil | (refine' off_cons ?q9zz ?_; (case q9zz => k_ne))))); (case q9za => (repeat (first | exact off_lt (by assumption) | (refine' off_cons ?q9zz ?_; (case q9zz => k_ne))))); (case q9zk => first | trivial | exact ⟨(by k_mem), trivial⟩); (try simp only [List.cons_append, List.nil_append])) | (refine' unrWk [_, _, _, _, _] ?q9zF ?q9zN ?q9zp ?q9za ⟨?q9zk, ?_⟩; (case q9zF => assumption); (case q9zN => assumption); (case q9zp => (repeat (first | exact off_nil | (refine' off_cons ?q9zz ?_; (case q9zz => k_ne))))); (case q9za => (repeat (first | exact off_lt (by assumption) | (refine' off_cons ?q9zz ?_; (case q9zz => k_ne))))); (case q9zk => first | trivial | exact ⟨(by k_mem), trivial⟩); (try simp only [List.cons_append, List.nil_append])) | (refine' unrWk [_, _, _, _, _, _] ?q9zF ?q9zN ?q9zp ?q9za ⟨?q9zk, ?_⟩; (case q9zF => assumption); (case q9zN => assumption); (case q9zp => (repeat (first | exact off_nil | (refine' off_cons ?q9zz ?_; (case q9zz => k_ne))))); (case q9za => (repeat (first | exact off_lt (by assumption) | (refine' off_cons ?q9zz ?_; (case q9zz => k_ne))))); (case q9zk => first | trivial | exact ⟨(by k_mem), trivial⟩); (try simp only [List.cons_append, List.nil_append])) | (refine' unrWk [_, _, _, _, _, _, _] ?q9zF ?q9zN ?q9zp ?q9za ⟨?q9zk, ?_⟩; (case q9zF => assumption); (case q9zN => assumption); (case q9zp => (repeat (first | exact off_nil | (refine' off_cons ?q9zz ?_; (case q9zz => k_ne))))); (case q9za => (repeat (first | exact off_lt (by assumption) | (refine' off_cons ?q9zz ?_; (case q9zz => k_ne))))); (case q9zk => first | trivial | exact ⟨(by k_mem), trivial⟩); (try simp only [List.cons_append, List.nil_append])))
  k_with "exec For" => (k_here; (rename Fr _ _ _ _ => z9lF'); (with_unfolding_all refine' For_turns z9lF' ?_; k_whole))
  k_with "exec For Name Call cons nil" => (k_here; (rename Fr _ _ _ _ => z9lF'); (with_unfolding_all refine' For_turns z9lF' ?_; k_whole))
  k_with "exec For Tuple Name cons nil" => (k_here; (rename Fr _ _ _ _ => z9lF'); (with_unfolding_all refine' For_turns z9lF' ?_; k_whole))
  k_with "pyIter ref" => (k_here; (with_reducible show wpAny _ _ (pyIter (Value.ref _)) (fun it s₂ => TurnsAt _ _ _ _ _ _ _ _ _ it s₂) _ _); (rename Fr _ _ _ _ => z9lF'); (rename News _ _ _ _ => z9lN'); (with_unfolding_all refine' iter_listTurns (vs := [_]) ?q9zh z9lF' z9lN' ?q9zm ?q9zc ?q9zd ?_; (case q9zh => rfl); (case q9zm => k_mem); (case q9zc => rfl); (case q9zd => rfl)); clear z9lF' z9lN'; intro _ z9l1; (try k_lt z9l1))
  trivial
theorem unr2 {h' : Heap} {m' : Str → Option Value} {I : Addr} {s₁ : Shared} {o1 o2 : Obj} {post : Led} {rest : (Str → Option Value) → Led → Prop} {tk : Nat} (F : Fr h₀ L h' m') (N : News h₀ L h' ((I + 1, o1) :: (I, o2) :: post)) (off : ∀ p ∈ post, p.1 < I) (r : rest m' post) : UnrEndW h₀ L s₁ [(I + 1, o1), (I, o2)] rest { s₁ with heap := h', toks := tk } := by
  refine ⟨h', tk, m', post, rfl, F, N, ?_, r⟩
  intro p hp q hq
  have h1 := off p hp
  have e : q.1 = I + 1 ∨ q.1 = I := by
    rcases List.mem_cons.mp hq with rfl | hq
    · exact .inl rfl
    · rw [List.mem_singleton.mp hq]; exact .inr rfl
  rcases e with e | e
  · rw [e]; exact Nat.ne_of_lt (Nat.lt_succ_of_lt h1)
  · rw [e]; exact Nat.ne_of_lt h1
theorem rg68 : True := by
  k_with "UnrEndW" => k_dflt (refine' unr2 ?q9zF ?q9zN ?q9za ⟨?q9zk, ?_⟩; (case q9zF => assumption); (case q9zN => assumption); (case q9za => assumption); (case q9zk => exact ⟨(by k_mem), trivial⟩))
  k_with "call type:enumerate" => (k_here; (with_reducible show wpAny _ _ (call (Value.type _) [Value.ref _]) _ _ _); (rename Fr _ _ _ _ => z9lF'); (rename News _ _ _ _ => z9lN'); k_dflt (refine' ktu_enum (vs := []) (xs := []) ?q9zh z9lF' z9lN' ?q9zm ?q9zc ?q9zd ?q9zx ?_; (case q9zh => exact rfl); (case q9zm => exact List.Mem.head _); (case q9zc => exact rfl); (case q9zd => exact rfl); (case q9zx => exact rfl)); clear z9lF' z9lN'; intro _ _)
  k_with "call type:enumerate" => (k_here; (with_reducible show wpAny _ _ (call (Value.type _) [Value.ref _]) _ _ _); (rename Fr _ _ _ _ => z9lF'); (rename News _ _ _ _ => z9lN'); k_dflt (refine' ktu_enum (vs := [_]) (xs := [Itm.pair (fun t => Value.int (0 : Int) t) _]) ?q9zh z9lF' z9lN' ?q9zm ?q9zc ?q9zd ?q9zx ?_; (case q9zh => exact rfl); (case q9zm => exact List.Mem.head _); (case q9zc => exact rfl); (case q9zd => exact rfl); (case q9zx => exact rfl)); clear z9lF' z9lN'; intro _ _)
  trivial
theorem news_two {h : Heap} {a b : Addr × Obj} {news : Led} (N : News h₀ L h news) (ha : a ∈ news) (hb : b ∈ news) : News h₀ L h (a :: b :: news) := news_sub N (by
  intro q hq
  rcases List.mem_cons.mp hq with rfl | hq
  · exact ha
  rcases List.mem_cons.mp hq with rfl | hq
  · exact hb
  exact hq)
theorem check_nil {news : Led} {l : Addr} {n : Nat} (B : Below A₀ base outer h₀) (F : Fr h₀ L s.heap m) (X : (Mine.frag.heap_1 w.params).In h₀) (N : News h₀ L s.heap news) (T : Top p loose mean mg mb h₀) (hk : cs.kind = .function)
   (hd : dp + 2 < recursionLimit) (hu : un + 80 < cLine) (hm : (l, listOf #[] n) ∈ news)
   (hret : ∀ h' tk', Fr h₀ L h' m → News h₀ L h' news → Q .none { s with heap := h', toks := tk' }) :
   wpAny (model prog w) (ktrTop dp un gd cn cs L a ccd cl outer) (call (.ref 511) [.ref l]) Q E s := by
  have N2 := news_two N hm hm
  clear N
  refine wpAny_call ?_
  k_dflt ktr_enter
  k_steps
  rename News h₀ _ _ _ => kN
  exact hret _ _ (by assumption) (news_tl (news_tl kN))
theorem check_one {news : Led} {l x : Addr} {n nx ta tb : Nat} {a1 b1 : Int} (B : Below A₀ base outer h₀) (F : Fr h₀ L s.heap m) (X : (Mine.frag.heap_1 w.params).In h₀) (N : News h₀ L s.heap news) (T : Top p loose mean mg mb h₀) (hk : cs.kind = .function)
   (hd : dp + 2 < recursionLimit) (hu : un + 80 < cLine) (hm : (l, listOf #[.ref x] n) ∈ news) (hx : (x, tupO [.int a1 ta, .int b1 tb] nx) ∈ news) (h0 : -1 < a1) (h1 : a1 ≤ b1)
   (hret : ∀ h' tk', Fr h₀ L h' m → News h₀ L h' news → Q .none { s with heap := h', toks := tk' }) :
   wpAny (model prog w) (ktrTop dp un gd cn cs L a ccd cl outer) (call (.ref 511) [.ref l]) Q E s := by
  have N2 := news_two N hm hx
  clear N
  refine wpAny_call ?_
  k_dflt ktr_enter
  k_steps
  rename News h₀ _ _ _ => kN
  exact hret _ _ (by assumption) (news_tl (news_tl kN))
theorem rg69 : True := by
  k_with "pyIter ref" => (k_here; (with_reducible show wpAny _ _ (pyIter (Value.ref _)) (fun it s₂ => TurnsAt _ _ _ _ _ _ _ _ _ it s₂) _ _); (rename Fr _ _ _ _ => z9lF'); (rename News _ _ _ _ => z9lN'); (with_unfolding_all refine' iter_tupTurns (vs := [_, _, _]) ?q9zh z9lF' z9lN' ?q9zm ?q9zc ?q9zd ?_; (case q9zh => rfl); (case q9zm => exact List.Mem.head _); (case q9zc => rfl); (case q9zd => rfl)); clear z9lF' z9lN'; intro _ z9l1; (try k_lt z9l1))
  k_with "call ref" => ((with_reducible show wpAny _ _ (call (Value.ref 511) _) _ _ _); k_dflt (refine' check_nil ?q9zB ?q9zF ?q9zX ?q9zN ?q9zT ?q9zk ?q9zd ?q9zu ?q9zm ?_); ((case q9zB => k_asm); (case q9zF => k_asm); (case q9zX => k_asm); (case q9zN => k_asm); (case q9zT => k_asm); (case q9zk => k_dflt (exact rfl)); (case q9zm => k_dflt (k_mem)); (case q9zd => (show _ + _ < _; simp only [depth_deeper, depth_under_make]; omega)); (case q9zu => (show _ + _ < _; simp only [units_deeper, units_under_make]; omega))); intro _ _ _ _)
  k_with "call ref" => ((with_reducible show wpAny _ _ (call (Value.ref 511) _) _ _ _); k_dflt (refine' check_one ?q9zB ?q9zF ?q9zX ?q9zN ?q9zT ?q9zk ?q9zd ?q9zu ?q9zm ?q9zx ?q9za ?q9zb ?_); ((case q9zB => k_asm); (case q9zF => k_asm); (case q9zX => k_asm); (case q9zN => k_asm); (case q9zT => k_asm); (case q9zk => k_dflt (exact rfl)); (case q9zm => k_dflt (k_mem)); (case q9zx => k_dflt (k_mem)); (case q9za => k_dflt (decide)); (case q9zb => k_dflt (decide)); (case q9zd => (show _ + _ < _; simp only [depth_deeper, depth_under_make]; omega)); (case q9zu => (show _ + _ < _; simp only [units_deeper, units_under_make]; omega))); intro _ _ _ _)
  trivial
theorem width_table_ok {news : Led} {lw tw lm tm lj : Addr} {n1 n2 n3 n4 n5 t1 t2 t3 t4 : Nat} (B : Below A₀ base outer h₀) (F : Fr h₀ L s.heap m) (X : (Mine.frag.heap_1 w.params).In h₀) (N : News h₀ L s.heap news) (T : Top p loose mean mg mb h₀) (hk : cs.kind = .function)
   (hd : dp + 8 < recursionLimit) (hu : un + 120 < cLine) (h1 : (lw, listOf [Value.ref tw].toArray n1) ∈ news) (h2 : (tw, tupO [.int 19968 t1, .int 20000 t2] n2) ∈ news) (h3 : (lm, listOf [Value.ref tm].toArray n3) ∈ news) (h4 : (tm, tupO [.int 768 t3, .int 879 t4] n4) ∈ news) (h5 : (lj, listOf #[] n5) ∈ news)
   (hret : ∀ t news' h' tk', Fr h₀ L h' m → News h₀ L h' news' → (∀ q ∈ news, q ∈ news') → TabV news' t → Q (.ref t) { s with heap := h', toks := tk' }) :
   wpAny (model prog w) (ktrTop dp un gd cn cs L a ccd cl outer) (call (.ref 542) [.ref lw, .ref lm, .ref lj]) Q E s := by
  k_dflt (refine' call_cls ?k1 ?k2 ?k3 ?k4 ?k5 ?k6 ?_; (case k1 => k_asm); (case k2 => k_asm); (case k3 => k_asm); (case k4 => k_is); (case k5 => k_is); (case k6 => k_is); k_whole; intro x' d' h' F' N' l1 l2)
  have l1s := l1
  (try k_lt l1)
  (try k_lt2 l2)
  (try k_sweep)
  k_dflt ktr_enter
  k_steps
  rename News h₀ _ _ _ => kN
  exact hret _ _ _ _ (by assumption) kN (fun q hq => .tail _ (.tail _ (.tail _ hq))) ⟨d', lw, tw, lm, tm, lj, _, _, _, _, _, _, _, _, _, _, _, _, _, _, _, .tail _ (.head _), .tail _ (.tail _ (.head _)), .tail _ (.tail _ (.tail _ h1)), .tail _ (.tail _ (.tail _ h2)), .tail _ (.tail _ (.tail _ h3)), .tail _ (.tail _ (.tail _ h4))⟩
noncomputable def kindO (sb : Array UInt8) (g1 g2 g3 g4 : Int) (j1 j2 j3 j4 n' t2 t3 t4 : Nat) (bv : Value) : Obj := dictOf [⟨g1, .str (Str.ofString "kind") j1, .str (Str.ofString "style") t2⟩, ⟨g2, .str (Str.ofString "scope") j2, .str (Str.ofString "session") t4⟩, ⟨g3, .str (Str.ofString "first") j3, .bytes sb t3⟩, ⟨g4, .str (Str.ofString "bounds") j4, bv⟩] n'
theorem rg70 : True := by
  k_with "setItem" => (k_here; (with_reducible show wpAny _ _ (setItem (Value.ref _) (Value.bytes _ _) _) _ _ _); k_dflt (refine' kda_set (knd := bytesKind _ _) ?q9F ?q9N ?q9U ?q9d (bk_is _ _ _ _) ?q9z ?_; (case q9F => k_asm); (case q9N => k_asm); (case q9U => k_updF); (case q9d => first | assumption | exact bk_empty (by assumption)); (case q9z => rw [sizeLine_eq]; exact Nat.le_of_ble_eq_true (by with_unfolding_all rfl))); intro _ _ _ z9N' _; (try dsimp only at z9N'))
  k_with "subscriptTail" => (k_here; (with_reducible show wpAny _ _ (subscriptTail _ _ (Value.ref _) (Value.bytes _ _)) _ _ _); k_dflt (refine kda_item (knd := bytesKind _ _) (by k_asm) (by k_mem) (by assumption) (bk_is _ _ _ _) (by with_unfolding_all rfl) ?_))
  k_with "compareOp In bytes ref" => (k_here; (with_reducible show wpAny _ _ (compareOp CmpOp.In (Value.bytes _ _) (Value.ref _)) _ _ _); k_dflt (first | refine kda_in (knd := bytesKind _ _) (by k_asm) (by k_mem) (by assumption) (by assumption) (bk_is _ _ _ _) true (by with_unfolding_all rfl) ?_ | refine kda_in (knd := bytesKind _ _) (by k_asm) (by k_mem) (by assumption) (by assumption) (bk_is _ _ _ _) false (by with_unfolding_all rfl) ?_))
  k_with "compareOp NotIn bytes ref" => (k_here; (with_reducible show wpAny _ _ (compareOp CmpOp.NotIn (Value.bytes _ _) (Value.ref _)) _ _ _); k_dflt (first | refine kdg_notin (knd := bytesKind _ _) (by k_asm) (by k_mem) (by assumption) (by assumption) (bk_is _ _ _ _) true (by with_unfolding_all rfl) ?_ | refine kdg_notin (knd := bytesKind _ _) (by k_asm) (by k_mem) (by assumption) (by assumption) (bk_is _ _ _ _) false (by with_unfolding_all rfl) ?_))
  k_with "eval Dict" => (k_here; k_dflt (refine' kdn_eval (knd := bytesKind _ _) ?q9F ?q9N ?q9b ?q9a ?q9l ?q9e ?q9n ?_; (case q9F => k_asm); (case q9N => first | k_asm | exact News.nil); (case q9b => exact Top.nolimit (by k_asm)); (case q9a => rfl); (case q9l => rfl); (case q9e => exact List.cons_ne_nil _ _); (case q9n => exact Nat.le_of_ble_eq_true rfl)); intro _ _ _ _ _ z9l1 _ _; (try k_lt z9l1))
  k_with "KdnMade" => (k_here; (try dsimp only); k_dflt (refine' kdn_made_b (bkKv _) ?q9zF ?q9zN ?q9zU ?q9zd (carries_b _ ?q9zk) ?q9zn ?_; (case q9zF => k_asm); (case q9zN => k_asm); (case q9zU => k_updF); (case q9zd => k_asm); (case q9zk => exact rfl); (case q9zn => exact of_decide_eq_true (by first | rfl | kernel_rfl!))); intro _ _ _ z9N' z9hd'; (try dsimp only at z9N'); (try simp only [bkKv, List.map_cons, List.map_nil] at z9hd'))
  trivial
theorem kind_ok {news : Led} {sb : Array UInt8} {t0 t1 t2 : Tok} (B : Below A₀ base outer h₀) (F : Fr h₀ L s.heap m) (X : (Mine.frag.heap_1 w.params).In h₀) (N : News h₀ L s.heap news) (T : Top p loose mean mg mb h₀) (hk : cs.kind = .function)
   (hd : dp + 8 < recursionLimit) (hu : un + 120 < cLine)
   (hret : ∀ k kd g1 g2 g3 g4 j1 j2 j3 j4 n' t2 t3 t4 bv h' tk', Fr h₀ L h' m → News h₀ L h' ((k, instObj 151 kd) :: (kd, kindO sb g1 g2 g3 g4 j1 j2 j3 j4 n' t2 t3 t4 bv) :: news) → (∀ p ∈ news, p.1 < kd) → @LT.lt Nat _ kd k → Q (.ref k) { s with heap := h', toks := tk' }) :
   wpAny (model prog w) (ktrTop dp un gd cn cs L a ccd cl outer) (call (.ref 151) [.str (Str.ofString "style") t0, .str (Str.ofString "session") t1, .bytes sb t2]) Q E s := by
  k_dflt (refine' call_cls ?k1 ?k2 ?k3 ?k4 ?k5 ?k6 ?_; (case k1 => k_asm); (case k2 => k_asm); (case k3 => k_asm); (case k4 => k_is); (case k5 => k_is); (case k6 => k_is); k_whole; intro x' d' h' F' N' l1 l2)
  have l1s := l1
  (try k_lt l1)
  (try k_lt2 l2)
  (try k_sweep)
  k_dflt (refine' code_def ?k1 ?k2 ?k3 ?k4 ?k5 ?kA ?kF ?kK ?k6 ?k7 ?k8 ?k9 ?kB ?_ ?c2 ?c3 ?c4 ?c5; (case kA => exact rfl); (case kF => exact rfl); (case kK => assumption); (case k1 => k_asm); (case k2 => k_asm); (case k3 => k_asm); (case k4 => k_asm); (case k5 => k_asm); (case k6 => k_is); (case k7 => k_is); (case k8 => k_room); (case k9 => exact binds_K (by k_in) rfl (by k_is) rfl rfl rfl); (case c5 => decide); (case kB => exact locs rfl); (case c2 => exact rfl); (case c3 => exact rfl); (case c4 => exact rfl); k_whole; intro g' L' h' FG' F' N' B' X' T'; (try dsimp only); (try k_fold))
  k_steps
  rename News h₀ _ _ _ => kN
  exact hret _ _ _ _ _ _ _ _ _ _ _ _ _ _ _ _ _ (by assumption) kN l1s l2
theorem options_ok {news : Led} {dt k kd : Addr} {o : Obj} {sb : Array UInt8} {t0 : Tok} {g1 g2 g3 g4 : Int} {j1 j2 j3 j4 n' t2 t3 t4 : Nat} {bv : Value} (B : Below A₀ base outer h₀) (F : Fr h₀ L s.heap m) (X : (Mine.frag.heap_1 w.params).In h₀) (N : News h₀ L s.heap news) (T : Top p loose mean mg mb h₀) (hk : cs.kind = .function)
   (hd : dp + 8 < recursionLimit) (hu : un + 120 < cLine) (h1 : (dt, o) ∈ news) (h2 : (dt == sysModules) = false) (h3 : Obj.IsDictOf (bytesKind prog w) o [([109, 101, 115, 115, 97, 103, 101, 45, 115, 116, 121, 108, 101], .ref k)]) (h4 : (k, instObj 151 kd) ∈ news) (h5 : (kd, kindO sb g1 g2 g3 g4 j1 j2 j3 j4 n' t2 t3 t4 bv) ∈ news)
   (hret : ∀ x news' h' tk', Fr h₀ L h' m → News h₀ L h' news' → (∀ q ∈ news, q ∈ news') → OptV prog w news' x sb → Q (.ref x) { s with heap := h', toks := tk' }) :
   wpAny (model prog w) (ktrTop dp un gd cn cs L a ccd cl outer) (call (.ref 228) [.ref dt, .str (Str.ofString "session") t0]) Q E s := by
  k_dflt (refine' call_cls ?k1 ?k2 ?k3 ?k4 ?k5 ?k6 ?_; (case k1 => k_asm); (case k2 => k_asm); (case k3 => k_asm); (case k4 => k_is); (case k5 => k_is); (case k6 => k_is); k_whole; intro x' d' h' F' N' l1 l2)
  have l1s := l1
  (try k_lt l1)
  (try k_lt2 l2)
  (try k_sweep)
  k_dflt (refine' code_def ?k1 ?k2 ?k3 ?k4 ?k5 ?kA ?kF ?kK ?k6 ?k7 ?k8 ?k9 ?kB ?_ ?c2 ?c3 ?c4 ?c5; (case kA => exact rfl); (case kF => exact rfl); (case kK => assumption); (case k1 => k_asm); (case k2 => k_asm); (case k3 => k_asm); (case k4 => k_asm); (case k5 => k_asm); (case k6 => k_is); (case k7 => k_is); (case k8 => k_room); (case k9 => exact binds_K (by k_in) rfl (by k_is) rfl rfl rfl); (case c5 => decide); (case kB => exact locs rfl); (case c2 => exact rfl); (case c3 => exact rfl); (case c4 => exact rfl); k_whole; intro g' L' h' FG' F' N' B' X' T'; (try dsimp only); (try k_fold))
  k_steps
  rename News h₀ _ _ _ => kN
  exact hret _ _ _ _ (by assumption) kN (fun q hq => .tail _ (.tail _ (.tail _ hq))) ⟨d', dt, o, _, _, k, kd, _, _, _, _, _, _, _, _, _, g1, g2, g3, g4, j1, j2, j3, j4, n', _, t2, t3, t4, bv, .tail _ (.head _), .tail _ (.tail _ (.head _)), .tail _ (.tail _ (.tail _ h1)), h2, h3, .tail _ (.tail _ (.tail _ h4)), .tail _ (.tail _ (.tail _ h5)), .head _, by assumption, bk_empty (by assumption)⟩
theorem prompt_row_zero {news : Led} {x t lc : Addr} {t0 t1 t2 cur : Nat} {oc : Array UInt8} (B : Below A₀ base outer h₀) (F : Fr h₀ L s.heap m) (X : (Mine.frag.heap_1 w.params).In h₀) (N : News h₀ L s.heap news) (T : Top p loose mean mg mb h₀) (hk : cs.kind = .function)
   (hd : dp + 8 < recursionLimit) (hu : un + 120 < cLine)
   (hret : ∀ x l n nx t' h' tk', Fr h₀ L h' m → News h₀ L h' ((x, tupO [.ref l, .int 0 t'] nx) :: (l, listOf #[] n) :: news) → @LT.lt Nat _ l x → (∀ p ∈ news, p.1 < l) → Q (.ref x) { s with heap := h', toks := tk' }) :
   wpAny (model prog w) (ktrTop dp un gd cn cs L a ccd cl outer) (call (.ref 497) [.bytes oc t0, .ref lc, .int (cur : Int) t1, .ref x, .int ((0 : Nat) : Int) t2, .ref t]) Q E s := by
  refine wpAny_call ?_
  k_dflt ktr_enter
  k_steps
  rename News h₀ _ _ _ => kN
  rename ∀ p ∈ news, p.1 < _ => lt1
  rename _ ∧ AllLt _ _ => lt2
  exact hret _ _ _ _ _ _ _ (by assumption) kN lt2.1 lt1

end
end
section
theorem rg71 : True := by
  k_with_none
  k_with "omega" => (first | decide | (with_reducible first | exact Int.natCast_nonneg _ | exact rm1 ‹_› (by decide) | exact rm2 ‹_› (by decide) | exact rm3 ‹_› (by decide) | exact om_le ‹_› (by decide) | exact om_63 ‹_› (by decide) | exact om_eqle ‹_› ‹_› (by decide) | exact om_eq63 ‹_› ‹_› (by decide) | exact om_add ‹_› (by decide) | exact om_ne ‹_› (by decide) | exact om_le2 ‹_› ‹_› (by decide) | exact om_le2s ‹_› ‹_› (by decide) | exact om_le2_63 ‹_› ‹_› (by decide) | exact om_le2s_63 ‹_› ‹_› (by decide) | exact om_z62 ‹_› (by decide) | exact om_zn62 | exact om_kle ‹_› (by decide) | exact om_neg1 | exact om_pos | exact om_at ‹_› (by decide) | exact om_at0 ‹_› | exact om_add63 ‹_› (by decide) | exact Nat.ne_of_gt (by k_extra "pick") | exact Nat.ne_of_lt (by k_extra "pick")))
  k_with "ktr_room" => (first | exact rm0 (by assumption) | exact rm1 (by assumption) (Nat.le_of_ble_eq_true rfl))
  k_with "k_ne" => ((refine neN ?_; (try dsimp only); first | exact Nat.ne_of_gt (by assumption) | exact Nat.ne_of_lt (by assumption) | exact Nat.ne_of_gt (And.left (by assumption)) | exact Nat.ne_of_lt (And.left (by assumption)) | exact Nat.ne_of_gt (And.left (And.right (by assumption))) | exact Nat.ne_of_lt (And.left (And.right (by assumption))) | exact Nat.ne_of_gt (And.right (by assumption)) | exact Nat.ne_of_lt (And.right (by assumption)) | exact Nat.ne_of_gt (And.left (And.right (And.right (by assumption)))) | exact Nat.ne_of_lt (And.left (And.right (And.right (by assumption)))) | exact Nat.ne_of_gt (And.right (And.right (by assumption))) | exact Nat.ne_of_lt (And.right (And.right (by assumption)))))
  k_with "pick" => (with_reducible first | assumption | exact And.left ‹_› | exact And.left (And.right ‹_›) | exact And.left (And.right (And.right ‹_›)) | exact And.left (And.right (And.right (And.right ‹_›))) | exact And.left (And.right (And.right (And.right (And.right ‹_›)))) | exact And.left (And.right (And.right (And.right (And.right (And.right ‹_›))))) | exact And.left (And.right (And.right (And.right (And.right (And.right (And.right ‹_›)))))) | exact And.left (And.right (And.right (And.right (And.right (And.right (And.right (And.right ‹_›))))))) | exact And.left (And.right (And.right (And.right (And.right (And.right (And.right (And.right (And.right ‹_›)))))))) | exact And.left (And.right (And.right (And.right (And.right (And.right (And.right (And.right (And.right (And.right ‹_›))))))))) | exact And.left (And.right (And.right (And.right (And.right (And.right (And.right (And.right (And.right (And.right (And.right ‹_›)))))))))) | exact (And.right ‹_›) | exact (And.right (And.right ‹_›)) | exact (And.right (And.right (And.right ‹_›))) | exact (And.right (And.right (And.right (And.right ‹_›)))) | exact (And.right (And.right (And.right (And.right (And.right ‹_›))))) | exact (And.right (And.right (And.right (And.right (And.right (And.right ‹_›)))))) | exact (And.right (And.right (And.right (And.right (And.right (And.right (And.right ‹_›))))))) | exact (And.right (And.right (And.right (And.right (And.right (And.right (And.right (And.right ‹_›)))))))) | exact (And.right (And.right (And.right (And.right (And.right (And.right (And.right (And.right (And.right ‹_›))))))))) | exact (And.right (And.right (And.right (And.right (And.right (And.right (And.right (And.right (And.right (And.right ‹_›)))))))))))
  k_with "k_room" => (((simp only [depth_under_make, depth_under_kw, depth_in1, depth_deeper, depth_caller]); omega))
  k_with "k_all" => (assumption)
  k_with "eval Name" => (k_here; dsimp only)
  k_with "eval Call" => (k_here; dsimp only)
  k_with "eval Constant int" => (k_here; dsimp only)
  k_with "eval Attribute Name" => (k_here; dsimp only)
  k_with "eval BinOp" => (k_here; dsimp only)
  k_with "storeName" => (k_here; dsimp only)
  k_with "setAttr ref" => (k_here; dsimp only)
  k_with "eval Compare" => (k_here; dsimp only)
  k_with "isTrue Compare" => (k_here; dsimp only)
  k_with "eval Subscript" => (k_here; dsimp only)
  k_with "execs cons" => (k_here; first | (with_reducible rename News _ _ _ _ => nZ9; dsimp only at nZ9) | dsimp only | ((with_reducible show wpAny _ _ _ _ _ (Shared.mk _ _ _ (HAdd.hAdd _ _) _)); refine gen_toks ?_; intro _))
  k_with "eval Name" => (k_here; (fail_if_success (with_reducible show wpAny _ _ (eval _ (compEnvC _ _ _ _)) _ _ _)); (try dsimp only); k_dflt (first | (refine' nameX_L ?q9F ?q9v ?_ ?q9a ?q9b; (case q9F => k_asm); (case q9a => rfl); (case q9b => rfl); (case q9v => rfl); k_whole) | (refine' nameX_K ?q9F ?q9X ?q9T ?q9e ?_ ?q9a ?q9b; (case q9F => k_asm); (case q9X => k_asm); (case q9T => k_asm); (case q9a => rfl); (case q9b => rfl); (case q9e => k_is); k_whole) | (refine' nameX_B ?q9F ?q9X ?q9T ?q9e ?q9v ?q9n ?_ ?q9a ?q9b; (case q9F => k_asm); (case q9X => k_asm); (case q9T => k_asm); (case q9a => rfl); (case q9b => rfl); (case q9e => k_is); (case q9v => boot_fast); (case q9n => decide); k_whole)))
  k_with "execs cons" => (k_here; (try (with_reducible rename News _ _ _ _ => nZ9; dsimp only at nZ9)); (try dsimp only); (try ((with_reducible show wpAny _ _ _ _ _ (Shared.mk _ _ _ (HAdd.hAdd _ _) _)); refine gen_toks ?_; intro _)); (with_reducible refine wpAny_execs_cons ?_); (try dsimp only))
  k_with "eval Constant int" => (k_here; (try dsimp only); refine wpAny_Constant_int ?_)
  k_with "spliced" => (k_here; (fail_if_success (with_reducible show wpAny _ _ (spliced (backTo _ (starEach (PySem.Expr.Starred _ _ :: _) _))) _ _ _)); k_dflt (first | refine args_cons ?_ | (refine args_nil ?_; try simp only [List.cons_append, List.nil_append])))
  k_with "subscriptTail" => (k_here; (with_reducible show wpAny _ _ (subscriptTail _ _ (Value.ref _) (Value.int _ _)) _ _ _); k_dflt (refine' item_tupleT ?q9t ?q9a ?q9b ?q9c ?q9d ?_; (case q9t => exact News.isTup (by k_asm) (by k_mem)); (case q9a => decide); (case q9b => decide); (case q9c => rfl); (case q9d => rfl); k_whole))
  k_with "storeName" => (k_here; (fail_if_success (with_reducible show wpAny _ _ (storeName _ _ (compEnvC _ _ _ _)) _ _ _)); (try dsimp only); k_dflt (refine' storeX_L ?q9F ?q9N ?_ ?q9a ?q9b; (case q9F => k_asm); (case q9N => k_asm); (case q9a => rfl); (case q9b => rfl); k_whole; intro z9h z9F z9N; (try k_sweep)))
  k_with "callWith ref" => (k_here; k_dflt (first | (refine' callWith_K ?q9a ?q9b ?_; (case q9a => k_asm); (case q9b => k_is); k_whole) | (refine' callWith_K0 ?q9a ?q9b ?_; (case q9a => k_in); (case q9b => k_is); k_whole) | (refine' callWith_M0 ?q9a ?q9b ?_; (case q9a => k_meth); (case q9b => k_is); k_whole; try dsimp only [List.nil_append, List.cons_append]) | (refine' callWith_M ?q9a ?q9b ?q9c ?q9d ?_; (case q9a => k_asm); (case q9b => k_asm); (case q9c => k_mem); (case q9d => k_is); k_whole)))
  k_with "truthy bool" => (with_reducible refine wpAny_truthy_bool ?_)
  k_with "k_mem" => first | with_reducible assumption | assumption
  k_with "subscriptTail" => (k_here; (with_reducible show wpAny _ _ (subscriptTail _ _ (Value.ref _) (Value.int _ _)) _ _ _); (with_unfolding_all refine' item_litK ?q9k1 ?q9k2 ?q9k3 ?q9k4 ?_ ?q9k6; (case q9k1 => exact News.isList (by k_asm) (by k_mem)); (case q9k2 => decide); (case q9k3 => decide); (case q9k4 => rfl); (case q9k6 => with_unfolding_all rfl); k_whole))
  k_with "callWith" => ((with_reducible show wpAny _ _ (callWith _ (Value.builtin _) (_ :: _) (backTo _ (starEach (_ :: _) _)) []) _ _ _); k_dflt (refine callWith_method1 ?_))
  trivial
section
variable {prog : Program} {w : World} {p : Program} {loose : List Str} {mean : ExcName → Option Value} {mg mb : Str → Option Value}
 {dp un : Nat} {gd : Option (List Code)} {cn : Str} {cs : Scope} {a : Addr} {ccd : Value} {cl : List (Str × Addr)} {outer : List Env} {A₀ : Around} {base h₀ : Heap} {L : Addr} {m : Str → Option Value} {s : Shared} {Q E : Value → Shared → Prop}
theorem replicate_arr {v : Value} : ∀ (n : Nat) (acc : Array Value), List.foldl (fun x1 x2 => x1 ++ x2) acc (List.replicate n #[v]) = acc ++ (List.replicate n v).toArray
  | 0, acc => by simp
  | n + 1, acc => by
    rw [List.replicate_succ, List.foldl_cons, replicate_arr n, List.replicate_succ]
    apply Array.ext'
    simp
theorem m_mulL {A : Around} {news : Led} {l : Addr} {v : Value} {k n : Nat} {x : Int} {u : Tok} {Q : Value → Shared → Prop} (F : Fr h₀ L s.heap m) (N : News h₀ L s.heap news) (hm : (l, listOf #[v] k) ∈ news) (hx : x = (n : Int)) (hn : n ≤ 1000)
   (h : ∀ D h', Fr h₀ L h' m → News h₀ L h' ((D, listOf (List.replicate n v).toArray 0) :: news) → (∀ p ∈ news, p.1 < D) → Q (.ref D) { s with heap := h' }) :
   wpAny (model prog w) A (binaryOp .Mult (.ref l) (.int x u)) Q E s := by
  subst hx
  refine mul_list F N (N _ hm).1 (by (first | lia | omega)) (by (first | lia | omega)) (by simp; (first | lia | omega)) (fun h' F' N' => h _ h' F' ?_ fun p hp => Heap.lt_size (N p hp).1)
  have e : (List.foldl (fun x1 x2 => x1 ++ x2) #[] (List.replicate (if (#[v] : Array Value).isEmpty = true then 0 else ((n : Int)).toNat) #[v])) = (List.replicate n v).toArray := by
    rw [if_neg (by simp), replicate_arr]
    simp
  rw [e] at N'
  exact N'
theorem All2.repl {α : Type} {R : Value → α → Prop} {v : Value} {c : α} (h : R v c) : ∀ n, All2 R (List.replicate n v) (List.replicate n c)
  | 0 => .nil
  | n + 1 => .cons h (All2.repl h n)
theorem pydata_eqv_cols (cc : List Col) : PyData.eqv (.list (cc.map colP)) (.list (cc.map colP)) = true :=
  SeqAt.eqv_refl _ (cols_lay cc).1
theorem cols_eq {A : Around} {news n₁ n₂ : Led} {vs ws : List Value} {cc dd : List Col} {a1 b1 : Addr} {n n' : Nat} {Q : Value → Shared → Prop} (N : News h₀ L s.heap news) (ha : (a1, listOf vs.toArray n) ∈ news) (hb : (b1, listOf ws.toArray n') ∈ news) (hC : ColsV n₁ vs cc) (hD : ColsV n₂ ws dd) (hs : ∀ q ∈ n₁, q ∈ news) (hs2 : ∀ q ∈ n₂, q ∈ news) (he : cc = dd) (hu : A.units + 64 < cLine) (h : Q (.bool true) s) : wpAny (model prog w) A (compareOp .Eq (.ref a1) (.ref b1)) Q E s := by
  subst he
  refine eq_dataH (reads_list_at (N.get ha) rfl rfl ((hC.mono hs).reads N)) (reads_list_at (N.get hb) rfl rfl ((hD.mono hs2).reads N)) (cols_shaped cc) (by have := cols_shaped cc; exact this) hu ?_
  rw [pydata_eqv_cols]; exact h
theorem ok_take {codes : List Int} {k : Nat} (h : ∀ c ∈ codes, OkCode c) : ∀ c ∈ codes.take k, OkCode c := fun c hc => h c (List.mem_of_mem_take hc)
theorem sign_ok {ss : List Int} (h : ∀ x ∈ ss, IsSign x) : ∀ c ∈ ss, OkCode c := fun c hc => by
  rcases h c hc with h | h | h | h | h <;> unfold OkCode <;> (first | lia | omega)
theorem typed_ok {ss : List Int} (h : ∀ x ∈ ss, IsTyped x) : ∀ c ∈ ss, OkCode c := fun c hc => by
  rcases h c hc with h | h | h | h | h | h | h <;> unfold OkCode <;> (first | lia | omega)
theorem colsC_len {codes : List Int} (h : codes.length ≤ 40) : (colsC (putAll codes)).length ≤ 80 := by
  have h2 := cellsOf_len (putAll codes)
  have h3 := (putAll_good0 codes).1
  unfold colsC
  rw [List.length_map]
  (first | lia | omega)
theorem cols_len_le {n₁ : Led} {vs : List Value} {codes : List Int} (hC : ColsV n₁ vs (colsC (putAll codes))) (h : codes.length ≤ 40) : vs.length ≤ 200 := by
  have h1 := colsC_len h
  have h2 := hC.length
  (first | lia | omega)
theorem fixLastP_len : ∀ l : List Col, (fixLastP l).length = l.length
  | [] => rfl
  | [_] => rfl
  | c :: d :: r => congrArg (· + 1) (fixLastP_len (d :: r))
theorem cutP_len (cols : List Col) (lo hi : Nat) : (cutP cols lo hi).length ≤ hi - lo := by
  have h : ((cols.take hi).drop lo).length ≤ hi - lo := by rw [List.length_drop, List.length_take]; (first | lia | omega)
  unfold cutP
  split
  · rw [fixLastP_len, fixFirstP_len]; exact h
  · rw [fixFirstP_len]; exact h
theorem law_cut_row {news n₁ : Led} {lc : Addr} {cvs : List Value} {cols : List Col} {nc wd t0 t1 : Nat} (B : Below A₀ base outer h₀) (F : Fr h₀ L s.heap m) (X : (Mine.frag.heap_1 w.params).In h₀) (N : News h₀ L s.heap news) (T : Top p loose mean mg mb h₀) (hk : cs.kind = .function)
   (hd : dp + 3 < recursionLimit) (hu : un + 100 < cLine)
   (hlc : (lc, listOf cvs.toArray nc) ∈ news) (hC : ColsV n₁ cvs cols) (hs : ∀ q ∈ n₁, q ∈ news) (hl8 : cvs.length ≤ 200) (h1 : 1 ≤ wd) (h9 : wd ≤ 20)
   (hret : ∀ l vs n news' h' tk', Fr h₀ L h' m → News h₀ L h' news' → (∀ q ∈ news, q ∈ news') → (l, listOf vs.toArray n) ∈ news' → ColsV news' vs (cutP cols 0 (wd - 1)) → vs.length + 1 ≤ wd → Q (.ref l) { s with heap := h', toks := tk' }) :
   wpAny (model prog w) (ktrTop dp un gd cn cs L a ccd cl outer) (call (.ref 577) [.ref lc, .int 0 t0, .int ((wd : Int) - 1) t1]) Q E s := by
  refine law_cut_ok (lo := 0) (hi := wd - 1) B F X N T hk hd hu hlc (hC.mono hs) hl8 rfl (by (first | lia | omega)) (by (first | lia | omega)) (by (first | lia | omega)) (fun l vs n news' h' tk' F' N' hsub hm hC' => hret l vs n news' h' tk' F' N' hsub hm hC' ?_)
  have e1 := hC'.length
  have e2 := cutP_len cols 0 (wd - 1)
  (first | lia | omega)
theorem law_cut_typed {news n₁ : Led} {lc : Addr} {cvs : List Value} {cols : List Col} {nc wd al cl9 t0 t1 : Nat} (B : Below A₀ base outer h₀) (F : Fr h₀ L s.heap m) (X : (Mine.frag.heap_1 w.params).In h₀) (N : News h₀ L s.heap news) (T : Top p loose mean mg mb h₀) (hk : cs.kind = .function)
   (hd : dp + 3 < recursionLimit) (hu : un + 100 < cLine)
   (hlc : (lc, listOf cvs.toArray nc) ∈ news) (hC : ColsV n₁ cvs cols) (hs : ∀ q ∈ n₁, q ∈ news) (hl8 : cvs.length ≤ 200) (h1 : al + 1 ≤ wd) (h9 : wd ≤ 20) (hcl : cl9 ≤ 200)
   (hret : ∀ l vs n news' h' tk', Fr h₀ L h' m → News h₀ L h' news' → (∀ q ∈ news, q ∈ news') → (l, listOf vs.toArray n) ∈ news' → ColsV news' vs (cutP cols (cl9 + 1 - (wd - al)) (cl9 + 1 - (wd - al) + (wd - al))) → vs.length ≤ wd - al → Q (.ref l) { s with heap := h', toks := tk' }) :
   wpAny (model prog w) (ktrTop dp un gd cn cs L a ccd cl outer) (call (.ref 577) [.ref lc, .int (if (cl9 : Int) - ((wd : Int) - (al : Int)) + 1 > 0 then (cl9 : Int) - ((wd : Int) - (al : Int)) + 1 else 0) t0, .int ((if (cl9 : Int) - ((wd : Int) - (al : Int)) + 1 > 0 then (cl9 : Int) - ((wd : Int) - (al : Int)) + 1 else 0) + ((wd : Int) - (al : Int))) t1]) Q E s := by
  refine law_cut_ok (lo := cl9 + 1 - (wd - al)) (hi := cl9 + 1 - (wd - al) + (wd - al)) B F X N T hk hd hu hlc (hC.mono hs) hl8 (by split <;> (first | lia | omega)) (by split <;> (first | lia | omega)) (by (first | lia | omega)) (by (first | lia | omega)) (fun l vs n news' h' tk' F' N' hsub hm hC' => hret l vs n news' h' tk' F' N' hsub hm hC' ?_)
  have e1 := hC'.length
  have e2 := cutP_len cols (cl9 + 1 - (wd - al)) (cl9 + 1 - (wd - al) + (wd - al))
  (first | lia | omega)
theorem put_show {codes : List Int} (h : ∀ c ∈ codes, c ≠ 32) (hl : codes.length ≤ 40) : ∀ c ∈ cellsOf (putAll codes), ShowOk c :=
  cells_show (putAll_ok h) fun g hg => by have := (putAll_good0 codes).2 g hg; (first | lia | omega)
theorem prompt_show {ss codes : List Int} (h1 : ∀ c ∈ ss, c ≠ 32) (h2 : ∀ c ∈ codes, c ≠ 32) (hl1 : ss.length ≤ 40) (hl2 : codes.length ≤ 40) (cur wd : Nat) : ∀ c ∈ promptC ss codes cur wd, ShowOk c := by
  unfold promptC promptA
  refine filled_show ?_ wd
  intro c hc
  rcases List.mem_append.mp hc with hc | hc
  · exact cutC_show (put_show h1 hl1) (wd - 1) c hc
  · exact typed_show (put_show h2 hl2) _ _ c hc
theorem law_al {ss : List Int} {wd : Nat} : (cutP (colsC (putAll ss)) 0 (wd - 1)).length = (promptA ss wd).length := by
  unfold promptA colsC
  rw [← cut_cut (wf_cells (putAll ss)), List.length_map]
theorem law_due {ss codes : List Int} {cur wd al cl9 : Nat} (hw : 1 ≤ wd) (hal : al = (cutP (colsC (putAll ss)) 0 (wd - 1)).length) (hcl : cl9 = (colsC (putAll (codes.take cur))).length) :
    (promptC ss codes cur wd).map colOf = (cutP (colsC (putAll ss)) 0 (wd - 1) ++ cutP (colsC (putAll codes)) (cl9 + 1 - (wd - al)) (cl9 + 1 - (wd - al) + (wd - al))) ++ List.replicate (wd - (cutP (colsC (putAll ss)) 0 (wd - 1) ++ cutP (colsC (putAll codes)) (cl9 + 1 - (wd - al)) (cl9 + 1 - (wd - al) + (wd - al))).length) (some []) := by
  have h1 : al = (promptA ss wd).length := hal.trans law_al
  have h2 : cl9 = (cellsOf (putAll (codes.take cur))).length := by rw [hcl]; unfold colsC; rw [List.length_map]
  have h3 : promptO ss codes cur wd = cl9 + 1 - (wd - al) := by unfold promptO; rw [h1, h2]
  unfold promptC
  rw [h3, h1]
  exact plain_law (wf_cells (putAll ss)) (wf_cells (putAll codes)) wd _ hw
theorem law_col {ss codes : List Int} {cur wd al cl9 : Nat} (hal : al = (cutP (colsC (putAll ss)) 0 (wd - 1)).length) (hcl : cl9 = (colsC (putAll (codes.take cur))).length) :
    promptK ss codes cur wd = (al : Int) + (cl9 : Int) - ((cl9 + 1 - (wd - al) : Nat) : Int) := by
  have h1 : al = (promptA ss wd).length := hal.trans law_al
  have h2 : cl9 = (cellsOf (putAll (codes.take cur))).length := by rw [hcl]; unfold colsC; rw [List.length_map]
  unfold promptK promptO
  rw [h1, h2]
theorem sign_n32 {ss : List Int} (h : ∀ x ∈ ss, IsSign x) : ∀ c ∈ ss, c ≠ 32 := fun c hc => by
  rcases h c hc with h | h | h | h | h <;> (first | lia | omega)
theorem typed_n32 {ss : List Int} (h : ∀ x ∈ ss, IsTyped x) : ∀ c ∈ ss, c ≠ 32 := fun c hc => by
  rcases h c hc with h | h | h | h | h | h | h <;> (first | lia | omega)
theorem OptV.mono {prog : Program} {w : World} {l l' : Led} {x : Addr} {sb : Array UInt8} (h : OptV prog w l x sb) (hs : ∀ q ∈ l, q ∈ l') : OptV prog w l' x sb := by
  obtain ⟨d, dt, o, dv, ov, k, kd, h1, h2, h3, h4, k1, k2, k3, k4, n, g1, g2, g3, g4, j1, j2, j3, j4, n', t1, t2, t3, t4, bv, a, b, c, e, f, g, i, j, u, v⟩ := h
  exact ⟨d, dt, o, dv, ov, k, kd, h1, h2, h3, h4, k1, k2, k3, k4, n, g1, g2, g3, g4, j1, j2, j3, j4, n', t1, t2, t3, t4, bv, hs _ a, hs _ b, hs _ c, e, f, hs _ g, hs _ i, hs _ j, u, v⟩
theorem lt10 {k : Nat} (h : (k : Int) < 10) : k = 0 ∨ (1 ≤ k ∧ k ≤ 20) := by (first | lia | omega)
theorem sub_nat {a b : Nat} (h : b ≤ a) : (a : Int) - (b : Int) = ((a - b : Nat) : Int) := by (first | lia | omega)
theorem mem5 {a b c d e q : Addr × Obj} {T : Led} (h : q ∈ T) : q ∈ a :: b :: c :: d :: e :: T := .tail _ (.tail _ (.tail _ (.tail _ (.tail _ h))))
theorem mem4app {a b c d q : Addr × Obj} {tl T : Led} (h : q ∈ T) : q ∈ a :: b :: c :: d :: (tl ++ T) := .tail _ (.tail _ (.tail _ (.tail _ (List.mem_append.mpr (.inr h)))))
theorem lst_of {l : Addr} {vs : List Value} {T : Led} (h : (l, LCg.lst vs) ∈ T) : (l, listOf vs.toArray vs.length) ∈ T := h
theorem shown_len {n₁ : Led} {bg : Int} {vs : List Value} {ss codes : List Int} {cur wd : Nat} (hC : CellsV n₁ bg vs (promptC ss codes cur wd)) (h : wd ≤ 20) : vs.length ≤ 200 := by
  have h1 := hC.length
  have h2 := cutC_len (promptA ss wd ++ typedC (cellsOf (putAll codes)) (promptO ss codes cur wd) (wd - (promptA ss wd).length)) wd
  unfold promptC filledC at h1
  rw [List.length_append, List.length_replicate] at h1
  (first | lia | omega)
theorem law_due2 {ss codes : List Int} {cur wd : Nat} {rv pv tv : List Value} (hw : 1 ≤ wd) (h1 : rv.length = (cutP (colsC (putAll ss)) 0 (wd - 1)).length) (h2 : pv.length = (colsC (putAll (codes.take cur))).length) (h3 : tv.length = (cutP (colsC (putAll codes)) (pv.length + 1 - (wd - rv.length)) (pv.length + 1 - (wd - rv.length) + (wd - rv.length))).length) :
    (promptC ss codes cur wd).map colOf = (cutP (colsC (putAll ss)) 0 (wd - 1) ++ cutP (colsC (putAll codes)) (pv.length + 1 - (wd - rv.length)) (pv.length + 1 - (wd - rv.length) + (wd - rv.length))) ++ List.replicate (wd - (rv ++ tv).length) (some []) := by
  rw [law_due hw h1 h2, List.length_append, List.length_append, ← h1, ← h3]
theorem law_col2 {ss codes : List Int} {cur wd : Nat} {rv pv : List Value} {K : Int} (hK : K = promptK ss codes cur wd) (h1 : rv.length = (cutP (colsC (putAll ss)) 0 (wd - 1)).length) (h2 : pv.length = (colsC (putAll (codes.take cur))).length) (h3 : rv.length + 1 ≤ wd) :
    K = (rv.length : Int) + (pv.length : Int) - (if (pv.length : Int) - ((wd : Int) - (rv.length : Int)) + 1 > 0 then (pv.length : Int) - ((wd : Int) - (rv.length : Int)) + 1 else 0) := by
  rw [hK, law_col h1 h2]
  split <;> (first | lia | omega)
theorem eq_yes {A : Around} {a b : Int} {t u : Tok} {Q : Value → Shared → Prop} (e : a = b) (h : Q (.bool true) s) : wpAny (model prog w) A (compareOp .Eq (.int a t) (.int b u)) Q E s := by
  subst e
  refine eq_int ?_
  simpa using h

end
end
section
theorem rg72 : True := by
  k_with_none
  k_with "omega" => (first | decide | (with_reducible first | exact Int.natCast_nonneg _ | exact rm1 ‹_› (by decide) | exact rm2 ‹_› (by decide) | exact rm3 ‹_› (by decide) | exact om_le ‹_› (by decide) | exact om_63 ‹_› (by decide) | exact om_eqle ‹_› ‹_› (by decide) | exact om_eq63 ‹_› ‹_› (by decide) | exact om_add ‹_› (by decide) | exact om_ne ‹_› (by decide) | exact om_le2 ‹_› ‹_› (by decide) | exact om_le2s ‹_› ‹_› (by decide) | exact om_le2_63 ‹_› ‹_› (by decide) | exact om_le2s_63 ‹_› ‹_› (by decide) | exact om_z62 ‹_› (by decide) | exact om_zn62 | exact om_kle ‹_› (by decide) | exact om_neg1 | exact om_pos | exact om_at ‹_› (by decide) | exact om_at0 ‹_› | exact om_add63 ‹_› (by decide) | exact Nat.ne_of_gt (by k_extra "pick") | exact Nat.ne_of_lt (by k_extra "pick")))
  k_with "ktr_room" => (first | exact rm0 (by assumption) | exact rm1 (by assumption) (Nat.le_of_ble_eq_true rfl))
  k_with "k_ne" => ((refine neN ?_; (try dsimp only); first | exact Nat.ne_of_gt (by assumption) | exact Nat.ne_of_lt (by assumption) | exact Nat.ne_of_gt (And.left (by assumption)) | exact Nat.ne_of_lt (And.left (by assumption)) | exact Nat.ne_of_gt (And.left (And.right (by assumption))) | exact Nat.ne_of_lt (And.left (And.right (by assumption))) | exact Nat.ne_of_gt (And.right (by assumption)) | exact Nat.ne_of_lt (And.right (by assumption)) | exact Nat.ne_of_gt (And.left (And.right (And.right (by assumption)))) | exact Nat.ne_of_lt (And.left (And.right (And.right (by assumption)))) | exact Nat.ne_of_gt (And.right (And.right (by assumption))) | exact Nat.ne_of_lt (And.right (And.right (by assumption)))))
  k_with "pick" => (with_reducible first | assumption | exact And.left ‹_› | exact And.left (And.right ‹_›) | exact And.left (And.right (And.right ‹_›)) | exact And.left (And.right (And.right (And.right ‹_›))) | exact And.left (And.right (And.right (And.right (And.right ‹_›)))) | exact And.left (And.right (And.right (And.right (And.right (And.right ‹_›))))) | exact And.left (And.right (And.right (And.right (And.right (And.right (And.right ‹_›)))))) | exact And.left (And.right (And.right (And.right (And.right (And.right (And.right (And.right ‹_›))))))) | exact And.left (And.right (And.right (And.right (And.right (And.right (And.right (And.right (And.right ‹_›)))))))) | exact And.left (And.right (And.right (And.right (And.right (And.right (And.right (And.right (And.right (And.right ‹_›))))))))) | exact And.left (And.right (And.right (And.right (And.right (And.right (And.right (And.right (And.right (And.right (And.right ‹_›)))))))))) | exact (And.right ‹_›) | exact (And.right (And.right ‹_›)) | exact (And.right (And.right (And.right ‹_›))) | exact (And.right (And.right (And.right (And.right ‹_›)))) | exact (And.right (And.right (And.right (And.right (And.right ‹_›))))) | exact (And.right (And.right (And.right (And.right (And.right (And.right ‹_›)))))) | exact (And.right (And.right (And.right (And.right (And.right (And.right (And.right ‹_›))))))) | exact (And.right (And.right (And.right (And.right (And.right (And.right (And.right (And.right ‹_›)))))))) | exact (And.right (And.right (And.right (And.right (And.right (And.right (And.right (And.right (And.right ‹_›))))))))) | exact (And.right (And.right (And.right (And.right (And.right (And.right (And.right (And.right (And.right (And.right ‹_›)))))))))))
  k_with "k_room" => (((simp only [depth_under_make, depth_under_kw, depth_in1, depth_deeper, depth_caller]); omega))
  k_with "k_all" => (assumption)
  k_with "eval Name" => (k_here; dsimp only)
  k_with "eval Call" => (k_here; dsimp only)
  k_with "eval Constant int" => (k_here; dsimp only)
  k_with "eval Attribute Name" => (k_here; dsimp only)
  k_with "eval BinOp" => (k_here; dsimp only)
  k_with "storeName" => (k_here; dsimp only)
  k_with "setAttr ref" => (k_here; dsimp only)
  k_with "eval Compare" => (k_here; dsimp only)
  k_with "isTrue Compare" => (k_here; dsimp only)
  k_with "eval Subscript" => (k_here; dsimp only)
  k_with "execs cons" => (k_here; first | (with_reducible rename News _ _ _ _ => nZ9; dsimp only at nZ9) | dsimp only | ((with_reducible show wpAny _ _ _ _ _ (Shared.mk _ _ _ (HAdd.hAdd _ _) _)); refine gen_toks ?_; intro _))
  k_with "eval Name" => (k_here; (fail_if_success (with_reducible show wpAny _ _ (eval _ (compEnvC _ _ _ _)) _ _ _)); (try dsimp only); k_dflt (first | (refine' nameX_L ?q9F ?q9v ?_ ?q9a ?q9b; (case q9F => k_asm); (case q9a => rfl); (case q9b => rfl); (case q9v => rfl); k_whole) | (refine' nameX_K ?q9F ?q9X ?q9T ?q9e ?_ ?q9a ?q9b; (case q9F => k_asm); (case q9X => k_asm); (case q9T => k_asm); (case q9a => rfl); (case q9b => rfl); (case q9e => k_is); k_whole) | (refine' nameX_B ?q9F ?q9X ?q9T ?q9e ?q9v ?q9n ?_ ?q9a ?q9b; (case q9F => k_asm); (case q9X => k_asm); (case q9T => k_asm); (case q9a => rfl); (case q9b => rfl); (case q9e => k_is); (case q9v => boot_fast); (case q9n => decide); k_whole)))
  k_with "execs cons" => (k_here; (try (with_reducible rename News _ _ _ _ => nZ9; dsimp only at nZ9)); (try dsimp only); (try ((with_reducible show wpAny _ _ _ _ _ (Shared.mk _ _ _ (HAdd.hAdd _ _) _)); refine gen_toks ?_; intro _)); (with_reducible refine wpAny_execs_cons ?_); (try dsimp only))
  k_with "eval Constant int" => (k_here; (try dsimp only); refine wpAny_Constant_int ?_)
  k_with "spliced" => (k_here; (fail_if_success (with_reducible show wpAny _ _ (spliced (backTo _ (starEach (PySem.Expr.Starred _ _ :: _) _))) _ _ _)); k_dflt (first | refine args_cons ?_ | (refine args_nil ?_; try simp only [List.cons_append, List.nil_append])))
  k_with "subscriptTail" => (k_here; (with_reducible show wpAny _ _ (subscriptTail _ _ (Value.ref _) (Value.int _ _)) _ _ _); k_dflt (refine' item_tupleT ?q9t ?q9a ?q9b ?q9c ?q9d ?_; (case q9t => exact News.isTup (by k_asm) (by k_mem)); (case q9a => decide); (case q9b => decide); (case q9c => rfl); (case q9d => rfl); k_whole))
  k_with "storeName" => (k_here; (fail_if_success (with_reducible show wpAny _ _ (storeName _ _ (compEnvC _ _ _ _)) _ _ _)); (try dsimp only); k_dflt (refine' storeX_L ?q9F ?q9N ?_ ?q9a ?q9b; (case q9F => k_asm); (case q9N => k_asm); (case q9a => rfl); (case q9b => rfl); k_whole; intro z9h z9F z9N; (try k_sweep)))
  k_with "callWith ref" => (k_here; k_dflt (first | (refine' callWith_K ?q9a ?q9b ?_; (case q9a => k_asm); (case q9b => k_is); k_whole) | (refine' callWith_K0 ?q9a ?q9b ?_; (case q9a => k_in); (case q9b => k_is); k_whole) | (refine' callWith_M0 ?q9a ?q9b ?_; (case q9a => k_meth); (case q9b => k_is); k_whole; try dsimp only [List.nil_append, List.cons_append]) | (refine' callWith_M ?q9a ?q9b ?q9c ?q9d ?_; (case q9a => k_asm); (case q9b => k_asm); (case q9c => k_mem); (case q9d => k_is); k_whole)))
  k_with "truthy bool" => (with_reducible refine wpAny_truthy_bool ?_)
  k_with "k_mem" => first | with_reducible assumption | assumption
  k_with "subscriptTail" => (k_here; (with_reducible show wpAny _ _ (subscriptTail _ _ (Value.ref _) (Value.int _ _)) _ _ _); (with_unfolding_all refine' item_litK ?q9k1 ?q9k2 ?q9k3 ?q9k4 ?_ ?q9k6; (case q9k1 => exact News.isList (by k_asm) (by k_mem)); (case q9k2 => decide); (case q9k3 => decide); (case q9k4 => rfl); (case q9k6 => with_unfolding_all rfl); k_whole))
  k_with "callWith" => ((with_reducible show wpAny _ _ (callWith _ (Value.builtin _) (_ :: _) (backTo _ (starEach (_ :: _) _)) []) _ _ _); k_dflt (refine callWith_method1 ?_))
  trivial
section
variable {prog : Program} {w : World} {p : Program} {loose : List Str} {mean : ExcName → Option Value} {mg mb : Str → Option Value}
 {dp un : Nat} {gd : Option (List Code)} {cn : Str} {cs : Scope} {a : Addr} {ccd : Value} {cl : List (Str × Addr)} {outer : List Env} {A₀ : Around} {base h₀ : Heap} {L : Addr} {m : Str → Option Value} {s : Shared} {Q E : Value → Shared → Prop}
theorem good_true {cl me s₁ s₂ L m} {ns : List Int} (F : Fr s₁.heap L s₂.heap m) (hg : s₂.gens = #[]) (hos : s₂.os = s₁.os) : GoodW PySem.Challenge.rw_og0280_01.row.claim cl me [ofPy (PyData.list (ns.map PyData.int))] s₁ (Except.ok (Flow.ret (Value.bool true))) s₂ := by
  refine goodW_bool F hg (fun _ => rfl) ?_ hos
  wrow_post

end
end
section
noncomputable def keepAt : List Nat := [0, 2, 3, 4, 5, 6, 7, 8, 9, 10, 11, 12, 13, 14, 15, 16, 17, 18, 19, 20, 21, 22, 23, 24, 25, 26, 27, 28, 29, 31, 33, 35, 36, 37, 38, 39, 40, 41, 42, 43, 44, 45, 46, 47, 48, 49, 50, 51, 52, 53, 54, 55, 58, 59, 60, 61, 62, 63, 65, 66, 67, 68, 69, 70, 71, 72, 73, 74, 75, 77, 78, 79, 81, 82, 83, 84, 85, 86, 87, 88, 89]
noncomputable def fragAt : List Addr := [2, 3, 15, 17, 18, 20, 21, 22, 23, 30, 31, 33, 34, 36, 37, 38, 39, 40, 41, 44, 51, 52, 53, 56, 63, 64, 65, 68, 70, 71, 73, 74, 75, 77, 78, 80, 81, 82, 84, 85, 87, 88, 89, 91, 92, 94, 95, 96, 98, 99, 101, 102, 103, 105, 106, 108, 109, 110, 112, 113, 115, 116, 117, 119, 120, 122, 123, 124, 126, 127, 129, 130, 131, 132, 140, 141, 142, 144, 145, 147, 148, 149, 150, 151, 152, 153, 156, 158, 159, 161, 162, 163, 165, 166, 168, 169, 170, 173, 174, 175, 177, 178, 180, 181, 182, 184, 185, 187, 188, 196, 197, 199, 200, 202, 203, 204, 206, 207, 209, 210, 211, 212, 214, 215, 217, 218, 219, 221, 222, 224, 225, 226, 227, 228, 229, 230, 233, 235, 236, 238, 239, 240, 242, 243, 245, 246, 247, 249, 250, 252, 253, 254, 256, 257, 259, 260, 261, 263, 264, 266, 267, 268, 271, 272, 273, 275, 276, 278, 279, 280, 282, 283, 285, 286, 287, 289, 290, 292, 293, 294, 296, 297, 299, 300, 301, 303, 304, 306, 307, 308, 309, 311, 312, 314, 315, 316, 318, 319, 321, 322, 330, 331, 333, 334, 336, 337, 338, 340, 341, 343, 344, 345, 347, 348, 350, 351, 352, 354, 355, 357, 358, 359, 361, 362, 364, 365, 366, 368, 369, 371, 372, 373, 375, 376, 378, 379, 380, 382, 383, 385, 386, 387, 388, 389, 390, 391, 394, 396, 397, 399, 400, 401, 402, 404, 405, 407, 408, 409, 411, 412, 414, 415, 423, 425, 426, 428, 429, 430, 432, 433, 435, 436, 437, 439, 440, 442, 443, 444, 446, 447, 449, 450, 451, 452, 453, 454, 455, 458, 460, 461, 463, 464, 465, 467, 468, 470, 471, 472, 475, 476, 477, 479, 480, 482, 483, 484, 486, 487, 489, 490, 491, 493, 494, 496, 497, 498, 500, 501, 503, 504, 505, 507, 508, 510, 511, 519, 521, 522, 524, 525, 526, 528, 529, 531, 532, 533, 535, 536, 538, 539, 540, 541, 542, 543, 544, 547, 548, 549, 550, 551, 552, 553, 554, 557, 558, 559, 561, 562, 564, 565, 566, 569, 570, 571, 573, 574, 576, 577, 578, 580, 581, 583, 584, 585, 588, 589]
noncomputable def qv : Program := { PySem.Challenge.pw_og0280_01 with main := { PySem.Challenge.pw_og0280_01.main with body := keepAt.filterMap fun i => PySem.Challenge.pw_og0280_01.main.body[i]? } }
noncomputable def looseN : List Str := [Str.ofString "UNDER_MASK", Str.ofString "DIRECT", Str.ofString "PLAIN", Str.ofString "TermError", Str.ofString "OptionKind", Str.ofString "style_over"]
noncomputable def readN : List (Str × WData) := [(Str.ofString "UNDER_MASK", .int 3584), (Str.ofString "DIRECT", .int 16777216), (Str.ofString "PLAIN", .tuple [.int 0, .int (-1), .int (-1), .int (-1), .int 0])]
noncomputable abbrev hookK : Hook := kHook Mine.frag.heap_1 fragAt (fun _ => by kernel_rfl)
theorem wk73 : True := by
  k_with_none
  k_with "omega" => (first | decide | (with_reducible first | exact Int.natCast_nonneg _ | exact rm1 ‹_› (by decide) | exact rm2 ‹_› (by decide) | exact rm3 ‹_› (by decide) | exact om_le ‹_› (by decide) | exact om_63 ‹_› (by decide) | exact om_eqle ‹_› ‹_› (by decide) | exact om_eq63 ‹_› ‹_› (by decide) | exact om_add ‹_› (by decide) | exact om_ne ‹_› (by decide) | exact om_le2 ‹_› ‹_› (by decide) | exact om_le2s ‹_› ‹_› (by decide) | exact om_le2_63 ‹_› ‹_› (by decide) | exact om_le2s_63 ‹_› ‹_› (by decide) | exact om_z62 ‹_› (by decide) | exact om_zn62 | exact om_kle ‹_› (by decide) | exact om_neg1 | exact om_pos | exact om_at ‹_› (by decide) | exact om_at0 ‹_› | exact om_add63 ‹_› (by decide) | exact Nat.ne_of_gt (by k_extra "pick") | exact Nat.ne_of_lt (by k_extra "pick")))
  k_with "ktr_room" => (first | exact rm0 (by assumption) | exact rm1 (by assumption) (Nat.le_of_ble_eq_true rfl))
  k_with "k_ne" => ((refine neN ?_; (try dsimp only); first | exact Nat.ne_of_gt (by assumption) | exact Nat.ne_of_lt (by assumption) | exact Nat.ne_of_gt (And.left (by assumption)) | exact Nat.ne_of_lt (And.left (by assumption)) | exact Nat.ne_of_gt (And.left (And.right (by assumption))) | exact Nat.ne_of_lt (And.left (And.right (by assumption))) | exact Nat.ne_of_gt (And.right (by assumption)) | exact Nat.ne_of_lt (And.right (by assumption)) | exact Nat.ne_of_gt (And.left (And.right (And.right (by assumption)))) | exact Nat.ne_of_lt (And.left (And.right (And.right (by assumption)))) | exact Nat.ne_of_gt (And.right (And.right (by assumption))) | exact Nat.ne_of_lt (And.right (And.right (by assumption)))))
  k_with "pick" => (with_reducible first | assumption | exact And.left ‹_› | exact And.left (And.right ‹_›) | exact And.left (And.right (And.right ‹_›)) | exact And.left (And.right (And.right (And.right ‹_›))) | exact And.left (And.right (And.right (And.right (And.right ‹_›)))) | exact And.left (And.right (And.right (And.right (And.right (And.right ‹_›))))) | exact And.left (And.right (And.right (And.right (And.right (And.right (And.right ‹_›)))))) | exact And.left (And.right (And.right (And.right (And.right (And.right (And.right (And.right ‹_›))))))) | exact And.left (And.right (And.right (And.right (And.right (And.right (And.right (And.right (And.right ‹_›)))))))) | exact And.left (And.right (And.right (And.right (And.right (And.right (And.right (And.right (And.right (And.right ‹_›))))))))) | exact And.left (And.right (And.right (And.right (And.right (And.right (And.right (And.right (And.right (And.right (And.right ‹_›)))))))))) | exact (And.right ‹_›) | exact (And.right (And.right ‹_›)) | exact (And.right (And.right (And.right ‹_›))) | exact (And.right (And.right (And.right (And.right ‹_›)))) | exact (And.right (And.right (And.right (And.right (And.right ‹_›))))) | exact (And.right (And.right (And.right (And.right (And.right (And.right ‹_›)))))) | exact (And.right (And.right (And.right (And.right (And.right (And.right (And.right ‹_›))))))) | exact (And.right (And.right (And.right (And.right (And.right (And.right (And.right (And.right ‹_›)))))))) | exact (And.right (And.right (And.right (And.right (And.right (And.right (And.right (And.right (And.right ‹_›))))))))) | exact (And.right (And.right (And.right (And.right (And.right (And.right (And.right (And.right (And.right (And.right ‹_›)))))))))))
  k_with "k_room" => (((simp only [depth_under_make, depth_under_kw, depth_in1, depth_deeper, depth_caller]); omega))
  k_with "k_all" => (assumption)
  k_with "eval Name" => (k_here; dsimp only)
  k_with "eval Call" => (k_here; dsimp only)
  k_with "eval Constant int" => (k_here; dsimp only)
  k_with "eval Attribute Name" => (k_here; dsimp only)
  k_with "eval BinOp" => (k_here; dsimp only)
  k_with "storeName" => (k_here; dsimp only)
  k_with "setAttr ref" => (k_here; dsimp only)
  k_with "eval Compare" => (k_here; dsimp only)
  k_with "isTrue Compare" => (k_here; dsimp only)
  k_with "eval Subscript" => (k_here; dsimp only)
  k_with "execs cons" => (k_here; first | (with_reducible rename News _ _ _ _ => nZ9; dsimp only at nZ9) | dsimp only | ((with_reducible show wpAny _ _ _ _ _ (Shared.mk _ _ _ (HAdd.hAdd _ _) _)); refine gen_toks ?_; intro _))
  k_with "eval Name" => (k_here; (fail_if_success (with_reducible show wpAny _ _ (eval _ (compEnvC _ _ _ _)) _ _ _)); (try dsimp only); k_dflt (first | (refine' nameX_L ?q9F ?q9v ?_ ?q9a ?q9b; (case q9F => k_asm); (case q9a => rfl); (case q9b => rfl); (case q9v => rfl); k_whole) | (refine' nameX_K ?q9F ?q9X ?q9T ?q9e ?_ ?q9a ?q9b; (case q9F => k_asm); (case q9X => k_asm); (case q9T => k_asm); (case q9a => rfl); (case q9b => rfl); (case q9e => k_is); k_whole) | (refine' nameX_B ?q9F ?q9X ?q9T ?q9e ?q9v ?q9n ?_ ?q9a ?q9b; (case q9F => k_asm); (case q9X => k_asm); (case q9T => k_asm); (case q9a => rfl); (case q9b => rfl); (case q9e => k_is); (case q9v => boot_fast); (case q9n => decide); k_whole)))
  k_with "execs cons" => (k_here; (try (with_reducible rename News _ _ _ _ => nZ9; dsimp only at nZ9)); (try dsimp only); (try ((with_reducible show wpAny _ _ _ _ _ (Shared.mk _ _ _ (HAdd.hAdd _ _) _)); refine gen_toks ?_; intro _)); (with_reducible refine wpAny_execs_cons ?_); (try dsimp only))
  k_with "eval Constant int" => (k_here; (try dsimp only); refine wpAny_Constant_int ?_)
  k_with "spliced" => (k_here; (fail_if_success (with_reducible show wpAny _ _ (spliced (backTo _ (starEach (PySem.Expr.Starred _ _ :: _) _))) _ _ _)); k_dflt (first | refine args_cons ?_ | (refine args_nil ?_; try simp only [List.cons_append, List.nil_append])))
  k_with "subscriptTail" => (k_here; (with_reducible show wpAny _ _ (subscriptTail _ _ (Value.ref _) (Value.int _ _)) _ _ _); k_dflt (refine' item_tupleT ?q9t ?q9a ?q9b ?q9c ?q9d ?_; (case q9t => exact News.isTup (by k_asm) (by k_mem)); (case q9a => decide); (case q9b => decide); (case q9c => rfl); (case q9d => rfl); k_whole))
  k_with "storeName" => (k_here; (fail_if_success (with_reducible show wpAny _ _ (storeName _ _ (compEnvC _ _ _ _)) _ _ _)); (try dsimp only); k_dflt (refine' storeX_L ?q9F ?q9N ?_ ?q9a ?q9b; (case q9F => k_asm); (case q9N => k_asm); (case q9a => rfl); (case q9b => rfl); k_whole; intro z9h z9F z9N; (try k_sweep)))
  k_with "callWith ref" => (k_here; k_dflt (first | (refine' callWith_K ?q9a ?q9b ?_; (case q9a => k_asm); (case q9b => k_is); k_whole) | (refine' callWith_K0 ?q9a ?q9b ?_; (case q9a => k_in); (case q9b => k_is); k_whole) | (refine' callWith_M0 ?q9a ?q9b ?_; (case q9a => k_meth); (case q9b => k_is); k_whole; try dsimp only [List.nil_append, List.cons_append]) | (refine' callWith_M ?q9a ?q9b ?q9c ?q9d ?_; (case q9a => k_asm); (case q9b => k_asm); (case q9c => k_mem); (case q9d => k_is); k_whole)))
  k_with "truthy bool" => (with_reducible refine wpAny_truthy_bool ?_)
  k_with "k_mem" => first | with_reducible assumption | assumption
  k_with "subscriptTail" => (k_here; (with_reducible show wpAny _ _ (subscriptTail _ _ (Value.ref _) (Value.int _ _)) _ _ _); (with_unfolding_all refine' item_litK ?q9k1 ?q9k2 ?q9k3 ?q9k4 ?_ ?q9k6; (case q9k1 => exact News.isList (by k_asm) (by k_mem)); (case q9k2 => decide); (case q9k3 => decide); (case q9k4 => rfl); (case q9k6 => with_unfolding_all rfl); k_whole))
  k_with "callWith" => ((with_reducible show wpAny _ _ (callWith _ (Value.builtin _) (_ :: _) (backTo _ (starEach (_ :: _) _)) []) _ _ _); k_dflt (refine callWith_method1 ?_))
  k_with "k_mem" => first | with_reducible assumption | ((repeat (first | with_reducible assumption | exact List.Mem.head _ | exact List.mem_append_left _ (by with_reducible assumption) | refine List.Mem.tail _ ?_ | refine List.mem_append_right _ ?_ | assumption | refine m_tr (by with_reducible assumption) ?_)); done)
  k_with "ite" => first | (refine ite_pos (by first | omega | (simp only [beq_iff_eq, decide_eq_true_eq]; omega)) ?_; walk_say "BY OMEGA") | (refine ite_neg (by first | omega | (simp only [beq_iff_eq, decide_eq_true_eq]; omega)) ?_; walk_say "BY OMEGA")
  k_with "CompSrc" => (k_here; k_dflt (refine' LCg.CompSrc.range (by rfl) (by k_asm) (by k_asm) (by assumption) (small_one (by omega) (by omega) (by omega) (by omega)) (range_k _) (by rw [PySem.sizeLine_eq]; omega) ?_); intro _)
  k_with "exec Assign cons ListComp" => (k_here; k_dflt (refine LCg.Assign_ListComp_U (F₀ := by k_asm) (by rfl) (by with_unfolding_all rfl) (by with_unfolding_all rfl) (by decide) (by rfl) (by decide) (by rfl) (by rfl) (by rfl) ?_); k_dflt lcg_toSrc)
  k_with "call ref" => ((with_reducible show wpAny _ _ (call (Value.ref 558) _) _ _ _); k_dflt (refine' law_deck_ok ?q9zB ?q9zF ?q9zX ?q9zN ?q9zT ?q9zk ?q9zd ?q9zu ?q9zL ?q9zI ?q9zl ?_); ((case q9zB => k_dflt k_asm); (case q9zF => k_dflt k_asm); (case q9zX => k_dflt k_asm); (case q9zN => k_dflt k_asm); (case q9zT => k_dflt k_asm); (case q9zk => k_dflt (exact rfl)); (case q9zL => k_dflt (assumption)); (case q9zI => k_dflt (assumption)); (case q9zl => k_dflt (omega)); (case q9zd => first | (first | exact rm2 (by assumption) (Nat.le_of_ble_eq_true rfl) | exact rm1 (by assumption) (Nat.le_of_ble_eq_true rfl) | (show _ + _ < _; simp only [depth_deeper]; omega)) | decide +kernel); (case q9zu => first | (first | exact rm2 (by assumption) (Nat.le_of_ble_eq_true rfl) | exact rm1 (by assumption) (Nat.le_of_ble_eq_true rfl) | (show _ + _ < _; simp only [units_deeper]; omega)) | decide +kernel)); intro _ _ _ _ z9nl' _ _ _ _ _ _ z9hD' _ _ z9ho1' z9ho2' z9hi' z9hb' z9hl' z9hm0' z9hm1'; k_dflt (have z9hc1' := z9ho1' _ (List.Mem.head _)); k_dflt (have z9hc2' := z9ho2' _ (List.Mem.head _)); k_dflt (have z9hQ' : DeckOk _ _ _ ⟨_, _, z9nl', _, _⟩ := ⟨z9hD', z9hi', z9hb', z9hl', z9hm0', z9hm1'⟩); (try dsimp only at z9hc1' z9hc2'))
  k_with "call ref" => ((with_reducible show wpAny _ _ (call (Value.ref 565) _) _ _ _); k_dflt (refine' law_draw_mid [] ?q9zB ?q9zF ?q9zX ?q9zN ?q9zT ?q9zk ?q9zd ?q9zu ?q9zq ?q9zlo ?q9zne ?q9za1 ?q9za2 ?q9zo1 ?q9zo2 ?q9z10 ?q9z11 ?_); ((case q9zq => k_dflt assumption); (case q9zB => k_dflt k_asm); (case q9zF => k_dflt k_asm); (case q9zX => k_dflt k_asm); (case q9zN => k_dflt k_asm); (case q9zT => k_dflt k_asm); (case q9zk => k_dflt (exact rfl)); (case q9zlo => assumption); (case q9zne => assumption); (case q9za1 => k_dflt ((repeat (first | exact off_nil | refine off_cons (by (first | assumption | exact Ne.symm (And.left (by assumption)) | exact Ne.symm (And.left (And.right (by assumption))) | exact Ne.symm (And.left (And.right (And.right (by assumption)))))) ?_)))); (case q9za2 => k_dflt ((repeat (first | exact off_nil | refine off_cons (by (first | assumption | exact Ne.symm (And.left (by assumption)) | exact Ne.symm (And.left (And.right (by assumption))) | exact Ne.symm (And.left (And.right (And.right (by assumption)))))) ?_)))); (case q9zo1 => k_dflt ((repeat (first | exact off_nil | refine off_cons (by (first | assumption | exact Ne.symm (And.left (by assumption)) | exact Ne.symm (And.left (And.right (by assumption))) | exact Ne.symm (And.left (And.right (And.right (by assumption)))))) ?_)))); (case q9zo2 => k_dflt ((repeat (first | exact off_nil | refine off_cons (by (first | assumption | exact Ne.symm (And.left (by assumption)) | exact Ne.symm (And.left (And.right (by assumption))) | exact Ne.symm (And.left (And.right (And.right (by assumption)))))) ?_)))); (case q9z10 => k_dflt (first | omega | decide)); (case q9z11 => k_dflt (first | omega | decide)); (case q9zd => decide +kernel); (case q9zu => decide +kernel)); intro _ _ _ _ _ _ z9N' _ z9hv0' _; (obtain ⟨z9k', z9ek'⟩ := Int.eq_ofNat_of_zero_le z9hv0'); subst z9ek'; (try simp only [List.nil_append, List.cons_append] at z9N'))
  k_with "call ref" => ((with_reducible show wpAny _ _ (call (Value.ref 565) _) _ _ _); k_dflt (refine' law_draw_mid [_] ?q9zB ?q9zF ?q9zX ?q9zN ?q9zT ?q9zk ?q9zd ?q9zu ?q9zq ?q9zlo ?q9zne ?q9za1 ?q9za2 ?q9zo1 ?q9zo2 ?q9z10 ?q9z11 ?_); ((case q9zq => k_dflt assumption); (case q9zB => k_dflt k_asm); (case q9zF => k_dflt k_asm); (case q9zX => k_dflt k_asm); (case q9zN => k_dflt k_asm); (case q9zT => k_dflt k_asm); (case q9zk => k_dflt (exact rfl)); (case q9zlo => assumption); (case q9zne => assumption); (case q9za1 => k_dflt ((repeat (first | exact off_nil | refine off_cons (by (first | assumption | exact Ne.symm (And.left (by assumption)) | exact Ne.symm (And.left (And.right (by assumption))) | exact Ne.symm (And.left (And.right (And.right (by assumption)))))) ?_)))); (case q9za2 => k_dflt ((repeat (first | exact off_nil | refine off_cons (by (first | assumption | exact Ne.symm (And.left (by assumption)) | exact Ne.symm (And.left (And.right (by assumption))) | exact Ne.symm (And.left (And.right (And.right (by assumption)))))) ?_)))); (case q9zo1 => k_dflt ((repeat (first | exact off_nil | refine off_cons (by (first | assumption | exact Ne.symm (And.left (by assumption)) | exact Ne.symm (And.left (And.right (by assumption))) | exact Ne.symm (And.left (And.right (And.right (by assumption)))))) ?_)))); (case q9zo2 => k_dflt ((repeat (first | exact off_nil | refine off_cons (by (first | assumption | exact Ne.symm (And.left (by assumption)) | exact Ne.symm (And.left (And.right (by assumption))) | exact Ne.symm (And.left (And.right (And.right (by assumption)))))) ?_)))); (case q9z10 => k_dflt (first | omega | decide)); (case q9z11 => k_dflt (first | omega | decide)); (case q9zd => decide +kernel); (case q9zu => decide +kernel)); intro _ _ _ _ _ _ z9N' _ z9hv0' _; (obtain ⟨z9k', z9ek'⟩ := Int.eq_ofNat_of_zero_le z9hv0'); subst z9ek'; (try simp only [List.nil_append, List.cons_append] at z9N'))
  k_with "call ref" => ((with_reducible show wpAny _ _ (call (Value.ref 565) _) _ _ _); k_dflt (refine' law_draw_mid [_, _] ?q9zB ?q9zF ?q9zX ?q9zN ?q9zT ?q9zk ?q9zd ?q9zu ?q9zq ?q9zlo ?q9zne ?q9za1 ?q9za2 ?q9zo1 ?q9zo2 ?q9z10 ?q9z11 ?_); ((case q9zq => k_dflt assumption); (case q9zB => k_dflt k_asm); (case q9zF => k_dflt k_asm); (case q9zX => k_dflt k_asm); (case q9zN => k_dflt k_asm); (case q9zT => k_dflt k_asm); (case q9zk => k_dflt (exact rfl)); (case q9zlo => assumption); (case q9zne => assumption); (case q9za1 => k_dflt ((repeat (first | exact off_nil | refine off_cons (by (first | assumption | exact Ne.symm (And.left (by assumption)) | exact Ne.symm (And.left (And.right (by assumption))) | exact Ne.symm (And.left (And.right (And.right (by assumption)))))) ?_)))); (case q9za2 => k_dflt ((repeat (first | exact off_nil | refine off_cons (by (first | assumption | exact Ne.symm (And.left (by assumption)) | exact Ne.symm (And.left (And.right (by assumption))) | exact Ne.symm (And.left (And.right (And.right (by assumption)))))) ?_)))); (case q9zo1 => k_dflt ((repeat (first | exact off_nil | refine off_cons (by (first | assumption | exact Ne.symm (And.left (by assumption)) | exact Ne.symm (And.left (And.right (by assumption))) | exact Ne.symm (And.left (And.right (And.right (by assumption)))))) ?_)))); (case q9zo2 => k_dflt ((repeat (first | exact off_nil | refine off_cons (by (first | assumption | exact Ne.symm (And.left (by assumption)) | exact Ne.symm (And.left (And.right (by assumption))) | exact Ne.symm (And.left (And.right (And.right (by assumption)))))) ?_)))); (case q9z10 => k_dflt (first | omega | decide)); (case q9z11 => k_dflt (first | omega | decide)); (case q9zd => decide +kernel); (case q9zu => decide +kernel)); intro _ _ _ _ _ _ z9N' _ z9hv0' _; (obtain ⟨z9k', z9ek'⟩ := Int.eq_ofNat_of_zero_le z9hv0'); subst z9ek'; (try simp only [List.nil_append, List.cons_append] at z9N'))
  k_with "call ref" => ((with_reducible show wpAny _ _ (call (Value.ref 565) _) _ _ _); k_dflt (refine' law_draw_mid [_, _, _] ?q9zB ?q9zF ?q9zX ?q9zN ?q9zT ?q9zk ?q9zd ?q9zu ?q9zq ?q9zlo ?q9zne ?q9za1 ?q9za2 ?q9zo1 ?q9zo2 ?q9z10 ?q9z11 ?_); ((case q9zq => k_dflt assumption); (case q9zB => k_dflt k_asm); (case q9zF => k_dflt k_asm); (case q9zX => k_dflt k_asm); (case q9zN => k_dflt k_asm); (case q9zT => k_dflt k_asm); (case q9zk => k_dflt (exact rfl)); (case q9zlo => assumption); (case q9zne => assumption); (case q9za1 => k_dflt ((repeat (first | exact off_nil | refine off_cons (by (first | assumption | exact Ne.symm (And.left (by assumption)) | exact Ne.symm (And.left (And.right (by assumption))) | exact Ne.symm (And.left (And.right (And.right (by assumption)))))) ?_)))); (case q9za2 => k_dflt ((repeat (first | exact off_nil | refine off_cons (by (first | assumption | exact Ne.symm (And.left (by assumption)) | exact Ne.symm (And.left (And.right (by assumption))) | exact Ne.symm (And.left (And.right (And.right (by assumption)))))) ?_)))); (case q9zo1 => k_dflt ((repeat (first | exact off_nil | refine off_cons (by (first | assumption | exact Ne.symm (And.left (by assumption)) | exact Ne.symm (And.left (And.right (by assumption))) | exact Ne.symm (And.left (And.right (And.right (by assumption)))))) ?_)))); (case q9zo2 => k_dflt ((repeat (first | exact off_nil | refine off_cons (by (first | assumption | exact Ne.symm (And.left (by assumption)) | exact Ne.symm (And.left (And.right (by assumption))) | exact Ne.symm (And.left (And.right (And.right (by assumption)))))) ?_)))); (case q9z10 => k_dflt (first | omega | decide)); (case q9z11 => k_dflt (first | omega | decide)); (case q9zd => decide +kernel); (case q9zu => decide +kernel)); intro _ _ _ _ _ _ z9N' _ z9hv0' _; (obtain ⟨z9k', z9ek'⟩ := Int.eq_ofNat_of_zero_le z9hv0'); subst z9ek'; (try simp only [List.nil_append, List.cons_append] at z9N'))
  k_with "call ref" => ((with_reducible show wpAny _ _ (call (Value.ref 565) _) _ _ _); k_dflt (refine' law_draw_mid [_, _, _, _] ?q9zB ?q9zF ?q9zX ?q9zN ?q9zT ?q9zk ?q9zd ?q9zu ?q9zq ?q9zlo ?q9zne ?q9za1 ?q9za2 ?q9zo1 ?q9zo2 ?q9z10 ?q9z11 ?_); ((case q9zq => k_dflt assumption); (case q9zB => k_dflt k_asm); (case q9zF => k_dflt k_asm); (case q9zX => k_dflt k_asm); (case q9zN => k_dflt k_asm); (case q9zT => k_dflt k_asm); (case q9zk => k_dflt (exact rfl)); (case q9zlo => assumption); (case q9zne => assumption); (case q9za1 => k_dflt ((repeat (first | exact off_nil | refine off_cons (by (first | assumption | exact Ne.symm (And.left (by assumption)) | exact Ne.symm (And.left (And.right (by assumption))) | exact Ne.symm (And.left (And.right (And.right (by assumption)))))) ?_)))); (case q9za2 => k_dflt ((repeat (first | exact off_nil | refine off_cons (by (first | assumption | exact Ne.symm (And.left (by assumption)) | exact Ne.symm (And.left (And.right (by assumption))) | exact Ne.symm (And.left (And.right (And.right (by assumption)))))) ?_)))); (case q9zo1 => k_dflt ((repeat (first | exact off_nil | refine off_cons (by (first | assumption | exact Ne.symm (And.left (by assumption)) | exact Ne.symm (And.left (And.right (by assumption))) | exact Ne.symm (And.left (And.right (And.right (by assumption)))))) ?_)))); (case q9zo2 => k_dflt ((repeat (first | exact off_nil | refine off_cons (by (first | assumption | exact Ne.symm (And.left (by assumption)) | exact Ne.symm (And.left (And.right (by assumption))) | exact Ne.symm (And.left (And.right (And.right (by assumption)))))) ?_)))); (case q9z10 => k_dflt (first | omega | decide)); (case q9z11 => k_dflt (first | omega | decide)); (case q9zd => decide +kernel); (case q9zu => decide +kernel)); intro _ _ _ _ _ _ z9N' _ z9hv0' _; (obtain ⟨z9k', z9ek'⟩ := Int.eq_ofNat_of_zero_le z9hv0'); subst z9ek'; (try simp only [List.nil_append, List.cons_append] at z9N'))
  k_with "eval ListComp" => (k_here; k_dflt (refine LCg.ListComp_U (F₀ := by k_asm) (by rfl) (by decide) (by rfl) (by decide) (by rfl) ?_); k_dflt lcg_toSrc)
  k_with "CompSrc" => (k_here; k_dflt (refine' LCg.CompSrc.ledger (by rfl) (by k_asm) (by k_asm) (by k_mem) (by rw [List.size_toArray, PySem.sizeLine_eq]; first | omega | (have z9hz9 := IntsAre.length (by assumption); omega)) ?_); intro _)
  k_with "setItem" => (k_here; (with_reducible show wpAny _ _ (setItem (Value.ref _) (Value.bytes _ _) _) _ _ _); k_dflt (refine' kda_set (knd := bytesKind _ _) ?q9F ?q9N ?q9U ?q9d (bk_is _ _ _ _) ?q9z ?_; (case q9F => k_asm); (case q9N => k_asm); (case q9U => k_updF); (case q9d => first | assumption | exact bk_empty (by assumption)); (case q9z => rw [sizeLine_eq]; exact Nat.le_of_ble_eq_true (by with_unfolding_all rfl))); intro _ _ _ z9N' _; (try dsimp only at z9N'))
  k_with "subscriptTail" => (k_here; (with_reducible show wpAny _ _ (subscriptTail _ _ (Value.ref _) (Value.bytes _ _)) _ _ _); k_dflt (refine kda_item (knd := bytesKind _ _) (by k_asm) (by k_mem) (by assumption) (bk_is _ _ _ _) (by with_unfolding_all rfl) ?_))
  k_with "compareOp In bytes ref" => (k_here; (with_reducible show wpAny _ _ (compareOp CmpOp.In (Value.bytes _ _) (Value.ref _)) _ _ _); k_dflt (first | refine kda_in (knd := bytesKind _ _) (by k_asm) (by k_mem) (by assumption) (by assumption) (bk_is _ _ _ _) true (by with_unfolding_all rfl) ?_ | refine kda_in (knd := bytesKind _ _) (by k_asm) (by k_mem) (by assumption) (by assumption) (bk_is _ _ _ _) false (by with_unfolding_all rfl) ?_))
  k_with "compareOp NotIn bytes ref" => (k_here; (with_reducible show wpAny _ _ (compareOp CmpOp.NotIn (Value.bytes _ _) (Value.ref _)) _ _ _); k_dflt (first | refine kdg_notin (knd := bytesKind _ _) (by k_asm) (by k_mem) (by assumption) (by assumption) (bk_is _ _ _ _) true (by with_unfolding_all rfl) ?_ | refine kdg_notin (knd := bytesKind _ _) (by k_asm) (by k_mem) (by assumption) (by assumption) (bk_is _ _ _ _) false (by with_unfolding_all rfl) ?_))
  k_with "eval Dict" => (k_here; k_dflt (refine' kdn_eval (knd := bytesKind _ _) ?q9F ?q9N ?q9b ?q9a ?q9l ?q9e ?q9n ?_; (case q9F => k_asm); (case q9N => first | k_asm | exact News.nil); (case q9b => exact Top.nolimit (by k_asm)); (case q9a => rfl); (case q9l => rfl); (case q9e => exact List.cons_ne_nil _ _); (case q9n => exact Nat.le_of_ble_eq_true rfl)); intro _ _ _ _ _ z9l1 _ _; (try k_lt z9l1))
  k_with "KdnMade" => (k_here; (try dsimp only); k_dflt (refine' kdn_made_b (bkKv _) ?q9zF ?q9zN ?q9zU ?q9zd (carries_b _ ?q9zk) ?q9zn ?_; (case q9zF => k_dflt k_asm); (case q9zN => k_dflt k_asm); (case q9zU => k_updF); (case q9zd => k_dflt k_asm); (case q9zk => exact rfl); (case q9zn => exact of_decide_eq_true (by first | rfl | kernel_rfl!))); intro _ _ _ z9N' z9hd'; (try dsimp only at z9N'); (try simp only [bkKv, List.map_cons, List.map_nil] at z9hd'))
  k_with "getMethod bytes" => (k_here; k_dflt (with_reducible refine bm_joinM ?_))
  k_with "call builtin:bytes.join" => (k_here; k_dflt (refine' bt_join ?q9zN ?q9zm ?q9zb ?q9zl ?q9zs ?_; (case q9zN => k_dflt k_asm); (case q9zm => k_mem); (case q9zb => assumption); (case q9zl => omega); (case q9zs => assumption)); intro _ _ _ _)
  k_with "call ref" => ((with_reducible show wpAny _ _ (call (Value.ref 151) _) _ _ _); k_dflt (refine' kind_ok ?q9zB ?q9zF ?q9zX ?q9zN ?q9zT ?q9zk ?q9zd ?q9zu  ?_); ((case q9zB => k_dflt k_asm); (case q9zF => k_dflt k_asm); (case q9zX => k_dflt k_asm); (case q9zN => k_dflt k_asm); (case q9zT => k_dflt k_asm); (case q9zk => k_dflt (exact rfl));  (case q9zd => first | (first | exact rm2 (by assumption) (Nat.le_of_ble_eq_true rfl) | exact rm1 (by assumption) (Nat.le_of_ble_eq_true rfl) | (show _ + _ < _; simp only [depth_deeper]; omega)) | decide +kernel); (case q9zu => first | (first | exact rm2 (by assumption) (Nat.le_of_ble_eq_true rfl) | exact rm1 (by assumption) (Nat.le_of_ble_eq_true rfl) | (show _ + _ < _; simp only [units_deeper]; omega)) | decide +kernel)); intro _ _ _ _ _ _ _ _ _ _ _ _ _ _ _ _ _ _ _ z9l1 z9l2; (try k_lt z9l1); (try k_lt2 z9l2))
  k_with "call ref" => ((with_reducible show wpAny _ _ (call (Value.ref 228) _) _ _ _); k_dflt (refine' options_ok ?q9zB ?q9zF ?q9zX ?q9zN ?q9zT ?q9zk ?q9zd ?q9zu ?q9za ?q9zb ?q9zc ?q9ze ?q9zf ?_); ((case q9zB => k_dflt k_asm); (case q9zF => k_dflt k_asm); (case q9zX => k_dflt k_asm); (case q9zN => k_dflt k_asm); (case q9zT => k_dflt k_asm); (case q9zk => k_dflt (exact rfl)); (case q9za => k_dflt (k_mem)); (case q9zb => k_dflt (assumption)); (case q9zc => k_dflt (assumption)); (case q9ze => k_dflt (k_mem)); (case q9zf => k_dflt (k_mem)); (case q9zd => first | (first | exact rm2 (by assumption) (Nat.le_of_ble_eq_true rfl) | exact rm1 (by assumption) (Nat.le_of_ble_eq_true rfl) | (show _ + _ < _; simp only [depth_deeper]; omega)) | decide +kernel); (case q9zu => first | (first | exact rm2 (by assumption) (Nat.le_of_ble_eq_true rfl) | exact rm1 (by assumption) (Nat.le_of_ble_eq_true rfl) | (show _ + _ < _; simp only [units_deeper]; omega)) | decide +kernel)); intro _ _ _ _ _ _ _ _)
  k_with "call ref" => ((with_reducible show wpAny _ _ (call (Value.ref 542) _) _ _ _); k_dflt (refine' width_table_ok ?q9zB ?q9zF ?q9zX ?q9zN ?q9zT ?q9zk ?q9zd ?q9zu ?q9za ?q9zb ?q9zc ?q9ze ?q9zf ?_); ((case q9zB => k_dflt k_asm); (case q9zF => k_dflt k_asm); (case q9zX => k_dflt k_asm); (case q9zN => k_dflt k_asm); (case q9zT => k_dflt k_asm); (case q9zk => k_dflt (exact rfl)); (case q9za => k_dflt (k_mem)); (case q9zb => k_dflt (k_mem)); (case q9zc => k_dflt (k_mem)); (case q9ze => k_dflt (k_mem)); (case q9zf => k_dflt (k_mem)); (case q9zd => first | (first | exact rm2 (by assumption) (Nat.le_of_ble_eq_true rfl) | exact rm1 (by assumption) (Nat.le_of_ble_eq_true rfl) | (show _ + _ < _; simp only [depth_deeper]; omega)) | decide +kernel); (case q9zu => first | (first | exact rm2 (by assumption) (Nat.le_of_ble_eq_true rfl) | exact rm1 (by assumption) (Nat.le_of_ble_eq_true rfl) | (show _ + _ < _; simp only [units_deeper]; omega)) | decide +kernel)); intro _ _ _ _ _ _ _ _)
  k_with "call ref" => ((with_reducible show wpAny _ _ (call (Value.ref 570) _) _ _ _); k_dflt (refine' law_columns_ok ?q9zB ?q9zF ?q9zX ?q9zN ?q9zT ?q9zk ?q9zd ?q9zu ?q9zm ?q9zi ?q9zo ?q9zl ?_); ((case q9zB => k_dflt k_asm); (case q9zF => k_dflt k_asm); (case q9zX => k_dflt k_asm); (case q9zN => k_dflt k_asm); (case q9zT => k_dflt k_asm); (case q9zk => k_dflt (exact rfl)); (case q9zm => k_dflt (k_mem)); (case q9zi => k_dflt (first | assumption | exact IntsAre.take (by assumption) _)); (case q9zo => k_dflt (first | assumption | exact ok_take (by assumption))); (case q9zl => k_dflt (first | assumption | (rw [List.length_take]; omega))); (case q9zd => first | (first | exact rm2 (by assumption) (Nat.le_of_ble_eq_true rfl) | exact rm1 (by assumption) (Nat.le_of_ble_eq_true rfl) | (show _ + _ < _; simp only [depth_deeper]; omega)) | decide +kernel); (case q9zu => first | (first | exact rm2 (by assumption) (Nat.le_of_ble_eq_true rfl) | exact rm1 (by assumption) (Nat.le_of_ble_eq_true rfl) | (show _ + _ < _; simp only [units_deeper]; omega)) | decide +kernel)); intro _ _ _ _ _ _ _ _ _ _ z9hC'; (have z9hlen' := All2.length z9hC'); (have z9hl9' := cols_len_le z9hC' (by first | assumption | (rw [List.length_take]; omega))))
  k_with "call ref" => ((with_reducible show wpAny _ _ (call (Value.ref 577) _) _ _ _); k_dflt (refine' law_cut_typed ?q9zB ?q9zF ?q9zX ?q9zN ?q9zT ?q9zk ?q9zd ?q9zu ?q9zm ?q9zC ?q9zq ?q9zl ?q9za ?q9zb ?q9zc ?_); ((case q9zB => k_dflt k_asm); (case q9zF => k_dflt k_asm); (case q9zX => k_dflt k_asm); (case q9zN => k_dflt k_asm); (case q9zT => k_dflt k_asm); (case q9zk => k_dflt (exact rfl)); (case q9zm => k_dflt (k_mem)); (case q9zC => k_dflt (assumption)); (case q9zq => k_dflt ((intro _ _; k_mem))); (case q9zl => k_dflt (first | exact cols_len_le (by assumption) (by assumption))); (case q9za => k_dflt (assumption)); (case q9zb => k_dflt (assumption)); (case q9zc => k_dflt (omega)); (case q9zd => first | (first | exact rm2 (by assumption) (Nat.le_of_ble_eq_true rfl) | exact rm1 (by assumption) (Nat.le_of_ble_eq_true rfl) | (show _ + _ < _; simp only [depth_deeper]; omega)) | decide +kernel); (case q9zu => first | (first | exact rm2 (by assumption) (Nat.le_of_ble_eq_true rfl) | exact rm1 (by assumption) (Nat.le_of_ble_eq_true rfl) | (show _ + _ < _; simp only [units_deeper]; omega)) | decide +kernel)); intro _ _ _ _ _ _ _ _ _ _ z9hC' _; (have z9hlen' := All2.length z9hC'))
  k_with "call ref" => ((with_reducible show wpAny _ _ (call (Value.ref 577) _) _ _ _); k_dflt (refine' law_cut_row ?q9zB ?q9zF ?q9zX ?q9zN ?q9zT ?q9zk ?q9zd ?q9zu ?q9zm ?q9zC ?q9zq ?q9zl ?q9za ?q9zb ?_); ((case q9zB => k_dflt k_asm); (case q9zF => k_dflt k_asm); (case q9zX => k_dflt k_asm); (case q9zN => k_dflt k_asm); (case q9zT => k_dflt k_asm); (case q9zk => k_dflt (exact rfl)); (case q9zm => k_dflt (k_mem)); (case q9zC => k_dflt (assumption)); (case q9zq => k_dflt ((intro _ _; k_mem))); (case q9zl => k_dflt (first | exact cols_len_le (by assumption) (by assumption))); (case q9za => k_dflt (assumption)); (case q9zb => k_dflt (assumption)); (case q9zd => first | (first | exact rm2 (by assumption) (Nat.le_of_ble_eq_true rfl) | exact rm1 (by assumption) (Nat.le_of_ble_eq_true rfl) | (show _ + _ < _; simp only [depth_deeper]; omega)) | decide +kernel); (case q9zu => first | (first | exact rm2 (by assumption) (Nat.le_of_ble_eq_true rfl) | exact rm1 (by assumption) (Nat.le_of_ble_eq_true rfl) | (show _ + _ < _; simp only [units_deeper]; omega)) | decide +kernel)); intro _ _ _ _ _ _ _ _ _ _ z9hC' _; (have z9hlen' := All2.length z9hC'))
  k_with "call ref" => ((with_reducible show wpAny _ _ (call (Value.ref 584) _) _ _ _); k_dflt (refine' law_shown_ok ?q9zB ?q9zF ?q9zX ?q9zN ?q9zT ?q9zk ?q9zd ?q9zu ?q9zm ?q9zC ?q9zl ?q9zp ?q9zs ?_); ((case q9zB => k_dflt k_asm); (case q9zF => k_dflt k_asm); (case q9zX => k_dflt k_asm); (case q9zN => k_dflt k_asm); (case q9zT => k_dflt k_asm); (case q9zk => k_dflt (exact rfl)); (case q9zm => k_dflt (k_mem)); (case q9zC => k_dflt (exact CellsV.mono (by assumption) (by (intro _ _; k_mem)))); (case q9zl => k_dflt (exact shown_len (by assumption) (by assumption))); (case q9zp => k_dflt (assumption)); (case q9zs => k_dflt (exact prompt_show (sign_n32 (by assumption)) (typed_n32 (by assumption)) (by assumption) (by assumption) _ _)); (case q9zd => first | (first | exact rm2 (by assumption) (Nat.le_of_ble_eq_true rfl) | exact rm1 (by assumption) (Nat.le_of_ble_eq_true rfl) | (show _ + _ < _; simp only [depth_deeper]; omega)) | decide +kernel); (case q9zu => first | (first | exact rm2 (by assumption) (Nat.le_of_ble_eq_true rfl) | exact rm1 (by assumption) (Nat.le_of_ble_eq_true rfl) | (show _ + _ < _; simp only [units_deeper]; omega)) | decide +kernel)); intro _ _ _ _ _ _ _ _ _ _ z9hC'; (have z9hlen' := All2.length z9hC'))
  k_with "subscriptTail Name Slice ref ref" => (k_here; (with_reducible show wpAny _ _ (subscriptTail _ (PySem.Expr.Slice none (some _) none _) (Value.ref _) (Value.ref _)) _ _ _); k_dflt (refine' kms_slice_lit ?q9zF ?q9zN ?q9zl ?q9zp ?q9zq ?q9ze ?_ ?q9zs ?q9zt ?q9zz; (case q9zF => k_dflt k_asm); (case q9zN => k_dflt k_asm); (case q9zl => exact News.isList (by k_asm) (by k_mem)); (case q9zp => kmk_part); (case q9zq => kmk_part); (case q9ze => exact pick_upto0); (case q9zs => with_unfolding_all rfl); (case q9zt => kmk_pure); (case q9zz => ((simp only [List.size_toArray, sizeLine_eq]); omega))); intro _ _ _ _ z9l1; (try k_lt z9l1); (try k_sweep))
  k_with "binaryOp Mult ref int" => (k_here; (with_reducible show wpAny _ _ (binaryOp Operator.Mult (Value.ref _) (Value.int _ _)) _ _ _); k_dflt (refine' m_mulL ?q9zF ?q9zN ?q9zm ?q9zx ?q9zn ?_; (case q9zF => k_dflt k_asm); (case q9zN => k_dflt k_asm); (case q9zm => k_mem); (case q9zx => exact sub_nat (by rw [List.length_append]; omega)); (case q9zn => omega)); intro _ _ _ _ z9l1; (try k_lt z9l1); (try k_sweep))
  k_with "compareOp Eq int int" => (k_here; k_dflt (refine eq_yes (law_col2 (by assumption) (by assumption) (by assumption) (by assumption)) ?_); refine stop_in ?_)
  k_with "call builtin:len" => (k_here; (with_reducible show wpAny _ _ (call (Value.builtin "len") [Value.ref _]) _ _ _); k_dflt (refine' kst_len ?q9k1 ?q9k2 rfl ?q9k4 ?_; (case q9k1 => k_asm); (case q9k2 => k_mem); (case q9k4 => ((try simp only [List.length_append, List.length_cons, List.length_nil]); omega)); k_whole))
  k_with "binaryOp Add ref ref" => (k_here; (with_reducible show wpAny _ _ (binaryOp _ (Value.ref _) (Value.ref _)) _ _ _); k_dflt (refine' m_addL ?q9zF ?q9zN ?q9za ?q9zb ?q9zz ?_); (case q9zF => k_dflt k_asm); (case q9zN => k_dflt k_asm); (case q9za => k_mem); (case q9zb => k_mem); (case q9zz => omega); intro _ _ _ _ z9l1; (try k_lt z9l1); (try k_sweep))
  k_with "binaryOp Add ref ref" => (k_here; (with_reducible show wpAny _ _ (binaryOp _ (Value.ref _) (Value.ref _)) _ _ _); k_dflt (refine' m_addL ?q9zF ?q9zN ?q9za ?q9zb ?q9zz ?_; (case q9zF => k_dflt k_asm); (case q9zN => k_dflt k_asm); (case q9za => k_mem); (case q9zb => k_mem); (case q9zz => simp only [List.length_append, List.length_replicate]; omega)); intro _ _ _ _ z9l1; (try k_lt z9l1); (try k_sweep))
  k_with "compareOp Eq ref ref" => (k_here; (with_reducible show wpAny _ _ (compareOp CmpOp.Eq (Value.ref _) (Value.ref _)) _ _ _); k_dflt (refine' cols_eq ?q9zN ?q9za ?q9zb ?q9zC ?q9zD ?q9zs (fun _ h => h) ?q9ze ?q9zu ?_; (case q9zN => k_dflt k_asm); (case q9za => k_mem); (case q9zb => k_mem); (case q9zC => assumption); (case q9zD => exact All2.append (All2.append (ColsV.mono (by assumption) (by (intro z9qq z9hqq; k_mem))) (ColsV.mono (by assumption) (by (intro z9qq z9hqq; k_mem)))) (All2.repl (colV_empty (by k_mem)) _)); (case q9zs => (intro z9qq z9hqq; k_mem)); (case q9ze => exact law_due2 (by assumption) (by assumption) (by assumption) (by assumption)); (case q9zu => simp only [units_deeper, cLine_is]; decide); k_whole))
  k_with "call ref" => ((with_reducible show wpAny _ _ (call (Value.ref 497) _) _ _ _); refine stop_in ?_)
  k_with "subscriptTail" => (k_here; (with_reducible show wpAny _ _ (subscriptTail _ _ (Value.ref 553) (Value.int _ _)) _ _ _); k_dflt (refine' item_style ?q9zK ?q9z0 ?q9z1 ?_ (by with_unfolding_all rfl); (case q9zK => exact Frag.In.keeps (by k_asm) (Fr.keep (by k_asm))); (case q9z0 => omega); (case q9z1 => omega)); intro _ _ _ _ _ _ _ _)
  k_with "subscriptTail" => (k_here; (with_reducible show wpAny _ _ (subscriptTail _ _ (Value.ref 547) (Value.int _ _)) _ _ _); k_dflt (refine' item_sign ?q9zK ?q9z0 ?q9z1 ?_ (by with_unfolding_all rfl); (case q9zK => exact Frag.In.keeps (by k_asm) (Fr.keep (by k_asm))); (case q9z0 => omega); (case q9z1 => omega)); intro _ _ _)
  k_with "subscriptTail" => (k_here; (with_reducible show wpAny _ _ (subscriptTail _ _ (Value.ref 548) (Value.int _ _)) _ _ _); k_dflt (refine' item_typed ?q9zK ?q9z0 ?q9z1 ?_ (by with_unfolding_all rfl); (case q9zK => exact Frag.In.keeps (by k_asm) (Fr.keep (by k_asm))); (case q9z0 => omega); (case q9z1 => omega)); intro _ _ _)
  trivial
inductive MenuI (prog : Program) (w : World) (P : Int → Prop) (d ll : Addr) (rest : Led) (i : Nat) (ys : List Value) (nw : Led) : Prop
  | mk (q : DeckS) (cs : List Int) (p1 : nw = (d, DeckS.o q) :: (ll, listOf q.lv.toArray q.nl) :: rest) (p2 : DeckOk prog w ll q) (p3 : IntsAre ys cs) (p4 : cs.length = i) (p5 : ∀ c ∈ cs, P c) : MenuI prog w P d ll rest i ys nw
theorem MenuI.snoc {prog : Program} {w : World} {P : Int → Prop} {d ll : Addr} {rest : Led} {i : Nat} {ys : List Value} {q : DeckS} {cs : List Int} {c : Int} {t : Tok} (hQ : DeckOk prog w ll q) (hI : IntsAre ys cs) (hl : cs.length = i) (hc : ∀ c ∈ cs, P c) (h : P c) :
  MenuI prog w P d ll rest (i + 1) (ys ++ [.int c t]) ((d, DeckS.o q) :: (ll, listOf q.lv.toArray q.nl) :: rest) :=
  ⟨q, cs ++ [c], rfl, hQ, IntsAre.append hI (.cons _ _ .nil), by simp [hl], fun x hx => (List.mem_append.mp hx).elim (hc x) fun hx => by rw [List.mem_singleton] at hx; exact hx ▸ h⟩
inductive MenuJ (prog : Program) (w : World) (P : Int → Prop) (d ll : Addr) (x : Addr × Obj) (rest : Led) (i : Nat) (ys : List Value) (nw : Led) : Prop
  | mk (q : DeckS) (cs : List Int) (p1 : nw = x :: (d, DeckS.o q) :: (ll, listOf q.lv.toArray q.nl) :: rest) (p2 : DeckOk prog w ll q) (p3 : IntsAre ys cs) (p4 : cs.length = i) (p5 : ∀ c ∈ cs, P c) : MenuJ prog w P d ll x rest i ys nw
theorem MenuJ.snoc {prog : Program} {w : World} {P : Int → Prop} {d ll : Addr} {x : Addr × Obj} {rest : Led} {i : Nat} {ys : List Value} {q : DeckS} {cs : List Int} {c : Int} {t : Tok} (hQ : DeckOk prog w ll q) (hI : IntsAre ys cs) (hl : cs.length = i) (hc : ∀ c ∈ cs, P c) (h : P c) :
  MenuJ prog w P d ll x rest (i + 1) (ys ++ [.int c t]) (x :: (d, DeckS.o q) :: (ll, listOf q.lv.toArray q.nl) :: rest) :=
  ⟨q, cs ++ [c], rfl, hQ, IntsAre.append hI (.cons _ _ .nil), by simp [hl], fun x hx => (List.mem_append.mp hx).elim (hc x) fun hx => by rw [List.mem_singleton] at hx; exact hx ▸ h⟩
theorem walk.tw14268385108601062875 : True := trivial
set_option Elab.async true in
theorem walk : (∀ d kwd, defOf qv (Str.ofString "law") = some (d, kwd) → WalkO qv looseN (XL qv readN) (Hook.says hookK) PySem.Challenge.rw_og0280_01.row.toRowW d kwd fun f vs => PySem.call f vs) := by
  intro d kwd hdk
  injection hdk with h1
  injection h1 with h2 h3
  subst h2
  subst h3
  k_go0
  (all_goals try k_fold)
  k_steps
  rename DeckOk _ _ _ _ => hQ0
  refine comp_inv (MenuI _ _ IsSign _ _ _) _ ⟨_, [], rfl, hQ0, .nil, rfl, fun _ h => nomatch h⟩ ?_ ?_
  · rintro i v ys nw a0 oI C oC D m₂ h tk E' hi ⟨tv, rfl⟩ ⟨q, cs, rfl, hQ, hI, hl, hc⟩ hC hx F2 N2 off ne
    (try ((show wpAny _ _ _ _ _ _); k_fold))
    (rename LCg.Off3 _ _ _ _ => off; have ed := off.mem _ (.head _); have el := off.mem _ (.tail _ (.head _)); have e1 := Ne.symm ed.1; have e2 := Ne.symm ed.2.1; have e3 := Ne.symm ed.2.2; have e4 := Ne.symm el.1; have e5 := Ne.symm el.2.1; have e6 := Ne.symm el.2.2; dsimp only at e1 e2 e3 e4 e5 e6; clear ed el; k_steps; rename DeckOk _ _ _ _ => hQ1; rename News _ _ _ _ => kN; rename LCg.Off3 _ _ _ _ => off1; refine LCg.CompEnd.intro (by assumption) kN _ (fun _ h => h) off1 trivial (MenuI.snoc hQ1 (by assumption) (by assumption) (by assumption) (by assumption)))
  · rintro ys nw ⟨q, cs, rfl, hQ, hI, hl, hc⟩
    have hyl := hI.length
    have hc8 : cs.length ≤ 8 := by omega
    have hy8 : ys.length ≤ 8 := by omega
    k_steps
    rename DeckOk _ _ _ _ => hQ0
    refine comp_inv (MenuJ _ _ IsTyped _ _ _ _) _ ⟨_, [], rfl, hQ0, .nil, rfl, fun _ h => nomatch h⟩ ?_ ?_
    · rintro i v ys2 nw a0 oI C oC D m₂ h tk E' hi ⟨tv, rfl⟩ ⟨q, ds, rfl, hQ, hJ, hl2, hd⟩ hC hx F2 N2 off ne
      (try ((show wpAny _ _ _ _ _ _); k_fold))
      (rename LCg.Off3 _ _ _ _ => off; have ed := off.mem _ (.tail _ (.head _)); have el := off.mem _ (.tail _ (.tail _ (.head _))); have e1 := Ne.symm ed.1; have e2 := Ne.symm ed.2.1; have e3 := Ne.symm ed.2.2; have e4 := Ne.symm el.1; have e5 := Ne.symm el.2.1; have e6 := Ne.symm el.2.2; dsimp only at e1 e2 e3 e4 e5 e6; clear ed el; k_steps; rename DeckOk _ _ _ _ => hQ1; rename News _ _ _ _ => kN; rename LCg.Off3 _ _ _ _ => off1; refine LCg.CompEnd.intro (by assumption) kN _ (fun _ h => h) off1 trivial (MenuJ.snoc hQ1 (by assumption) (by assumption) (by assumption) (by assumption)))
    · rintro ys2 nw ⟨q, ds, rfl, hQ, hJ, hl2, hd⟩
      have hyl2 := hJ.length
      have hd8 : ds.length ≤ 8 := by omega
      have hy28 : ys2.length ≤ 8 := by omega
      k_steps
      refine comp_inv (OctI cs _) _ ⟨⟨[], rfl⟩, .nil⟩ ?_ ?_
      · rintro i v ys3 nw a0 oI C oC D m₂ h tk E' hi hv ⟨⟨tl, rfl⟩, hb⟩ hC hx F2 N2 off ne
        (try ((show wpAny _ _ _ _ _ _); k_fold))
        obtain ⟨c, tc, hci, rfl⟩ := ints_at hI hv
        obtain ⟨hc0, hc1, hc2⟩ := sign_rng (hc c (List.mem_of_getElem? hci))
        k_steps
        all_goals (rename News _ _ _ ((_, W.listOf _ _) :: _) => kN)
        all_goals (rename _ < _ ∧ _ => lt9)
        · refine LCg.CompEnd.intro (by assumption) kN ((_, _) :: (tl ++ _)) sub_oct (lts3 lt9.1 lt9.2.1 lt9.2.2.1 off) (.inr ⟨_, .tail _ (List.mem_append.mpr (.inr (.tail _ (.head _)))), rfl, _, rfl⟩) (OctI.snoc (ns := [228, 184, 128 + c - 19968]) hb hci (enc3 (by assumption)))
        · refine LCg.CompEnd.intro (by assumption) kN ((_, _) :: (tl ++ _)) sub_oct (lts3 lt9.1 lt9.2.1 lt9.2.2.1 off) (.inr ⟨_, .tail _ (List.mem_append.mpr (.inr (.tail _ (.head _)))), rfl, _, rfl⟩) (OctI.snoc (ns := [c]) hb hci (enc1 (by assumption)))
      · rintro ys3 nw hO
        obtain ⟨⟨tl, rfl⟩, hb⟩ := octI_fin hI hO
        have hbl : (cs.map encB).length ≤ 20 := by rw [List.length_map]; omega
        have hbs : ∀ b ∈ cs.map encB, b.size ≤ 10 := by
          intro b hb
          obtain ⟨c, _, rfl⟩ := List.mem_map.mp hb
          exact encB_size c
        clear hO
        k_steps
        unfold Mine.Stop
        rename OptV _ _ _ _ _ => hO
        rename TabV _ _ => hT
        rename StyleIs _ _ => hSt
        rename PenK _ _ => hPn
        rename ∀ q : Addr × Obj, q ∈ (_, W.listOf #[] 0) :: _ → q ∈ _ => hs2
        rename ∀ q : Addr × Obj, q ∈ (_, instObj 151 _) :: _ → q ∈ _ => hs1
        have hO2 := hO.mono (fun q hq => hs2 _ (mem5 hq))
        have hmC := lst_of (hs2 _ (mem5 (hs1 _ (mem4app (.head _)))))
        have hmS := lst_of (hs2 _ (mem5 (hs1 _ (mem4app (.tail _ (.head _))))))
        have hoc := octs_join hc (by assumption)
        have hsk := signs_ok hc
        have hso := sign_ok hc
        have hto := typed_ok hd
        have hcl : cs.length ≤ 40 := by omega
        have hdl : ds.length ≤ 40 := by omega
        clear hs1 hs2 hO
        rename @LT.lt Int _ _ 10 => hw10
        rcases lt10 hw10 with h0 | ⟨h1, h9⟩
        · subst h0
          ((with_reducible show wpAny _ _ (call (Value.ref 497) _) _ _ _); k_dflt (refine' prompt_row_zero ?zB ?zF ?zX ?zN ?zT ?zk ?zd ?zu  ?_); ((case zB => k_dflt k_asm); (case zF => k_dflt k_asm); (case zX => k_dflt k_asm); (case zN => k_dflt k_asm); (case zT => k_dflt k_asm); (case zk => k_dflt (exact rfl));  (case zd => first | (show _ + _ < _; simp only [depth_deeper]; omega) | decide +kernel); (case zu => first | (show _ + _ < _; simp only [units_deeper]; omega) | decide +kernel)); intro x' l' n' nx' t' h' tk' F' N' l1 l2; (try k_lt2 l1); (try k_lt l2))
          k_steps
        · ((with_reducible show wpAny _ _ (call (Value.ref 497) _) _ _ _); k_dflt (refine' prompt_row_ok ?zB ?zF ?zX ?zN ?zT ?zk ?zd ?zu ?za ?zb ?zc ?ze ?zf ?zg ?zh ?zi ?zj ?zl ?zm ?zn ?_); ((case zB => k_dflt k_asm); (case zF => k_dflt k_asm); (case zX => k_dflt k_asm); (case zN => k_dflt k_asm); (case zT => k_dflt k_asm); (case zk => k_dflt (exact rfl)); (case za => k_dflt (exact hO2)); (case zb => k_dflt (exact hSt)); (case zc => k_dflt (exact hT)); (case ze => k_dflt (exact hcl)); (case zf => k_dflt (exact hoc)); (case zg => k_dflt (exact hsk)); (case zh => k_dflt (exact hmC)); (case zi => k_dflt (exact hJ)); (case zj => k_dflt (exact hto)); (case zl => k_dflt (exact hdl)); (case zm => k_dflt (exact h1)); (case zn => k_dflt (exact h9)); (case zd => first | (show _ + _ < _; simp only [depth_deeper]; omega) | decide +kernel); (case zu => first | (show _ + _ < _; simp only [units_deeper]; omega) | decide +kernel)); intro x' l' vs' n' nx' t' K' news' h' tk' F' N' hsub' hmx' hm' hC' hK')
          k_steps
          unfold Mine.Stop
          k_unfold
          (try dsimp only)
          exact good_true (by assumption) (by assumption) rfl
end
end Mine
namespace Mine
theorem hd.tw7519716089354478335 : True := trivial
theorem hd.tw3309697970292668127 : True := trivial
theorem hd.tw14400467628812073631 : True := trivial
theorem hd.tw442638132926106271 : True := trivial
theorem hd.tw5245234834050458271 : True := trivial
theorem hd.tw2284436838669742495 : True := trivial
theorem hd.tw1954109241102656831 : True := trivial
theorem hd.tw4478166936697009375 : True := trivial
theorem hd.tw3530705653197291679 : True := trivial
theorem hd.tw12070051907170230399 : True := trivial
theorem hd.tw6931407450589930559 : True := trivial
theorem hd.tw14955159897011116063 : True := trivial
theorem hd.tw6423634429210846174 : True := trivial
theorem hd.tw14620637471214046174 : True := trivial
theorem hd.tw8047900516022102942 : True := trivial
theorem hd.tw12744807935193187038 : True := trivial
theorem hd.tw7510230149288206974 : True := trivial
theorem hd.tw9763420282994701918 : True := trivial
theorem hd.tw3480954088277226078 : True := trivial
theorem hd.tw9533747618267967006 : True := trivial
theorem hd.tw2329189449893159454 : True := trivial
theorem hd.tw17739348878880393726 : True := trivial
theorem hd.tw17901334829092211166 : True := trivial
theorem hd.tw13431754692932380062 : True := trivial
theorem hd.tw17681399029576232318 : True := trivial
theorem hd.tw4172343393113369950 : True := trivial
theorem hd.tw16259696140248634718 : True := trivial
theorem hd.tw13638418597567726942 : True := trivial
theorem hd.tw6838551448383532254 : True := trivial
theorem hd.tw6123773746684550334 : True := trivial
theorem hd.tw9673543361469618366 : True := trivial
theorem hd.tw7746578258024575070 : True := trivial
theorem hd.tw11631869004601391166 : True := trivial
theorem hd.tw16194383521188589630 : True := trivial
theorem hd.tw3182187488490625086 : True := trivial
theorem hd.tw9277588360372424766 : True := trivial
theorem hd.tw15833661619300960221 : True := trivial
theorem hd.tw8226494294326810461 : True := trivial
theorem hd.tw845060206244984605 : True := trivial
theorem hd.tw15967140613478806237 : True := trivial
theorem hd.tw3704167492566942397 : True := trivial
theorem hd.tw3646829019195819677 : True := trivial
theorem hd.tw7763873220885509757 : True := trivial
theorem hd.tw6231332230080974397 : True := trivial
theorem hd.tw5608270528595127837 : True := trivial
theorem hd.tw10792051664901133789 : True := trivial
theorem hd.tw6924109203229866365 : True := trivial
theorem hd.tw16868993833207775613 : True := trivial
theorem hd.tw2457190517430149469 : True := trivial
theorem hd.tw17714235663813219645 : True := trivial
theorem hd.tw5688689073270430877 : True := trivial
theorem hd.tw922143313871775805 : True := trivial
theorem hd.tw13289513938125300765 : True := trivial
theorem hd.tw18219297243305740317 : True := trivial
theorem hd.tw14852329139284432860 : True := trivial
theorem hd.tw11117797201346649052 : True := trivial
theorem hd.tw4402725079659364252 : True := trivial
theorem hd.tw1194904439430580092 : True := trivial
theorem hd.tw2252305205657439004 : True := trivial
theorem hd.tw2327210489368252092 : True := trivial
theorem hd.tw17599816209265215132 : True := trivial
theorem hd.tw3451239065008710300 : True := trivial
theorem hd.tw1699103778626983548 : True := trivial
theorem hd.tw2887051446865420828 : True := trivial
theorem hd.tw7085514621470718492 : True := trivial
theorem hd.tw16091413853298234908 : True := trivial
theorem hd.tw12591134339009171964 : True := trivial
theorem hd.tw15615420239508185596 : True := trivial
theorem hd.tw395138700845864316 : True := trivial
theorem hd.tw11319097763535126812 : True := trivial
theorem hd.tw1118553966540926140 : True := trivial
theorem hd.tw13770079208771991547 : True := trivial
theorem hd.tw15642763164714097627 : True := trivial
theorem hd.tw461538923250603899 : True := trivial
theorem hd.tw6965799899956892507 : True := trivial
theorem hd.tw17177331786930743035 : True := trivial
theorem hd.tw9719896912496429819 : True := trivial
theorem hd.tw2068664650715991707 : True := trivial
theorem hd.tw3085183777334472315 : True := trivial
theorem hd.tw16007149819294483003 : True := trivial
theorem hd.tw10024716035694756283 : True := trivial
theorem hd.tw2051048951616859547 : True := trivial
theorem hd.tw6767318904944593275 : True := trivial
theorem hd.tw14478148883734587675 : True := trivial
theorem hd.tw11079593142295127227 : True := trivial
theorem hd.tw14353793391729792155 : True := trivial
theorem hd.tw15103106377680225435 : True := trivial
theorem hd.tw11032806212648032379 : True := trivial
theorem hd.tw13372043803930879067 : True := trivial
theorem hd.tw1610171440888473627 : True := trivial
theorem hd.tw13038990169509382042 : True := trivial
theorem hd.tw11652457597714270106 : True := trivial
theorem hd.tw12394076208661396346 : True := trivial
theorem hd.tw7598622570094877466 : True := trivial
theorem hd.tw16157073509204512506 : True := trivial
theorem hd.tw14960593345356199642 : True := trivial
theorem hd.tw7526368328331116154 : True := trivial
theorem hd.tw1600037746751723098 : True := trivial
theorem hd.tw9421340871869096474 : True := trivial
theorem hd.tw6868836192036940282 : True := trivial
theorem hd.tw1147470481896660410 : True := trivial
theorem hd.tw2114630138375439770 : True := trivial
theorem hd.tw12050417470231563642 : True := trivial
theorem hd.tw541196102884509978 : True := trivial
theorem hd.tw11953376511379268794 : True := trivial
theorem hd.tw15673258824015622330 : True := trivial
theorem hd.tw5902613922787404954 : True := trivial
theorem hd.tw13047593935725612058 : True := trivial
theorem hd.tw17047115858639842297 : True := trivial
theorem hd.tw22551697357593593 : True := trivial
theorem hd.tw6982297934935202809 : True := trivial
theorem hd.tw8081886968326746073 : True := trivial
theorem hd.tw17330945745186091897 : True := trivial
theorem hd.tw17574625026820762457 : True := trivial
theorem hd.tw16772102934027710169 : True := trivial
theorem hd.tw3953601041324332601 : True := trivial
theorem hd.tw10784824025267889561 : True := trivial
theorem hd.tw1222794163293265305 : True := trivial
theorem hd.tw15411387601460861337 : True := trivial
theorem hd.tw18291419657060728153 : True := trivial
theorem hd.tw2845679848157327705 : True := trivial
theorem hd.tw2603259988358896889 : True := trivial
theorem hd.tw15213948185873263833 : True := trivial
theorem hd.tw1588505670450824345 : True := trivial
theorem hd.tw728884934406724761 : True := trivial
theorem hd.tw4788038989552484473 : True := trivial
theorem hd.tw13342606739435360313 : True := trivial
theorem hd.tw4065347644161347641 : True := trivial
theorem hd.tw10860895700388868024 : True := trivial
theorem hd.tw8770205317985620760 : True := trivial
theorem hd.tw8516288146210602744 : True := trivial
theorem hd.tw12769127236821124696 : True := trivial
theorem hd.tw15048261121198461528 : True := trivial
theorem hd.tw14176624398918483544 : True := trivial
theorem hd.tw13267510147771200024 : True := trivial
theorem hd.tw13866372431405929976 : True := trivial
theorem hd.tw5511420028821071320 : True := trivial
theorem hd.tw14768889098011018680 : True := trivial
theorem hd.tw15759970867653108152 : True := trivial
theorem hd.tw2274498078352570744 : True := trivial
theorem hd.tw18093812233618175256 : True := trivial
theorem hd.tw2799067240506288376 : True := trivial
theorem hd.tw17650839729002327288 : True := trivial
theorem hd.tw5562173858411828344 : True := trivial
theorem hd.tw18300207936620678264 : True := trivial
theorem hd.tw9345676750909349944 : True := trivial
theorem hd.tw15946388913382835224 : True := trivial
theorem hd.tw6140570298594658328 : True := trivial
theorem hd.tw2788664435532181463 : True := trivial
theorem hd.tw11136197038861592535 : True := trivial
theorem hd.tw11389486352061984695 : True := trivial
theorem hd.tw10879034167726328663 : True := trivial
theorem hd.tw3381375190539634487 : True := trivial
theorem hd.tw307737655149646647 : True := trivial
theorem hd.tw11402939732021071671 : True := trivial
theorem hd.tw7292484366425897655 : True := trivial
theorem hd.tw15416985209724490359 : True := trivial
theorem hd.tw16064382804478563927 : True := trivial
theorem hd.tw3673089383077640791 : True := trivial
theorem hd.tw13783031573616600631 : True := trivial
theorem hd.tw3442329435671937591 : True := trivial
theorem hd.tw17935226425611649559 : True := trivial
theorem hd.tw16970440968685349367 : True := trivial
theorem hd.tw5283464899586487735 : True := trivial
theorem hd.tw2216850387143573719 : True := trivial
theorem hd.tw15615537253650120727 : True := trivial
theorem hd.tw15367242080415987702 : True := trivial
theorem hd.tw6184460063843016694 : True := trivial
theorem hd.tw4138081844389336918 : True := trivial
theorem hd.tw8428860471423672150 : True := trivial
theorem hd.tw1011335219593555734 : True := trivial
theorem hd.tw7369741819223213686 : True := trivial
theorem hd.tw17420951861521290806 : True := trivial
theorem hd.tw16155205043701107222 : True := trivial
theorem hd.tw7752767780024739350 : True := trivial
theorem hd.tw11213053971927718326 : True := trivial
theorem hd.tw3452082135128663414 : True := trivial
theorem hd.tw16713699803418581334 : True := trivial
theorem hd.tw16473244170626142550 : True := trivial
theorem hd.tw1413172679324656950 : True := trivial
theorem hd.tw1848646778235469078 : True := trivial
theorem hd.tw8343274005884668182 : True := trivial
theorem hd.tw6291416237084387574 : True := trivial
theorem hd.tw8965841893048198262 : True := trivial
theorem hd.tw10919297434634762262 : True := trivial
theorem hd.tw6820862383352777685 : True := trivial
theorem hd.tw3941438180925939637 : True := trivial
theorem hd.tw9427301549700849589 : True := trivial
theorem hd.tw13483081372092288885 : True := trivial
theorem hd.tw16302227732802510677 : True := trivial
theorem hd.tw13609717118414637909 : True := trivial
theorem hd.tw15508949281206285077 : True := trivial
theorem hd.tw7494724483528729301 : True := trivial
theorem hd.tw3571134770919094901 : True := trivial
theorem hd.tw17673860158736603733 : True := trivial
theorem hd.tw2608437505485318709 : True := trivial
theorem hd.tw14103535550066685397 : True := trivial
theorem hd.tw6442067068224118133 : True := trivial
theorem hd.tw13225837485096350037 : True := trivial
theorem hd.tw9496365245306024149 : True := trivial
theorem hd.tw11162318198679636149 : True := trivial
theorem hd.tw17234923516513369237 : True := trivial
theorem hd.tw6598312636042714100 : True := trivial
theorem hd.tw1439246655266547700 : True := trivial
theorem hd.tw5629675986466331604 : True := trivial
theorem hd.tw17542962492245011380 : True := trivial
theorem hd.tw226724450230711188 : True := trivial
theorem hd.tw6136932545381038964 : True := trivial
theorem hd.tw1997569388931296116 : True := trivial
theorem hd.tw10738003575532504788 : True := trivial
theorem hd.tw18293732401869909652 : True := trivial
theorem hd.tw4014540891139286612 : True := trivial
theorem hd.tw7366208706002141716 : True := trivial
theorem hd.tw6998783941825042932 : True := trivial
theorem hd.tw15422856539912107476 : True := trivial
theorem hd.tw6547078798241139092 : True := trivial
theorem hd.tw7540655947842036084 : True := trivial
theorem hd.tw6164396464334811476 : True := trivial
theorem hd.tw15529170255622000948 : True := trivial
theorem hd.tw4851647983119433812 : True := trivial
theorem hd.tw18103420901670897651 : True := trivial
theorem hd.tw8789358453043137523 : True := trivial
theorem hd.tw13409441903868389331 : True := trivial
theorem hd.tw4015398097383911347 : True := trivial
theorem hd.tw15948780112781908787 : True := trivial
theorem hd.tw16640546478005224243 : True := trivial
theorem hd.tw920214292312260371 : True := trivial
theorem hd.tw3008623586974134963 : True := trivial
theorem hd.tw4115565904173853331 : True := trivial
theorem hd.tw18103342009636024947 : True := trivial
theorem hd.tw5363564295841288755 : True := trivial
theorem hd.tw7793673504863384051 : True := trivial
theorem hd.tw16432713993328977331 : True := trivial
theorem hd.tw1382963296337349011 : True := trivial
theorem hd.tw16006246977917349235 : True := trivial
theorem hd.tw16945582573551092051 : True := trivial
theorem hd.tw14168552714766633299 : True := trivial
theorem hd.tw7289634563603522867 : True := trivial
theorem hd.tw5238241317806426387 : True := trivial
theorem hd.tw5657824000916062451 : True := trivial
theorem hd.tw5567388512258382067 : True := trivial
theorem hd.tw9184186324627900627 : True := trivial
theorem hd.tw3694398316872202419 : True := trivial
theorem hd.tw8538877666451538035 : True := trivial
theorem hd.tw10601615944963115059 : True := trivial
theorem hd.tw15083628210047938546 : True := trivial
theorem hd.tw1097998534492414930 : True := trivial
theorem hd.tw8112040973832200146 : True := trivial
theorem hd.tw7296583596125217682 : True := trivial
theorem hd.tw12629568148972539762 : True := trivial
theorem hd.tw6293948785866598258 : True := trivial
theorem hd.tw9298403506768410418 : True := trivial
theorem hd.tw10525666975642140466 : True := trivial
theorem hd.tw14560493823538711346 : True := trivial
theorem hd.tw8053944837975664402 : True := trivial
theorem hd.tw1580110805410547442 : True := trivial
theorem hd.tw250903467453971090 : True := trivial
theorem hd.tw17377529257436501650 : True := trivial
theorem hd.tw5282504435634884242 : True := trivial
theorem hd.tw2167537188350426706 : True := trivial
theorem hd.tw15813434630575017362 : True := trivial
theorem hd.tw14772383043592177042 : True := trivial
theorem hd.tw9499510787657705874 : True := trivial
theorem hd.tw15166520500009309586 : True := trivial
theorem hd.tw9641152695372364146 : True := trivial
theorem hd.tw8025032847418708242 : True := trivial
theorem hd.tw2391449824757734642 : True := trivial
theorem hd.tw8941397038133226642 : True := trivial
theorem hd.tw6759412095888398321 : True := trivial
theorem hd.tw1486356043385980881 : True := trivial
theorem hd.tw16029623286316568529 : True := trivial
theorem hd.tw5716766192118558609 : True := trivial
theorem hd.tw16053994301053490033 : True := trivial
theorem hd.tw6578402527460240241 : True := trivial
theorem hd.tw6545403380812914513 : True := trivial
theorem hd.tw4990156530697904881 : True := trivial
theorem hd.tw8117029840178788049 : True := trivial
theorem hd.tw5961118342813265553 : True := trivial
theorem hd.tw12113243949977362033 : True := trivial
theorem hd.tw3828038474966422129 : True := trivial
theorem hd.tw13220430256171166289 : True := trivial
theorem hd.tw11034497122203965937 : True := trivial
theorem hd.tw14246236162039180721 : True := trivial
theorem hd.tw7082855905992002993 : True := trivial
theorem hd.tw16056359734778111409 : True := trivial
theorem hd.tw15852365999677673905 : True := trivial
theorem hd.tw11184233589655437745 : True := trivial
theorem hd.tw16634568088961857937 : True := trivial
theorem hd.tw17903497710992402801 : True := trivial
theorem hd.tw6882427118574961969 : True := trivial
theorem hd.tw100483095206116625 : True := trivial
theorem hd.tw432457690288141553 : True := trivial
theorem hd.tw280609765759037681 : True := trivial
theorem hd.tw5247051413645994129 : True := trivial
theorem hd.tw17213754286329925777 : True := trivial
theorem hd.tw15527848837575444561 : True := trivial
theorem hd.tw13322179722446271537 : True := trivial
theorem hd.tw876933089483189297 : True := trivial
theorem hd.tw13790719812936386609 : True := trivial
theorem hd.tw15279998641719260112 : True := trivial
theorem hd.tw12614811148066621264 : True := trivial
theorem hd.tw15595854959937240912 : True := trivial
theorem hd.tw11551083187376567056 : True := trivial
theorem hd.tw4856431653887292112 : True := trivial
theorem hd.tw1712922718373300912 : True := trivial
theorem hd.tw7382370116671421104 : True := trivial
theorem hd.tw13285133528070534704 : True := trivial
theorem hd.tw16853341256802265648 : True := trivial
theorem hd.tw7891253978561527248 : True := trivial
theorem hd.tw10491609206876299696 : True := trivial
theorem hd.tw16011055738799735888 : True := trivial
theorem hd.tw8801323125487838256 : True := trivial
theorem hd.tw2019206820559194160 : True := trivial
theorem hd.tw402640490398009360 : True := trivial
theorem hd.tw10111801491309104144 : True := trivial
theorem hd.tw14896162953220447183 : True := trivial
theorem hd.tw16649331688326792143 : True := trivial
theorem hd.tw8879563391730754479 : True := trivial
theorem hd.tw13315533130655954831 : True := trivial
theorem hd.tw9657781627882305391 : True := trivial
theorem hd.tw11319892378374348655 : True := trivial
theorem hd.tw2101469004524951375 : True := trivial
theorem hd.tw6990203504111849199 : True := trivial
theorem hd.tw5987830557187376847 : True := trivial
theorem hd.tw10012880186880212623 : True := trivial
theorem hd.tw11709330566771433103 : True := trivial
theorem hd.tw12631932088317031055 : True := trivial
theorem hd.tw3759623122121258479 : True := trivial
theorem hd.tw3493717111155160527 : True := trivial
theorem hd.tw6082411064634330575 : True := trivial
theorem hd.tw8587404781116728655 : True := trivial
theorem hd.tw2442259710966052079 : True := trivial
theorem hd.tw15616948245753086127 : True := trivial
theorem hd.tw1452849714261714991 : True := trivial
theorem hd.tw6818987989461384207 : True := trivial
theorem hd.tw9345929723534960622 : True := trivial
theorem hd.tw14553816603554493358 : True := trivial
theorem hd.tw16722109127936396110 : True := trivial
theorem hd.tw9555612238305686254 : True := trivial
theorem hd.tw1781861727890032366 : True := trivial
theorem hd.tw3429492842335990350 : True := trivial
theorem hd.tw185848376630758926 : True := trivial
theorem hd.tw11500503743379525006 : True := trivial
theorem hd.tw4654797750381630734 : True := trivial
theorem hd.tw14294001040229213422 : True := trivial
theorem hd.tw7880807054014371918 : True := trivial
theorem hd.tw11801993109049149486 : True := trivial
theorem hd.tw9398405308114057262 : True := trivial
theorem hd.tw10614716105012338702 : True := trivial
theorem hd.tw9577689765879766989 : True := trivial
theorem hd.tw11249132867342737325 : True := trivial
theorem hd.tw10404513684093684653 : True := trivial
theorem hd.tw17606422857730326317 : True := trivial
theorem hd.tw5036846961687405229 : True := trivial
theorem hd.tw6184208073178115725 : True := trivial
theorem hd.tw16828841361933241965 : True := trivial
theorem hd.tw3404104791013757517 : True := trivial
theorem hd.tw4377701919642642989 : True := trivial
theorem hd.tw8457440626546761165 : True := trivial
theorem hd.tw16345102440705955213 : True := trivial
theorem hd.tw13321331477185743149 : True := trivial
theorem hd.tw1013155817946168525 : True := trivial
theorem hd.tw5595918842973271245 : True := trivial
theorem hd.tw16332348944364537037 : True := trivial
theorem hd.tw1409312971732116557 : True := trivial
theorem hd.tw15837987909243819085 : True := trivial
theorem hd.tw16171809288044610508 : True := trivial
theorem hd.tw12023040214023829324 : True := trivial
theorem hd.tw6819123309680001836 : True := trivial
theorem hd.tw15368132723985388332 : True := trivial
theorem hd.tw10292235466723388172 : True := trivial
theorem hd.tw7270182246851987180 : True := trivial
theorem hd.tw12588582704262371052 : True := trivial
theorem hd.tw18185175575083235020 : True := trivial
theorem hd.tw17948085552500728524 : True := trivial
theorem hd.tw8004679753235328684 : True := trivial
theorem hd.tw5130813555471234732 : True := trivial
theorem hd.tw6482722132109649516 : True := trivial
theorem hd.tw12575139184659369484 : True := trivial
theorem hd.tw17711083657039698284 : True := trivial
theorem hd.tw12092154237167983948 : True := trivial
theorem hd.tw16299908979028503884 : True := trivial
theorem hd.tw14060154772996877548 : True := trivial
theorem hd.tw6186238094035137676 : True := trivial
theorem hd.tw12647368939536790636 : True := trivial
theorem hd.tw1836080755315867724 : True := trivial
theorem hd.tw6394381022753523788 : True := trivial
theorem hd.tw4136554803537287180 : True := trivial
theorem hd.tw4315991029959535628 : True := trivial
theorem hd.tw6264232113106981867 : True := trivial
theorem hd.tw8716120427605611371 : True := trivial
theorem hd.tw6196171512934965099 : True := trivial
theorem hd.tw8242931771332617035 : True := trivial
theorem hd.tw2999033326186475339 : True := trivial
theorem hd.tw8727321023445011275 : True := trivial
theorem hd.tw9748044761591592747 : True := trivial
theorem hd.tw10743916045514856203 : True := trivial
theorem hd.tw15089522573102190283 : True := trivial
theorem hd.tw9741134391959003819 : True := trivial
theorem hd.tw6726342588429418155 : True := trivial
theorem hd.tw7534799579077118603 : True := trivial
theorem hd.tw6683769817339685419 : True := trivial
theorem hd.tw14727110085682223627 : True := trivial
theorem hd.tw17054507655720011243 : True := trivial
theorem hd.tw10030107230732127627 : True := trivial
theorem hd.tw9170477692918782315 : True := trivial
theorem hd.tw11917015161858427179 : True := trivial
theorem hd.tw3443669649825651883 : True := trivial
theorem hd.tw13277076834127875243 : True := trivial
theorem hd.tw11128854368766332075 : True := trivial
theorem hd.tw12239354291974867115 : True := trivial
theorem hd.tw12112201142124510154 : True := trivial
theorem hd.tw4478964076566166474 : True := trivial
theorem hd.tw17671973068868499402 : True := trivial
theorem hd.tw12487502673411948298 : True := trivial
theorem hd.tw10170382586518783626 : True := trivial
theorem hd.tw4360684699965382250 : True := trivial
theorem hd.tw10603584201595350602 : True := trivial
theorem hd.tw17447410573909459338 : True := trivial
theorem hd.tw4383666589626881386 : True := trivial
theorem hd.tw5416991563250132298 : True := trivial
theorem hd.tw7654286748164834634 : True := trivial
theorem hd.tw16794629799341752650 : True := trivial
theorem hd.tw6804821044290156842 : True := trivial
theorem hd.tw6898005170327248138 : True := trivial
theorem hd.tw7120233287515763914 : True := trivial
theorem hd.tw13217225542625558698 : True := trivial
theorem hd.tw6906073325868019850 : True := trivial
theorem hd.tw15042006015671813226 : True := trivial
theorem hd.tw18264374347568628810 : True := trivial
theorem hd.tw3915529967508079626 : True := trivial
theorem hd.tw5148922909946612681 : True := trivial
theorem hd.tw9566141503761928105 : True := trivial
theorem hd.tw17925215291927510665 : True := trivial
theorem hd.tw5009564483982726761 : True := trivial
theorem hd.tw8184699220007379433 : True := trivial
theorem hd.tw1129884963351977449 : True := trivial
theorem hd.tw9244321171653502345 : True := trivial
theorem hd.tw14906377314874228009 : True := trivial
theorem hd.tw8652628183442184457 : True := trivial
theorem hd.tw4225703048834024713 : True := trivial
theorem hd.tw18166333605607142505 : True := trivial
theorem hd.tw8959176491354863721 : True := trivial
theorem hd.tw189712035060473897 : True := trivial
theorem hd.tw3259873300814134281 : True := trivial
theorem hd.tw11011131195910976488 : True := trivial
theorem hd.tw4870687313549177768 : True := trivial
theorem hd.tw17975533764899295144 : True := trivial
theorem hd.tw162610821266807592 : True := trivial
theorem hd.tw4642405928176397000 : True := trivial
theorem hd.tw4297731678662094536 : True := trivial
theorem hd.tw6038821095411175016 : True := trivial
theorem hd.tw14457593812595234344 : True := trivial
theorem hd.tw12949589719889679912 : True := trivial
theorem hd.tw16920754564084929960 : True := trivial
theorem hd.tw10246146449241189800 : True := trivial
theorem hd.tw13642289790063256904 : True := trivial
theorem hd.tw8671608845466749128 : True := trivial
theorem hd.tw4282304852377368616 : True := trivial
theorem hd.tw190519026028168232 : True := trivial
theorem hd.tw8545014587354053640 : True := trivial
theorem hd.tw701787995468756871 : True := trivial
theorem hd.tw7028611270464810887 : True := trivial
theorem hd.tw6469175993241445255 : True := trivial
theorem hd.tw17672654358674132775 : True := trivial
theorem hd.tw7068711184596962023 : True := trivial
theorem hd.tw11660266114150955751 : True := trivial
theorem hd.tw12901994302517312135 : True := trivial
theorem hd.tw12058812876911547015 : True := trivial
theorem hd.tw13280443560766958183 : True := trivial
theorem hd.tw9557236495431379559 : True := trivial
theorem hd.tw3109861748172591687 : True := trivial
theorem hd.tw5635641802508607975 : True := trivial
theorem hd.tw9783614193127449063 : True := trivial
theorem hd.tw8977307856219701671 : True := trivial
theorem hd.tw17062030032774818151 : True := trivial
theorem hd.tw17919194246423945575 : True := trivial
theorem hd.tw15683763237869141255 : True := trivial
theorem hd.tw17893044597097874663 : True := trivial
theorem hd.tw15043168886218598503 : True := trivial
theorem hd.tw1589133516308662214 : True := trivial
theorem hd.tw8934143017859847078 : True := trivial
theorem hd.tw9386895884608548742 : True := trivial
theorem hd.tw13893168526513508166 : True := trivial
theorem hd.tw11587034568685482758 : True := trivial
theorem hd.tw8990313861142287110 : True := trivial
theorem hd.tw1506431575118746342 : True := trivial
theorem hd.tw4993660671451451078 : True := trivial
theorem hd.tw1865391376527767206 : True := trivial
theorem hd.tw13903934854276604550 : True := trivial
theorem hd.tw2195365466389143174 : True := trivial
theorem hd.tw17562767543260142214 : True := trivial
theorem hd.tw17258206423299326598 : True := trivial
theorem hd.tw10424393626065333798 : True := trivial
theorem hd.tw3795277891434052102 : True := trivial
theorem hd.tw2386827423013361158 : True := trivial
theorem hd.tw991583007596301734 : True := trivial
theorem hd.tw11778180911958503814 : True := trivial
theorem hd.tw7523672394736509286 : True := trivial
theorem hd.tw212345690472687942 : True := trivial
theorem hd.tw16211521421427940678 : True := trivial
theorem hd.tw8268277133935991078 : True := trivial
theorem hd.tw7628703163842673926 : True := trivial
theorem hd.tw10773125474200672486 : True := trivial
theorem hd.tw13466754112058979494 : True := trivial
theorem hd.tw10583446816852156582 : True := trivial
theorem hd.tw13181700845877081190 : True := trivial
theorem hd.tw6555240042291301478 : True := trivial
theorem hd.tw17491280204586788870 : True := trivial
theorem hd.tw5505005885091257285 : True := trivial
theorem hd.tw6438293893037913957 : True := trivial
theorem hd.tw11251137523995926341 : True := trivial
theorem hd.tw15790720579355451973 : True := trivial
theorem hd.tw1847840615245081061 : True := trivial
theorem hd.tw12399718760709695909 : True := trivial
theorem hd.tw15910714762333108613 : True := trivial
theorem hd.tw11893437276241958245 : True := trivial
theorem hd.tw10258999931320997221 : True := trivial
theorem hd.tw9702936160620672325 : True := trivial
theorem hd.tw6305734824756694309 : True := trivial
theorem hd.tw2502866573005156581 : True := trivial
theorem hd.tw7355570028127101125 : True := trivial
theorem hd.tw8356816923877370021 : True := trivial
theorem hd.tw18241275227582772068 : True := trivial
theorem hd.tw3789350110615891812 : True := trivial
theorem hd.tw8458067239894703972 : True := trivial
theorem hd.tw8684328023851190084 : True := trivial
theorem hd.tw1241404454085649124 : True := trivial
theorem hd.tw5732804406350252772 : True := trivial
theorem hd.tw2323474266016966308 : True := trivial
theorem hd.tw17001982702790524580 : True := trivial
theorem hd.tw8493152586797012548 : True := trivial
theorem hd.tw11465210709893060100 : True := trivial
theorem hd.tw3219085151875037572 : True := trivial
theorem hd.tw7676003278276379012 : True := trivial
theorem hd.tw8068729725432388964 : True := trivial
theorem hd.tw13855946660403688772 : True := trivial
theorem hd.tw14892549342360969540 : True := trivial
theorem hd.tw10507497572311344420 : True := trivial
theorem hd.tw1299046323782801668 : True := trivial
theorem hd.tw5278057926702712004 : True := trivial
theorem hd.tw6785817131721698500 : True := trivial
theorem hd.tw9228397985900620932 : True := trivial
theorem hd.tw6407587892757256292 : True := trivial
theorem hd.tw8269573656231971908 : True := trivial
theorem hd.tw14896477498954680388 : True := trivial
theorem hd.tw6060742912462422084 : True := trivial
theorem hd.tw16477043939570097188 : True := trivial
theorem hd.tw17843490464661113860 : True := trivial
theorem hd.tw519851828213033955 : True := trivial
theorem hd.tw18293851220164018083 : True := trivial
theorem hd.tw11631947586910100387 : True := trivial
theorem hd.tw2480057099694739299 : True := trivial
theorem hd.tw9908193460736022307 : True := trivial
theorem hd.tw9153386212771759811 : True := trivial
theorem hd.tw17087091549796120035 : True := trivial
theorem hd.tw13368278939475635651 : True := trivial
theorem hd.tw1760603350576429475 : True := trivial
theorem hd.tw2783992281797965187 : True := trivial
theorem hd.tw11754176132448286083 : True := trivial
theorem hd.tw7913724409751068003 : True := trivial
theorem hd.tw17130151131035750659 : True := trivial
theorem hd.tw18322514126500204803 : True := trivial
theorem hd.tw16904818350239718627 : True := trivial
theorem hd.tw2304311442786299043 : True := trivial
theorem hd.tw1882180444382439491 : True := trivial
theorem hd.tw8228950375871286339 : True := trivial
theorem hd.tw18245042118932799458 : True := trivial
theorem hd.tw7525542149764818722 : True := trivial
theorem hd.tw3919010098100093602 : True := trivial
theorem hd.tw5781342201191254626 : True := trivial
theorem hd.tw11713075325732132258 : True := trivial
theorem hd.tw12271959270614036898 : True := trivial
theorem hd.tw17588044629489971554 : True := trivial
theorem hd.tw758273949599710562 : True := trivial
theorem hd.tw4702841417184801058 : True := trivial
theorem hd.tw12936449754285732098 : True := trivial
theorem hd.tw13919464512627920130 : True := trivial
theorem hd.tw9430268157657104642 : True := trivial
theorem hd.tw4272726840584523970 : True := trivial
theorem hd.tw9731375825926819010 : True := trivial
theorem hd.tw5480042469492414594 : True := trivial
theorem hd.tw14745743045033390146 : True := trivial
theorem hd.tw10905682514733158466 : True := trivial
theorem hd.tw8609351116199087170 : True := trivial
theorem hd.tw11210553801493137410 : True := trivial
theorem hd.tw7914949630228597729 : True := trivial
theorem hd.tw12602439190401603521 : True := trivial
theorem hd.tw5343241284826551009 : True := trivial
theorem hd.tw13330244855972007585 : True := trivial
theorem hd.tw10678649693572172417 : True := trivial
theorem hd.tw18343703819029505601 : True := trivial
theorem hd.tw17336936450418997793 : True := trivial
theorem hd.tw2315301623876862497 : True := trivial
theorem hd.tw16037735763661986305 : True := trivial
theorem hd.tw15220180469806662145 : True := trivial
theorem hd.tw7512474625130614241 : True := trivial
theorem hd.tw4086058157674990017 : True := trivial
theorem hd.tw16858285156579221889 : True := trivial
theorem hd.tw10403243965636340961 : True := trivial
theorem hd.tw7610815399733428385 : True := trivial
theorem hd.tw18351126306069267617 : True := trivial
theorem hd.tw12127338746724423809 : True := trivial
theorem hd.tw10752148897807903841 : True := trivial
theorem hd.tw17252143746492648416 : True := trivial
theorem hd.tw14598272352848978880 : True := trivial
theorem hd.tw15643275761693703936 : True := trivial
theorem hd.tw17183224562656869120 : True := trivial
theorem hd.tw12070654863422294720 : True := trivial
theorem hd.tw16154546982801380032 : True := trivial
theorem hd.tw4494801613693538912 : True := trivial
theorem hd.tw1359830224848277088 : True := trivial
theorem hd.tw8134915037123179040 : True := trivial
theorem hd.tw7023726343779634624 : True := trivial
theorem hd.tw17387473266821786944 : True := trivial
theorem hd.tw8381844023166312768 : True := trivial
theorem hd.tw10458740792067480800 : True := trivial
theorem hd.tw17950676927832955104 : True := trivial
theorem hd.tw6830512106363814048 : True := trivial
theorem hd.tw5292301768408028288 : True := trivial
theorem hd.tw4706079058837389440 : True := trivial
theorem hd.tw6276725880618359904 : True := trivial
theorem hd.tw4523669819894539328 : True := trivial
theorem hd.tw1800889605409440832 : True := trivial
theorem hd.tw8735263284916673568 : True := trivial
theorem hd.tw4971549296188076032 : True := trivial
theorem hd.tw2867327485932766208 : True := trivial
theorem hd.tw14268385108601062875 : True := trivial
theorem hd.tw3039998526598829958 : True := trivial
theorem hd.tw8745986378241412371 : True := trivial
theorem hd.tw11253840780204763469 : True := trivial
theorem hd.tw13682609094392984937 : True := trivial
theorem hd.tw4551032450796863993 : True := trivial
theorem hd.tw1289481528965463204 : True := trivial
theorem hd.tw8311610187620527757 : True := trivial
theorem hd.tw11467801299996457980 : True := trivial
theorem hd.tw14209441486806147585 : True := trivial
theorem hd.tw7878038873032413027 : True := trivial
theorem hd.tw3192794211376986475 : True := trivial
theorem hd.tw13855881374063213867 : True := trivial
theorem hd.tw10340054900329768720 : True := trivial
theorem hd.tw6019021122589006684 : True := trivial
theorem hd.tw15489888237113574099 : True := trivial
theorem hd.tw15068483726869450994 : True := trivial
theorem hd.tw11621452240022172216 : True := trivial
theorem hd.tw7284649500432165974 : True := trivial
theorem hd.tw18270531961534273684 : True := trivial
set_option Elab.async true in
theorem hd : PySem.Challenge.rw_og0280_01.Holds := by
  k_with_none
  w_on
  o_law
  o_head hookK
  case hw => w_witness2
  exact walk _ _ rfl
end Mine
theorem PySem.Challenge.cw_og0280_01_holds : PySem.Challenge.rw_og0280_01.Holds :=
  Mine.hd
