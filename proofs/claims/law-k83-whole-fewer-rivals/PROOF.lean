import PyProof.Rows.All
import Wide.All
import OpenK.AllK
import Wide.FinOn
import HandS.ForMost
import HandS.Deep
import KE.KDictKeyed
import HandS.TupAny
import HandS.IsInst
import KE.DataEq
import KE.KDictWalk
import HandS.DictComp
import HandS.SetKeys
import KE.KDictPairs
import KE.SortKeyHeap
import HandS.SortKw
import KE.KDictCopyH
import KE.KDictDisplayH
import KE.GoesEnum
import KE.DatumIndex
import KE.DatumMore
import HandS.DictTup
import PySem.Challenge.RW_everymending_k83_whole_fewer_rivals
/-! part dl0 -/
set_option Elab.async false
set_option linter.all false
set_option maxRecDepth 100000
set_option maxHeartbeats 4000000
set_option autoImplicit false
/-! Dl0: data in place of heaps. What a value holds, what a slot holds, the judgements. -/
namespace Dl
open PySem PySem.Spec PyProof.Rows L2

structure Bx where
  P : Program
  w : World
  K : PySem.W.Frag
abbrev bx (X : Cx) : Bx := ⟨X.prog, X.w, X.K⟩

/-- data: plain data, a dict with text keys, a dict with tuple keys, a list of dicts with text keys, some object -/
inductive Wd where
  | d (x : PyData)
  | dk (kvs : List (Str × PyData))
  | dn (kvs : List (NestedKey × PyData))
  | ldk (l : List (List (Str × PyData)))
  | opq
  | fl (ds : List PyData)

mutual
/-- v is the data d in H; a tuple is one whose object is known (it has no dict) -/
inductive Rp (K : PySem.W.Frag) (H : Hp) : V → PyData → Prop
  | non : Rp K H .non .none
  | bl (b : Bool) : Rp K H (.bl b) (.bool b)
  | int (i : Int) : Rp K H (.int i) (.int i)
  | str (x : Str) : Rp K H (.str x) (.str x)
  | lst {a : Addr} {xs : List V} {ds : List PyData} : SqL K H a xs → RpAll K H xs ds → Rp K H (.ref a) (.list ds)
  | tup {a : Addr} {o : Obj} {xs : List V} {ds : List PyData} : H a = some (.frz o (.tup xs)) → o.dict = none → RpAll K H xs ds → Rp K H (.ref a) (.tuple ds)
inductive RpAll (K : PySem.W.Frag) (H : Hp) : List V → List PyData → Prop
  | nil : RpAll K H [] []
  | cons {v : V} {vs : List V} {d : PyData} {ds : List PyData} : Rp K H v d → RpAll K H vs ds → RpAll K H (v :: vs) (d :: ds)
end
mutual
theorem Rp.dp {K : PySem.W.Frag} {H : Hp} : ∀ {v : V} {d : PyData}, Rp K H v d → Dp K H v d
  | _, _, .non => .non
  | _, _, .bl b => .bl b
  | _, _, .int i => .int i
  | _, _, .str x => .str x
  | _, _, .lst h t => .lst h (RpAll.dp t)
  | _, _, .tup h _ t => .tup (.inl (.inr ⟨_, h⟩)) (RpAll.dp t)
theorem RpAll.dp {K : PySem.W.Frag} {H : Hp} : ∀ {vs : List V} {ds : List PyData}, RpAll K H vs ds → DpAll K H vs ds
  | _, _, .nil => .nil
  | _, _, .cons h t => .cons (Rp.dp h) (RpAll.dp t)
end

/-- a dict with tuple keys: keys, where their tuples lie, values -/
abbrev NX := NestedKey × Addr × V
abbrev NY := NestedKey × Addr × Value
def nxy : NX → NY → Prop := fun p q => p.1 = q.1 ∧ p.2.1 = q.2.1 ∧ RelV p.2.2 q.2.2
def DNraw (P : Program) (w : World) (a : Addr) (xs : List NX) (h : Heap) : Prop :=
  xs.length ≤ sizeLine ∧ (a == sysModules) = false ∧ (xs.map (·.1)).Nodup ∧ ∃ ys : List NY, Paired nxy xs ys ∧
    ∃ o es ep, h.get? a = some o ∧ o.ExactDict ∧ o.data = .dict es ep ∧ es.toList = ys.map (entryOfKey (nestedKind P w))
def DNo (B : Bx) (a : Addr) (xs : List NX) : HO := .ext (DNraw B.P B.w a xs)

def KvOk (K : PySem.W.Frag) (H : Hp) : List (Key × V) → List (Str × PyData) → Prop := Paired fun a b => a.1 = .inr b.1 ∧ Rp K H a.2 b.2
def NkOk (K : PySem.W.Frag) (H : Hp) : List NX → List (NestedKey × PyData) → Prop :=
  Paired fun x kv => x.1 = kv.1 ∧ Rp K H (.ref x.2.1) kv.1.data ∧ kv.1.depth ≤ 8 ∧ Rp K H x.2.2 kv.2
def RepDk (B : Bx) (H : Hp) (v : V) (kvs : List (Str × PyData)) : Prop := ∃ p vs, v = .ref p ∧ H p = some (.dK vs) ∧ KvOk B.K H vs kvs
def RepW (B : Bx) (H : Hp) (v : V) : Wd → Prop
  | .d x => Rp B.K H v x
  | .dk kvs => RepDk B H v kvs
  | .dn kvs => ∃ p o xs, v = .ref p ∧ H p = some (.frz o (DNo B p xs)) ∧ NkOk B.K H xs kvs
  | .ldk l => ∃ p vs, v = .ref p ∧ H p = some (.lst vs) ∧ Paired (RepDk B H) vs l
  | .opq => ∃ p, v = .ref p
  | .fl ds => ∃ p vs, v = .ref p ∧ H p = some (.lst vs) ∧ RpAll B.K H vs ds
/-- an object of ours at p in H, its parts in G -/
def Ow (B : Bx) (G H : Hp) (p : Addr) : Wd → Prop
  | .d (.list ds) => ∃ vs, H p = some (.lst vs) ∧ RpAll B.K G vs ds
  | .d _ => False
  | .dk kvs => ∃ vs, H p = some (.dK vs) ∧ KvOk B.K G vs kvs
  | .dn kvs => ∃ xs, H p = some (DNo B p xs) ∧ NkOk B.K G xs kvs
  | .ldk l => ∃ vs, H p = some (.lst vs) ∧ Paired (RepDk B G) vs l
  | .opq => False
  | .fl _ => False

/-! ### heaps -/
theorem Same.seqT {K : PySem.W.Frag} {H H' : Hp} {a : Addr} {xs : List V} (e : Same H H') (h : SqT K H a xs) : SqT K H' a xs := by
  rcases h with (h | ⟨o, h⟩) | h
  · exact .inl (.inl (e _ _ h))
  · exact .inl (.inr ⟨o, e _ _ h⟩)
  · exact .inr h
mutual
theorem dp_mono {K : PySem.W.Frag} {H H' : Hp} (e : Same H H') : ∀ {v : V} {d : PyData}, Rp K H v d → Rp K H' v d
  | _, _, .non => .non
  | _, _, .bl b => .bl b
  | _, _, .int i => .int i
  | _, _, .str x => .str x
  | _, _, .lst h t => .lst (Same.seq e h) (dpAll_mono e t)
  | _, _, .tup h n t => .tup (e _ _ h) n (dpAll_mono e t)
theorem dpAll_mono {K : PySem.W.Frag} {H H' : Hp} (e : Same H H') : ∀ {vs : List V} {ds : List PyData}, RpAll K H vs ds → RpAll K H' vs ds
  | _, _, .nil => .nil
  | _, _, .cons h t => .cons (dp_mono e h) (dpAll_mono e t)
end
theorem paired_imp {α β : Type} {F G : α → β → Prop} (f : ∀ a b, F a b → G a b) : ∀ {l : List α} {m : List β}, Paired F l m → Paired G l m
  | _, _, .nil => .nil
  | _, _, .cons r t => .cons (f _ _ r) (paired_imp f t)
theorem kv_mono {K : PySem.W.Frag} {H H' : Hp} (e : Same H H') {a : List (Key × V)} {b : List (Str × PyData)} (h : KvOk K H a b) : KvOk K H' a b :=
  paired_imp (fun _ _ q => ⟨q.1, dp_mono e q.2⟩) h
theorem nk_mono {K : PySem.W.Frag} {H H' : Hp} (e : Same H H') {a : List NX} {b : List (NestedKey × PyData)} (h : NkOk K H a b) : NkOk K H' a b :=
  paired_imp (fun _ _ q => ⟨q.1, dp_mono e q.2.1, q.2.2.1, dp_mono e q.2.2.2⟩) h
theorem repDk_mono {B : Bx} {H H' : Hp} (e : Same H H') {v : V} {l : List (Str × PyData)} (h : RepDk B H v l) : RepDk B H' v l := by
  obtain ⟨p, vs, rfl, hp, k⟩ := h
  exact ⟨p, vs, rfl, e _ _ hp, kv_mono e k⟩
theorem rep_mono {B : Bx} {H H' : Hp} (e : Same H H') {v : V} {x : Wd} (h : RepW B H v x) : RepW B H' v x := by
  cases x with
  | d x => exact dp_mono e h
  | dk kvs => exact repDk_mono e h
  | dn kvs =>
    obtain ⟨p, o, xs, rfl, hp, k⟩ := h
    exact ⟨p, o, xs, rfl, e _ _ hp, nk_mono e k⟩
  | ldk l =>
    obtain ⟨p, vs, rfl, hp, k⟩ := h
    exact ⟨p, vs, rfl, e _ _ hp, paired_imp (fun _ _ q => repDk_mono e q) k⟩
  | opq => exact h
  | fl ds =>
    obtain ⟨p, vs, rfl, hp, k⟩ := h
    exact ⟨p, vs, rfl, e _ _ hp, dpAll_mono e k⟩
theorem own_mono {B : Bx} {G G' H H' : Hp} {p : Addr} (e : Same G G') (hp : H' p = H p) {x : Wd} (h : Ow B G H p x) : Ow B G' H' p x := by
  cases x with
  | d x =>
    cases x with
    | list ds => obtain ⟨vs, q, k⟩ := h; exact ⟨vs, hp.trans q, dpAll_mono e k⟩
    | _ => exact h.elim
  | dk kvs => obtain ⟨vs, q, k⟩ := h; exact ⟨vs, hp.trans q, kv_mono e k⟩
  | dn kvs => obtain ⟨xs, q, k⟩ := h; exact ⟨xs, hp.trans q, nk_mono e k⟩
  | ldk l => obtain ⟨vs, q, k⟩ := h; exact ⟨vs, hp.trans q, paired_imp (fun _ _ z => repDk_mono e z) k⟩
  | opq => exact h.elim
  | fl _ => exact h.elim
theorem own_there {B : Bx} {G H : Hp} {p : Addr} {x : Wd} (h : Ow B G H p x) : H p ≠ none := by
  cases x with
  | d x =>
    cases x with
    | list ds => obtain ⟨vs, q, _⟩ := h; rw [q]; exact fun z => nomatch z
    | _ => exact h.elim
  | dk kvs => obtain ⟨vs, q, k⟩ := h; rw [q]; exact fun z => nomatch z
  | dn kvs => obtain ⟨xs, q, k⟩ := h; rw [q]; exact fun z => nomatch z
  | ldk l => obtain ⟨vs, q, k⟩ := h; rw [q]; exact fun z => nomatch z
  | opq => exact h.elim
  | fl _ => exact h.elim
/-- an object of ours that is read from now on -/
@[reducible] def mayFrz : Wd → Bool | .dn _ => false | _ => true
theorem own_rep {B : Bx} {G G' H : Hp} {p : Addr} {x : Wd} (e : Same G G') (hp : G' p = H p) (hf : mayFrz x = true) (h : Ow B G H p x) : RepW B G' (.ref p) x := by
  cases x with
  | d x =>
    cases x with
    | list ds => obtain ⟨vs, q, k⟩ := h; exact .lst (.inl (.inl (hp.trans q))) (dpAll_mono e k)
    | _ => exact h.elim
  | dk kvs => obtain ⟨vs, q, k⟩ := h; exact ⟨p, vs, rfl, hp.trans q, kv_mono e k⟩
  | dn kvs => cases hf
  | ldk l => obtain ⟨vs, q, k⟩ := h; exact ⟨p, vs, rfl, hp.trans q, paired_imp (fun _ _ z => repDk_mono e z) k⟩
  | opq => exact h.elim
  | fl _ => exact h.elim

def cut (H : Hp) (E : List Addr) : Hp := fun a => if a ∈ E then none else H a
theorem cut_out {H : Hp} {E : List Addr} {a : Addr} (h : a ∉ E) : cut H E a = H a := if_neg h
theorem cut_some {H : Hp} {E : List Addr} {a : Addr} {o : HO} (h : cut H E a = some o) : a ∉ E ∧ H a = some o := by
  unfold cut at h
  split at h
  · cases h
  · exact ⟨by assumption, h⟩
theorem cut_same {H H' : Hp} {E E' : List Addr} (k : ∀ a o, a ∉ E → H a = some o → H' a = some o) (x : ∀ a, a ∈ E' → a ∈ E ∨ H a = none) : Same (cut H E) (cut H' E') := fun a o h => by
  obtain ⟨n, q⟩ := cut_some h
  have n' : a ∉ E' := fun z => by
    rcases x a z with z | z
    · exact n z
    · rw [q] at z; cases z
  rw [cut_out n']
  exact k a o n q
theorem cut_le {H : Hp} {E : List Addr} : Same (cut H E) H := fun a o h => (cut_some h).2
theorem cut_to {H H' : Hp} {E : List Addr} (k : Same H H') : Same (cut H E) (cut H' E) := cut_same (fun a o _ h => k a o h) fun _ h => .inl h

/-! ### slots and states -/
/-- pd: the draws' list, where the def has it; xs: what belongs to the callers -/
structure Cc where
  pd : Option Addr
  xs : List Addr
/-- what an expression gives, what a slot holds: data that nobody changes; an object of ours, to be changed; the draws' list -/
inductive Arg where
  | v (x : Wd) | ow (x : Wd) | dr
abbrev En := List (Option Arg)
def RepA (B : Bx) (pd : Option Addr) (G H : Hp) (v : V) : Arg → Prop
  | .v x => RepW B G v x
  | .ow x => ∃ p, v = .ref p ∧ pd ≠ some p ∧ Ow B G H p x
  | .dr => ∃ p, v = .ref p ∧ pd = some p
/-- an object of ours lies in ps -/
def InPs (ps : List Addr) (v : V) : Arg → Prop
  | .ow _ => ∀ p, v = .ref p → p ∈ ps
  | _ => True
structure Gd (B : Bx) (c : Cc) (ps : List Addr) (ρ : En) (δ : List Int) (σ : L2.St) (H : Hp) : Prop where
  live : ∀ a ∈ c.xs ++ ps, H a ≠ none
  apart : ∀ a ∈ c.xs, a ∉ ps
  dr : ∀ p, c.pd = some p → p ∈ ps ∧ H p = some (.lst (δ.map V.int))
  len : σ.length = ρ.length
  sl : ∀ (i : Nat) (s : Arg), ρ[i]? = some (some s) → ∃ v, σ[i]? = some (some v) ∧ RepA B c.pd (cut H (c.xs ++ ps)) H v s ∧ InPs ps v s
  dj : ∀ (i j : Nat) (x y : Wd) (v : V), i ≠ j → ρ[i]? = some (some (.ow x)) → ρ[j]? = some (some (.ow y)) → σ[i]? = some (some v) → σ[j]? = some (some v) → False
/-- an expression has run: all but the draws' list is as it was -/
def Xt (c : Cc) (δ : List Int) (H H' : Hp) : Prop := (∀ a o, c.pd ≠ some a → H a = some o → H' a = some o) ∧ ∀ p, c.pd = some p → H' p = some (.lst (δ.map V.int))
/-- a statement has run: all but ours is as it was; what is ours now was ours or is new -/
def Stp (ps : List Addr) (H : Hp) (ps' : List Addr) (H' : Hp) : Prop := (∀ a o, a ∉ ps → H a = some o → H' a = some o) ∧ ∀ a ∈ ps', a ∈ ps ∨ H a = none
theorem Stp.refl {ps : List Addr} {H : Hp} : Stp ps H ps H := ⟨fun _ _ _ h => h, fun _ h => .inl h⟩
theorem Stp.trans {ps ps1 ps2 : List Addr} {H H1 H2 : Hp} (s : Stp ps H ps1 H1) (t : Stp ps1 H1 ps2 H2) : Stp ps H ps2 H2 := by
  refine ⟨fun a o n h => ?_, fun a h => ?_⟩
  · refine t.1 a o (fun z => ?_) (s.1 a o n h)
    rcases s.2 a z with q | q
    · exact n q
    · rw [h] at q; cases q
  · rcases t.2 a h with q | q
    · exact s.2 a q
    · cases e : H a with
      | none => exact .inr rfl
      | some o =>
        by_cases n : a ∈ ps
        · exact .inl n
        · rw [s.1 a o n e] at q; cases q
section
variable {B : Bx} {c : Cc} {ps : List Addr} {ρ : En} {δ δ' δ'' : List Int} {σ : L2.St} {H H' H'' : Hp}
theorem Xt.trans (a : Xt c δ' H H') (b : Xt c δ'' H' H'') : Xt c δ'' H H'' := ⟨fun x o n h => b.1 x o n (a.1 x o n h), b.2⟩
theorem Gd.refl (g : Gd B c ps ρ δ σ H) : Xt c δ H H := ⟨fun _ _ _ h => h, fun p h => (g.dr p h).2⟩
theorem Gd.pdIn (g : Gd B c ps ρ δ σ H) {a : Addr} (h : a ∉ c.xs ++ ps) : c.pd ≠ some a := fun e => h (List.mem_append_right _ (g.dr a e).1)
theorem Gd.same (g : Gd B c ps ρ δ σ H) (x : Xt c δ' H H') : Same (cut H (c.xs ++ ps)) (cut H' (c.xs ++ ps)) := cut_same (fun a o n h => x.1 a o (g.pdIn n) h) fun _ h => .inl h
theorem Xt.there (x : Xt c δ' H H') {a : Addr} (h : H a ≠ none) : H' a ≠ none := by
  by_cases e : c.pd = some a
  · rw [x.2 a e]; exact fun z => nomatch z
  · cases q : H a with
    | none => exact absurd q h
    | some o => rw [x.1 a o e q]; exact fun z => nomatch z
theorem Xt.at (x : Xt c δ' H H') {a : Addr} (h : H a ≠ none) (n : c.pd ≠ some a) : H' a = H a := by
  cases q : H a with
  | none => exact absurd q h
  | some o => exact x.1 a o n q
/-- what a rule about values may lean on -/
structure Hk (pd : Option Addr) (δ : List Int) (E : List Addr) (H : Hp) : Prop where
  live : ∀ a ∈ E, H a ≠ none
  dr : ∀ p, pd = some p → H p = some (.lst (δ.map V.int))
theorem Gd.hk (g : Gd B c ps ρ δ σ H) : Hk c.pd δ (c.xs ++ ps) H := ⟨g.live, fun p e => (g.dr p e).2⟩
theorem Gd.repA (g : Gd B c ps ρ δ σ H) (x : Xt c δ' H H') {v : V} {a : Arg} (h : RepA B c.pd (cut H (c.xs ++ ps)) H v a) : RepA B c.pd (cut H' (c.xs ++ ps)) H' v a := by
  have sm := g.same x
  cases a with
  | v y => exact rep_mono sm h
  | ow y =>
    obtain ⟨p, rfl, np, o⟩ := h
    exact ⟨p, rfl, np, own_mono sm (x.at (own_there o) np) o⟩
  | dr => exact h
theorem Gd.ext (g : Gd B c ps ρ δ σ H) (x : Xt c δ' H H') : Gd B c ps ρ δ' σ H' := by
  refine ⟨fun a h => x.there (g.live a h), g.apart, fun p h => ⟨(g.dr p h).1, x.2 p h⟩, g.len, fun i s e => ?_, g.dj⟩
  obtain ⟨v, hv, k, q⟩ := g.sl i s e
  exact ⟨v, hv, g.repA x k, q⟩
/-- a statement made of an expression -/
theorem Gd.step (g : Gd B c ps ρ δ σ H) (x : Xt c δ' H H') : Stp ps H ps H' := ⟨fun a o n h => x.1 a o (fun e => n (g.dr a e).1) h, fun _ h => .inl h⟩
/-- a new object, not tracked by us -/
theorem Gd.fresh (g : Gd B c ps ρ δ σ H) {p : Addr} (h : H p = none) : p ∉ c.xs ++ ps := fun z => g.live p z h
theorem Xt.upd (g : Gd B c ps ρ δ σ H) {p : Addr} {o : HO} (h : H p = none) : Xt c δ H (L2.upd H p o) := by
  refine ⟨fun a u _ q => by rw [upd_ne (ne_of_none q h)]; exact q, fun q e => ?_⟩
  have z := (g.dr q e).2
  rw [upd_ne (ne_of_none z h)]
  exact z
theorem Xt.same (g : Gd B c ps ρ δ σ H) (h : Same H H') : Xt c δ H H' := ⟨fun a o _ q => h a o q, fun p e => h _ _ (g.dr p e).2⟩
end

/-! ### the judgements -/
abbrev ZE := Arg → List Int → Prop
def tE (B : Bx) (c : Cc) (ρ : En) (δ : List Int) (Z : ZE) : TE := fun σ H Q => ∃ ps, Gd B c ps ρ δ σ H ∧ ∀ v a δ' H', Z a δ' → Xt c δ' H H' → RepA B c.pd (cut H' (c.xs ++ ps)) H' v a → Q v H'
def EE (X : Cx) (c : Cc) (e : Expr) (ρ : En) (δ : List Int) (Z : ZE) : Prop := PE X e (tE (bx X) c ρ δ Z)
/-- a test -/
def tT (B : Bx) (c : Cc) (ρ : En) (δ : List Int) (Z : Bool → List Int → Prop) : TT := fun σ H Q => ∃ ps, Gd B c ps ρ δ σ H ∧ ∀ b δ' H', Z b δ' → Xt c δ' H H' → Q b H'
def ET (X : Cx) (c : Cc) (e : Expr) (ρ : En) (δ : List Int) (Z : Bool → List Int → Prop) : Prop := PT X e (tT (bx X) c ρ δ Z)
def EW (X : Cx) (c : Cc) (e : Expr) (ρ : En) (δ : List Int) (Z : Bool → List Int → Prop) : Prop := PW X e (tT (bx X) c ρ δ Z)
def ETs (X : Cx) (c : Cc) (es : List Expr) (ρ : En) (δ : List Int) (Z : Bool → List Int → Prop) : Prop := PTs X es (tT (bx X) c ρ δ Z)
/-- several expressions, one after another -/
def tA (B : Bx) (c : Cc) (ρ : En) (δ : List Int) (n : Nat) (Z : List Arg → List Int → Prop) : TA := fun σ H Q => ∃ ps, Gd B c ps ρ δ σ H ∧
  ∀ vs as δ' H', as.length = n → Z as δ' → Xt c δ' H H' → Paired (RepA B c.pd (cut H' (c.xs ++ ps)) H') vs as → Q vs H'
def EA (X : Cx) (c : Cc) (es : List Expr) (ρ : En) (δ : List Int) (Z : List Arg → List Int → Prop) : Prop := PA X es (tA (bx X) c ρ δ es.length Z)
/-- an expression that makes a new object, ours from now on -/
def tN (B : Bx) (c : Cc) (ρ : En) (δ : List Int) (Z : Wd → List Int → Prop) : TE := fun σ H Q => ∃ ps, Gd B c ps ρ δ σ H ∧
  ∀ p x δ' H', Z x δ' → H p = none → Xt c δ' H H' → Ow B (cut H' (c.xs ++ p :: ps)) H' p x → Q (.ref p) H'
def EN (X : Cx) (c : Cc) (e : Expr) (ρ : En) (δ : List Int) (Z : Wd → List Int → Prop) : Prop := PE X e (tN (bx X) c ρ δ Z)
/-- what comes of a statement -/
inductive Ot where
  | nx (ρ : En) (δ : List Int) | rt (x : Wd) (δ : List Int) | bk (ρ : En) (δ : List Int) | ct (ρ : En) (δ : List Int)
def tS (B : Bx) (c : Cc) (ρ : En) (δ : List Int) (Z : Ot → Prop) : TS := fun D σ H => ∃ ps, Gd B c ps ρ δ σ H ∧
  (∀ ρ' δ' σ' H' ps', Z (.nx ρ' δ') → Gd B c ps' ρ' δ' σ' H' → Stp ps H ps' H' → D.nx σ' H') ∧
  (∀ v x δ' H' ps', Z (.rt x δ') → Stp ps H ps' H' → (∀ p, c.pd = some p → p ∈ ps' ∧ H' p = some (.lst (δ'.map V.int))) → RepW B (cut H' (c.xs ++ ps')) v x → D.rt v H') ∧
  (∀ ρ' δ' σ' H' ps', Z (.bk ρ' δ') → Gd B c ps' ρ' δ' σ' H' → Stp ps H ps' H' → D.bk σ' H') ∧
  (∀ ρ' δ' σ' H' ps', Z (.ct ρ' δ') → Gd B c ps' ρ' δ' σ' H' → Stp ps H ps' H' → D.ct σ' H')
def SE (X : Cx) (c : Cc) (st : Stmt) (ρ : En) (δ : List Int) (Z : Ot → Prop) : Prop := PS X st (tS (bx X) c ρ δ Z)
def SS (X : Cx) (c : Cc) (sts : List Stmt) (ρ : En) (δ : List Int) (Z : Ot → Prop) : Prop := PSs X sts (tS (bx X) c ρ δ Z)
/-- what a walk gives: a value, or a new pair (triple ..) of values -/
inductive IW where
  | one (w : Wd) | pair (ws : List Wd)
def LRep (B : Bx) (G H : Hp) (v : V) : IW → Prop
  | .one w => RepW B G v w
  | .pair ws => ∃ T xs, v = .ref T ∧ H T = some (.tup xs) ∧ Paired (RepW B G) xs ws
/-- a target takes it; is: the slots that it may change -/
def tG (B : Bx) (c : Cc) (y : IW) (ρ : En) (δ : List Int) (is : List Nat) (Z : En → Prop) : TG := fun v σ H Q => ∃ ps, Gd B c ps ρ δ σ H ∧ LRep B (cut H (c.xs ++ ps)) H v y ∧
  ∀ ρ' σ', Z ρ' → Gd B c ps ρ' δ σ' H → σ'.length = σ.length → (∀ (j : Nat), j ∉ is → σ'[j]? = σ[j]?) → Q σ' H
def EG (X : Cx) (c : Cc) (tg : Expr) (y : IW) (ρ : En) (δ : List Int) (is : List Nat) (Z : En → Prop) : Prop := PG X tg (tG (bx X) c y ρ δ is Z)
def tGs (B : Bx) (c : Cc) (ws : List Wd) (ρ : En) (δ : List Int) (is : List Nat) (Z : En → Prop) : TGs := fun vs σ H Q => ∃ ps, Gd B c ps ρ δ σ H ∧ Paired (RepW B (cut H (c.xs ++ ps))) vs ws ∧
  ∀ ρ' σ', Z ρ' → Gd B c ps ρ' δ σ' H → σ'.length = σ.length → (∀ (j : Nat), j ∉ is → σ'[j]? = σ[j]?) → Q σ' H
def EGs (X : Cx) (c : Cc) (tgs : List Expr) (ws : List Wd) (ρ : En) (δ : List Int) (is : List Nat) (Z : En → Prop) : Prop := PGs X tgs (tGs (bx X) c ws ρ δ is Z)
/-- what a turn of a walk gives; G: the data as they stand -/
def YRep (B : Bx) (G H H' : Hp) (v : V) : IW → Prop
  | .one w => H' = H ∧ RepW B G v w
  | .pair ws => ∃ T xs, v = .ref T ∧ H T = none ∧ H' = upd H T (.tup xs) ∧ Paired (RepW B G) xs ws
/-- J walks over ys, in each heap in which what stood (as far as pr says) stands -/
def WalkOk (B : Bx) (J : It) (H0 : Hp) (E : List Addr) (pr : Addr → Prop) (ys : List IW) : Prop := ∀ H, (∀ a o, pr a → H0 a = some o → H a = some o) →
  (∀ (i : Nat) (y : IW), ys[i]? = some y → J.go i H ∧ ∀ x H', J.yld i H x H' → YRep B (cut H0 E) H H' x y) ∧ ∀ (i : Nat), ys.length ≤ i → J.stop i H
def tI (B : Bx) (c : Cc) (ρ : En) (δ : List Int) (Z : List IW → List Int → Prop) : TI := fun σ H R => ∃ ps, Gd B c ps ρ δ σ H ∧
  ∀ J ys δ' H', Z ys δ' → Xt c δ' H H' → WalkOk B J H' (c.xs ++ ps) (fun a => a ∉ c.xs ++ ps) ys → R J H'
/-- a walk that a for loop may take -/
def EI (X : Cx) (c : Cc) (tg e : Expr) (ρ : En) (δ : List Int) (Z : List IW → List Int → Prop) : Prop := PI X tg e (tI (bx X) c ρ δ Z)
def tIc (B : Bx) (c : Cc) (ρ : En) (δ : List Int) (Z : List IW → List Int → Prop) : TI := fun σ H R => ∃ ps, Gd B c ps ρ δ σ H ∧
  ∀ J ys δ' H', Z ys δ' → Xt c δ' H H' → WalkOk B J H' (c.xs ++ ps) (fun a => c.pd ≠ some a) ys → R J H'
/-- a walk that a comprehension may take -/
def EIc (X : Cx) (c : Cc) (tg e : Expr) (ρ : En) (δ : List Int) (Z : List IW → List Int → Prop) : Prop := PI X tg e (tIc (bx X) c ρ δ Z)

/-! ### derivations that are known at run time alone -/
section
variable {X : Cx}
theorem PE.le {e : Expr} {t t' : TE} (h : PE X e t) (l : ∀ σ H Q, t' σ H Q → t σ H Q) : PE X e t' := ⟨fun pins s σ H Q I q => h.run pins s σ H Q I (l σ H Q q)⟩
theorem PT.le {e : Expr} {t t' : TT} (h : PT X e t) (l : ∀ σ H Q, t' σ H Q → t σ H Q) : PT X e t' := ⟨fun pins s σ H Q I q => h.run pins s σ H Q I (l σ H Q q)⟩
theorem PW.le {e : Expr} {t t' : TT} (h : PW X e t) (l : ∀ σ H Q, t' σ H Q → t σ H Q) : PW X e t' := ⟨fun wh pins s σ H Q I q => h.run wh pins s σ H Q I (l σ H Q q)⟩
theorem PTs.le {es : List Expr} {t t' : TT} (h : PTs X es t) (l : ∀ σ H Q, t' σ H Q → t σ H Q) : PTs X es t' := ⟨fun pins s σ H Q I q => h.run pins s σ H Q I (l σ H Q q)⟩
theorem PA.le {es : List Expr} {t t' : TA} (h : PA X es t) (l : ∀ σ H Q, t' σ H Q → t σ H Q) : PA X es t' := ⟨fun pos pins s σ H Q I q => h.run pos pins s σ H Q I (l σ H Q q)⟩
theorem PS.le {st : Stmt} {t t' : TS} (h : PS X st t) (l : ∀ D σ H, t' D σ H → t D σ H) : PS X st t' := ⟨fun pins s σ H D I q => h.run pins s σ H D I (l D σ H q)⟩
theorem PSs.le {st : List Stmt} {t t' : TS} (h : PSs X st t) (l : ∀ D σ H, t' D σ H → t D σ H) : PSs X st t' := ⟨fun pins s σ H D I q => h.run pins s σ H D I (l D σ H q)⟩
theorem PG.le {tg : Expr} {t t' : TG} (h : PG X tg t) (l : ∀ v σ H Q, t' v σ H Q → t v σ H Q) : PG X tg t' := ⟨fun pins s σ H v u Q I r q => h.run pins s σ H v u Q I r (l v σ H Q q)⟩
theorem PI.le {tg e : Expr} {t t' : TI} (h : PI X tg e t) (l : ∀ σ H R, t' σ H R → t σ H R) : PI X tg e t' := ⟨fun pins s σ H Q I q => h.run pins s σ H Q I (l σ H Q q)⟩
def aE (X : Cx) (e : Expr) : TE := fun σ H Q => ∃ t, PE X e t ∧ t σ H Q
def aT (X : Cx) (e : Expr) : TT := fun σ H Q => ∃ t, PT X e t ∧ t σ H Q
def aW (X : Cx) (e : Expr) : TT := fun σ H Q => ∃ t, PW X e t ∧ t σ H Q
def aA (X : Cx) (es : List Expr) : TA := fun σ H Q => ∃ t, PA X es t ∧ t σ H Q
def aSs (X : Cx) (es : List Stmt) : TS := fun D σ H => ∃ t, PSs X es t ∧ t D σ H
def aG (X : Cx) (e : Expr) : TG := fun v σ H Q => ∃ t, PG X e t ∧ t v σ H Q
theorem pe_any {e : Expr} : PE X e (aE X e) := ⟨fun pins s σ H Q I ⟨_, h, q⟩ => h.run pins s σ H Q I q⟩
theorem pt_any {e : Expr} : PT X e (aT X e) := ⟨fun pins s σ H Q I ⟨_, h, q⟩ => h.run pins s σ H Q I q⟩
theorem pw_any {e : Expr} : PW X e (aW X e) := ⟨fun wh pins s σ H Q I ⟨_, h, q⟩ => h.run wh pins s σ H Q I q⟩
theorem pa_any {es : List Expr} : PA X es (aA X es) := ⟨fun pos pins s σ H Q I ⟨_, h, q⟩ => h.run pos pins s σ H Q I q⟩
theorem pss_any {es : List Stmt} : PSs X es (aSs X es) := ⟨fun pins s σ H D I ⟨_, h, q⟩ => h.run pins s σ H D I q⟩
theorem pg_any {e : Expr} : PG X e (aG X e) := ⟨fun pins s σ H v u Q I r ⟨_, h, q⟩ => h.run pins s σ H v u Q I r q⟩
end
end Dl
/-! part dl1 -/
set_option Elab.async false
set_option linter.all false
set_option maxRecDepth 100000
set_option maxHeartbeats 4000000
set_option autoImplicit false
/-! Dl1: expressions over data. -/
namespace Dl
open PySem PySem.Spec PyProof.Rows L2

/-! ### what an answer looks like -/
@[reducible] def onV (a : Arg) (f : Wd → Prop) : Prop := match a with | .v x => f x | _ => False
@[reducible] def onD (a : Arg) (f : PyData → Prop) : Prop := match a with | .v (.d x) => f x | _ => False
@[reducible] def onI (a : Arg) (f : Int → Prop) : Prop := match a with | .v (.d (.int i)) => f i | _ => False
@[reducible] def onStr (a : Arg) (f : Str → Prop) : Prop := match a with | .v (.d (.str i)) => f i | _ => False
@[reducible] def onB (a : Arg) (f : Bool → Prop) : Prop := match a with | .v (.d (.bool i)) => f i | _ => False
@[reducible] def onT (a : Arg) (f : List PyData → Prop) : Prop := match a with | .v (.d (.tuple i)) => f i | _ => False
@[reducible] def onL (a : Arg) (f : List PyData → Prop) : Prop := match a with | .v (.d (.list i)) => f i | _ => False
@[reducible] def onO (a : Arg) (f : List PyData → Prop) : Prop := match a with | .ow (.d (.list i)) => f i | _ => False
/-- a list that is read -/
@[reducible] def onR (a : Arg) (f : List PyData → Prop) : Prop := match a with | .v (.d (.list i)) => f i | .ow (.d (.list i)) => f i | _ => False
/-- a list or a tuple that is read -/
@[reducible] def onQ (a : Arg) (f : List PyData → Prop) : Prop := match a with | .v (.d (.list i)) => f i | .v (.d (.tuple i)) => f i | .ow (.d (.list i)) => f i | _ => False
@[reducible] def onDk (a : Arg) (f : List (Str × PyData) → Prop) : Prop := match a with | .v (.dk i) => f i | _ => False
@[reducible] def onDn (a : Arg) (f : List (NestedKey × PyData) → Prop) : Prop := match a with | .v (.dn i) => f i | _ => False
@[reducible] def isNone (a : Arg) : Bool := match a with | .v (.d .none) => true | _ => false
section
variable {a : Arg} {P : Arg → Prop}
theorem onV_elim {f : Wd → Prop} (h : onV a f) (k : ∀ x, f x → P (.v x)) : P a := by
  cases a with
  | v x => exact k x h
  | _ => exact h.elim
theorem onD_elim {f : PyData → Prop} (h : onD a f) (k : ∀ x, f x → P (.v (.d x))) : P a := by
  cases a with
  | v x => cases x with
    | d x => exact k x h
    | _ => exact h.elim
  | _ => exact h.elim
theorem onI_elim {f : Int → Prop} (h : onI a f) (k : ∀ x, f x → P (.v (.d (.int x)))) : P a := by
  cases a with
  | v x => cases x with
    | d x => cases x with
      | int i => exact k i h
      | _ => exact h.elim
    | _ => exact h.elim
  | _ => exact h.elim
theorem onStr_elim {f : Str → Prop} (h : onStr a f) (k : ∀ x, f x → P (.v (.d (.str x)))) : P a := by
  cases a with
  | v x => cases x with
    | d x => cases x with
      | str i => exact k i h
      | _ => exact h.elim
    | _ => exact h.elim
  | _ => exact h.elim
theorem onB_elim {f : Bool → Prop} (h : onB a f) (k : ∀ x, f x → P (.v (.d (.bool x)))) : P a := by
  cases a with
  | v x => cases x with
    | d x => cases x with
      | bool i => exact k i h
      | _ => exact h.elim
    | _ => exact h.elim
  | _ => exact h.elim
theorem onT_elim {f : List PyData → Prop} (h : onT a f) (k : ∀ x, f x → P (.v (.d (.tuple x)))) : P a := by
  cases a with
  | v x => cases x with
    | d x => cases x with
      | tuple i => exact k i h
      | _ => exact h.elim
    | _ => exact h.elim
  | _ => exact h.elim
theorem onL_elim {f : List PyData → Prop} (h : onL a f) (k : ∀ x, f x → P (.v (.d (.list x)))) : P a := by
  cases a with
  | v x => cases x with
    | d x => cases x with
      | list i => exact k i h
      | _ => exact h.elim
    | _ => exact h.elim
  | _ => exact h.elim
theorem onR_elim {f : List PyData → Prop} (h : onR a f) (k : ∀ x, f x → P (.v (.d (.list x)))) (k2 : ∀ x, f x → P (.ow (.d (.list x)))) : P a := by
  cases a with
  | v x => cases x with
    | d x => cases x with
      | list i => exact k i h
      | _ => exact h.elim
    | _ => exact h.elim
  | ow x => cases x with
    | d x => cases x with
      | list i => exact k2 i h
      | _ => exact h.elim
    | _ => exact h.elim
  | _ => exact h.elim
theorem onDk_elim {f : List (Str × PyData) → Prop} (h : onDk a f) (k : ∀ x, f x → P (.v (.dk x))) : P a := by
  cases a with
  | v x => cases x with
    | dk i => exact k i h
    | _ => exact h.elim
  | _ => exact h.elim
theorem onDn_elim {f : List (NestedKey × PyData) → Prop} (h : onDn a f) (k : ∀ x, f x → P (.v (.dn x))) : P a := by
  cases a with
  | v x => cases x with
    | dn i => exact k i h
    | _ => exact h.elim
  | _ => exact h.elim
end
section
variable {B : Bx} {pd : Option Addr} {G H : Hp} {v : V}
theorem rep_int {i : Int} (h : RepA B pd G H v (.v (.d (.int i)))) : v = .int i := by
  have h' : Rp B.K G v (.int i) := h
  cases h'; rfl
theorem rep_str {i : Str} (h : RepA B pd G H v (.v (.d (.str i)))) : v = .str i := by
  have h' : Rp B.K G v (.str i) := h
  cases h'; rfl
theorem rep_bool {i : Bool} (h : RepA B pd G H v (.v (.d (.bool i)))) : v = .bl i := by
  have h' : Rp B.K G v (.bool i) := h
  cases h'; rfl
theorem rep_none (h : RepA B pd G H v (.v (.d .none))) : v = .non := by
  have h' : Rp B.K G v .none := h
  cases h'; rfl
theorem rep_tup {ds : List PyData} (h : RepA B pd G H v (.v (.d (.tuple ds)))) : ∃ p o vs, v = .ref p ∧ G p = some (.frz o (.tup vs)) ∧ o.dict = none ∧ RpAll B.K G vs ds := by
  have h' : Rp B.K G v (.tuple ds) := h
  cases h' with
  | tup h1 h2 h3 => exact ⟨_, _, _, rfl, h1, h2, h3⟩
theorem rep_lst {ds : List PyData} (h : RepA B pd G H v (.v (.d (.list ds)))) : ∃ p vs, v = .ref p ∧ SqL B.K G p vs ∧ RpAll B.K G vs ds := by
  have h' : Rp B.K G v (.list ds) := h
  cases h' with
  | lst h1 h2 => exact ⟨_, _, rfl, h1, h2⟩
theorem dpAll_len {K : PySem.W.Frag} : ∀ {vs : List V} {ds : List PyData}, RpAll K H vs ds → vs.length = ds.length
  | _, _, .nil => rfl
  | _, _, .cons _ t => congrArg (· + 1) (dpAll_len t)
theorem dpAll_get {K : PySem.W.Frag} : ∀ {vs : List V} {ds : List PyData} {i : Nat} {d : PyData}, RpAll K H vs ds → ds[i]? = some d → ∃ v, vs[i]? = some v ∧ Rp K H v d
  | _, _, _, _, .nil, e => by simp at e
  | _, _, 0, _, .cons h _, e => by simp at e; subst e; exact ⟨_, rfl, h⟩
  | _, _, i + 1, d, .cons _ t, e => by
    obtain ⟨u, h1, h2⟩ := dpAll_get (i := i) (d := d) t (by simpa using e)
    exact ⟨u, by simpa using h1, h2⟩
theorem dpAll_get' {K : PySem.W.Frag} : ∀ {vs : List V} {ds : List PyData} {i : Nat} {v : V}, RpAll K H vs ds → vs[i]? = some v → ∃ d, ds[i]? = some d ∧ Rp K H v d
  | _, _, _, _, .nil, e => by simp at e
  | _, _, 0, _, .cons h _, e => by simp at e; subst e; exact ⟨_, rfl, h⟩
  | _, _, i + 1, d, .cons _ t, e => by
    obtain ⟨u, h1, h2⟩ := dpAll_get' (i := i) (v := d) t (by simpa using e)
    exact ⟨u, by simpa using h1, h2⟩
theorem dpAll_app {K : PySem.W.Frag} : ∀ {vs us : List V} {ds es : List PyData}, RpAll K H vs ds → RpAll K H us es → RpAll K H (vs ++ us) (ds ++ es)
  | _, _, _, _, .nil, h => h
  | _, _, _, _, .cons a t, h => .cons a (dpAll_app t h)
theorem dpAll_take {K : PySem.W.Frag} : ∀ {vs : List V} {ds : List PyData} (n : Nat), RpAll K H vs ds → RpAll K H (vs.take n) (ds.take n)
  | _, _, 0, _ => .nil
  | _, _, _ + 1, .nil => .nil
  | _, _, n + 1, .cons h t => .cons h (dpAll_take n t)
theorem dpAll_drop {K : PySem.W.Frag} : ∀ {vs : List V} {ds : List PyData} (n : Nat), RpAll K H vs ds → RpAll K H (vs.drop n) (ds.drop n)
  | _, _, 0, h => h
  | _, _, _ + 1, .nil => .nil
  | _, _, n + 1, .cons _ t => dpAll_drop n t
theorem dpAll_set {K : PySem.W.Frag} {v : V} {d : PyData} (r : Rp K H v d) : ∀ {vs : List V} {ds : List PyData} (n : Nat), RpAll K H vs ds → RpAll K H (vs.set n v) (ds.set n d)
  | _, _, _, .nil => .nil
  | _, _, 0, .cons _ t => .cons r t
  | _, _, n + 1, .cons h t => .cons h (dpAll_set r n t)
theorem dpAll_erase {K : PySem.W.Frag} : ∀ {vs : List V} {ds : List PyData} (n : Nat), RpAll K H vs ds → RpAll K H (vs.eraseIdx n) (ds.eraseIdx n)
  | _, _, _, .nil => .nil
  | _, _, 0, .cons _ t => t
  | _, _, n + 1, .cons h t => .cons h (dpAll_erase n t)
theorem sqL_up {K : PySem.W.Frag} {E : List Addr} {a : Addr} {xs : List V} (h : SqL K (cut H E) a xs) : SqL K H a xs := Same.seq cut_le h
theorem sqT_up {K : PySem.W.Frag} {E : List Addr} {a : Addr} {xs : List V} (h : SqT K (cut H E) a xs) : SqT K H a xs := Same.seqT cut_le h
/-- a list that is read: frozen or ours -/
theorem rep_rd {E : List Addr} {a : Arg} {f : List PyData → Prop} (h : onR a f) (r : RepA B pd (cut H E) H v a) : ∃ ds, f ds ∧ ∃ p vs, v = .ref p ∧ SqL B.K H p vs ∧ RpAll B.K (cut H E) vs ds := by
  revert r
  refine onR_elim (P := fun a => RepA B pd (cut H E) H v a → ∃ ds, f ds ∧ ∃ p vs, v = .ref p ∧ SqL B.K H p vs ∧ RpAll B.K (cut H E) vs ds) h (fun ds hf r => ?_) fun ds hf r => ?_
  · obtain ⟨p, vs, e, h1, h2⟩ := rep_lst r
    exact ⟨ds, hf, p, vs, e, sqL_up h1, h2⟩
  · obtain ⟨p, e, _, vs, h1, h2⟩ := r
    exact ⟨ds, hf, p, vs, e, .inl (.inl h1), h2⟩
end

/-! ### tuples whose object is known -/
def tTupF (t : TA) : TE := fun σ H Q => t σ H fun xs H1 => xs.length ≤ sizeLine ∧ ∀ p o, H1 p = none → o.dict = none → Q (.ref p) (upd H1 p (.frz o (.tup xs)))
/-- a tuple's object, just laid -/
theorem laidF {X : Cx} {pins : List (Addr × Obj)} {σ : L2.St} {H : Hp} {s : Shared} {Q : VK} {xs : List V} {us : List Value} (I : Inv X pins σ H s) (z : xs.length ≤ sizeLine) (r : Vals xs us)
    (q : ∀ p o, H p = none → o.dict = none → Q (.ref p) (upd H p (.frz o (.tup xs)))) : EP X pins σ Q (.ref s.heap.objs.size) { s with heap := s.heap.push { cls := .type "tuple", data := .seq us.toArray } } := by
  have e : (s.heap.push { cls := .type "tuple", data := .seq us.toArray }).get? s.heap.objs.size = some { cls := .type "tuple", data := .seq us.toArray } := Heap.get?_push_size _ rfl
  exact ⟨.ref s.heap.objs.size, _, I.laid (t' := s.toks) (o := .frz { cls := .type "tuple", data := .seq us.toArray } (.tup xs)) (fun b u h => Heap.get?_push_of_some _ h) (Nat.le_refl _) ⟨e, z, us, r, IsTup.new _ _⟩, rfl, q _ _ (I.hok.fresh (Nat.le_refl _)) rfl⟩
theorem pe_tupF {X : Cx} {es : List Expr} {t : TA} {pos : Pos} {k0 : Nat} (h : PA X es t) : PE X (.Tuple es k0 pos) (tTupF t) := ⟨fun pins s σ H Q I hq =>
  wpAny_Tuple_spliced (thn (h.run pos pins s σ H _ I hq) fun us s1 ⟨xs, H1, I1, r, z, q⟩ => ⟨by rw [← r.length]; exact z, laidF I1 z r q⟩)⟩
/-- tuple(xs), tuple(t) -/
def rTupF (K : PySem.W.Frag) : List V → Hp → VK → Prop := fun xs H Q => ∃ p ys, xs = [.ref p] ∧ ((SqL K H p ys ∧ ∀ l o, H l = none → o.dict = none → Q (.ref l) (upd H l (.frz o (.tup ys)))) ∨ (SqT K H p ys ∧ Q (.ref p) H))
theorem call_tupF {X : Cx} : CallR X (.type "tuple") (rTupF X.K) := by
  intro pins s σ H xs us Q I r h
  obtain ⟨p, ys, rfl, h⟩ := h
  obtain ⟨u, rfl, rx⟩ := vals1 r
  cases rx
  rcases h with ⟨hq, q⟩ | ⟨hq, q⟩
  · obtain ⟨its, r', pl, hz⟩ := I.list hq
    have hn := r'.length
    refine call_tuple_list pl.isList (fun h' kp => ?_) (by simp only [List.size_toArray]; omega)
    exact laidF (s := { s with heap := h' }) (I.kept (t' := s.toks) kp) hz r' q
  · obtain ⟨its, r', pl, _⟩ := I.tuple hq
    exact call_tuple_same pl ⟨.ref p, H, I, rfl, q⟩
/-- t + u -/
def rCatF (K : PySem.W.Frag) : R2 := fun x y H Q => ∃ a b xs ys, x = .ref a ∧ y = .ref b ∧ SqT K H a xs ∧ SqT K H b ys ∧ xs.length + ys.length ≤ sizeLine ∧
  (xs = [] → Q (.ref b) H) ∧ (ys = [] → Q (.ref a) H) ∧ ∀ p o, H p = none → o.dict = none → Q (.ref p) (upd H p (.frz o (.tup (xs ++ ys))))
theorem op_catF {X : Cx} : OpR X (binaryOp .Add) (rCatF X.K) := by
  intro pins s σ H x y v u Q I rx ry h
  obtain ⟨a, b, xs, ys, rfl, rfl, ha, hb, hz, q0, q1, q2⟩ := h
  cases rx
  cases ry
  obtain ⟨its, r1, p1, _⟩ := I.tuple ha
  obtain ⟨its2, r2, p2, _⟩ := I.tuple hb
  by_cases hx : xs = []
  · subst hx
    cases r1
    exact cat_tup0 p1 p2 ⟨.ref b, H, I, rfl, q0 rfl⟩
  · refine HT.cat_tup p1 p2 (fun z => hx (r1.nil_iff.mp z)) (fun z => ⟨.ref a, H, I, rfl, q1 (r2.nil_iff.mp z)⟩) (fun _ => ?_) (by rw [← r1.length, ← r2.length]; exact hz)
    exact laidF I (by rw [List.length_append]; exact hz) (r1.append r2) q2
/-- t[lo:hi] -/
def rSlF (K : PySem.W.Frag) : V → Option Int → Option Int → Hp → VK → Prop := fun x lo hi H Q => ∃ a xs, x = .ref a ∧ SqT K H a xs ∧
  (HT.sIx xs.length 0 lo = 0 ∧ HT.sIx xs.length xs.length hi = xs.length → Q (.ref a) H) ∧ ∀ p o, H p = none → o.dict = none → Q (.ref p) (upd H p (.frz o (.tup (cutV xs lo hi))))
theorem sl_tupF {X : Cx} : SlR X (rSlF X.K) := by
  intro pins s σ H x v vl vu lo hi sl Q I rx hs pl pu h
  obtain ⟨a, xs, rfl, hx, q1, q2⟩ := h
  cases rx
  obtain ⟨its, r, ht, hz⟩ := I.tuple hx
  have hn : its.toArray.size = xs.length := by rw [List.size_toArray]; exact r.length.symm
  refine ⟨"tuple", _, PyProof.Rows.slot_tuple_getitem.lookup, ht.typeIs, ?_⟩
  by_cases hw : HT.sIx xs.length 0 lo = 0 ∧ HT.sIx xs.length xs.length hi = xs.length
  · exact getItem_tuple_whole ht hs pl pu (by rw [hn]; exact hw) ⟨.ref a, H, I, rfl, q1 hw⟩
  · refine HT.getItem_tuple_cut ht hs pl pu (by rw [hn]; exact hw) ?_ (by rw [hn]; exact hz)
    rw [hn]
    exact laidF I (Nat.le_trans (cutV_length xs lo hi) hz) ((r.drop _).take _) q2

section
variable {X : Cx} {c : Cc} {ρ : En} {δ : List Int} {Z Z' : ZE} {pos : Pos} {e : Expr} {es : List Expr}
theorem ee_imp (h : EE X c e ρ δ Z) (k : ∀ a δ', Z a δ' → Z' a δ') : EE X c e ρ δ Z' := PE.le h fun σ H Q ⟨ps, g, q⟩ => ⟨ps, g, fun v a δ' H' hz => q v a δ' H' (k a δ' hz)⟩
theorem et_imp {Z Z' : Bool → List Int → Prop} (h : ET X c e ρ δ Z) (k : ∀ a δ', Z a δ' → Z' a δ') : ET X c e ρ δ Z' := PT.le h fun σ H Q ⟨ps, g, q⟩ => ⟨ps, g, fun v δ' H' hz => q v δ' H' (k _ δ' hz)⟩
theorem ea_imp {Z Z' : List Arg → List Int → Prop} (h : EA X c es ρ δ Z) (k : ∀ a δ', a.length = es.length → Z a δ' → Z' a δ') : EA X c es ρ δ Z' := PA.le h fun σ H Q ⟨ps, g, q⟩ => ⟨ps, g, fun v a δ' H' hl hz => q v a δ' H' hl (k a δ' hl hz)⟩

/-! ### names, constants -/
theorem ee_var {x : Str} (i : Nat) {a : Arg} (hr : ρ[i]? = some (some a)) (hz : Z a δ) (hN : X.N[i]? = some x := by rfl) (hv : Vis X.env.scope x := by first | exact Or.inl rfl | exact Or.inr (Or.inl rfl) | exact Or.inr (Or.inr rfl))
    (hd : (x == ("__debug__" : Str)) = false := by decide) (hcd : (x == ("__classdict__" : Str)) = false := by decide) : EE X c (.Name x pos) ρ δ Z :=
  PE.le (pe_var hN hv hd hcd) fun σ H Q ⟨ps, g, k⟩ => by
    obtain ⟨v, h1, h2, _⟩ := g.sl i _ hr
    exact ⟨v, h1, k v a δ H hz g.refl h2⟩
theorem ee_int {i : Int} {j : Nat} (hz : Z (.v (.d (.int i))) δ) : EE X c (.Constant (.int i) j pos) ρ δ Z :=
  PE.le pe_int fun σ H Q ⟨ps, g, k⟩ => k _ _ δ H hz g.refl (show Rp _ _ _ _ from .int i)
theorem ee_str {x : Str} {j : Nat} (hz : Z (.v (.d (.str x))) δ) : EE X c (.Constant (.str x) j pos) ρ δ Z :=
  PE.le pe_str fun σ H Q ⟨ps, g, k⟩ => k _ _ δ H hz g.refl (show Rp _ _ _ _ from .str x)
theorem ee_bl {x : Bool} {j : Nat} (hz : Z (.v (.d (.bool x))) δ) : EE X c (.Constant (.bool x) j pos) ρ δ Z :=
  PE.le pe_bl fun σ H Q ⟨ps, g, k⟩ => k _ _ δ H hz g.refl (show Rp _ _ _ _ from .bl x)
theorem ee_non {j : Nat} (hz : Z (.v (.d .none)) δ) : EE X c (.Constant .none j pos) ρ δ Z :=
  PE.le pe_non fun σ H Q ⟨ps, g, k⟩ => k _ _ δ H hz g.refl (show Rp _ _ _ _ from .non)

/-! ### several -/
theorem ea_nil {Z : List Arg → List Int → Prop} (hz : Z [] δ) : EA X c [] ρ δ Z :=
  PA.le pa_nil fun σ H Q ⟨ps, g, k⟩ => k [] [] δ H rfl hz g.refl .nil
theorem ea_cons {Z : List Arg → List Int → Prop} (h : EE X c e ρ δ fun a δ1 => EA X c es ρ δ1 fun as δ2 => Z (a :: as) δ2) (hs : starEach (e :: es) X.env = (false, eval e X.env) :: starEach es X.env := by rfl) : EA X c (e :: es) ρ δ Z :=
  PA.le (pa_cons h pa_any hs) fun σ H Q ⟨ps, g, k⟩ => ⟨ps, g, fun v a δ1 H1 h1 x1 r1 => ⟨_, h1, ps, g.ext x1, fun vs as δ2 H2 hl hz x2 r2 =>
    k (v :: vs) (a :: as) δ2 H2 (congrArg (· + 1) hl) hz (x1.trans x2) (.cons ((g.ext x1).repA x2 r1) r2)⟩⟩
/-- all plain data -/
@[reducible] def onDs : List Arg → (List PyData → Prop) → Prop
  | [], f => f []
  | a :: as, f => onD a fun d => onDs as fun ds => f (d :: ds)
theorem onDs_elim {B : Bx} {pd : Option Addr} {G H : Hp} : ∀ {as : List Arg} {vs : List V} {f : List PyData → Prop}, onDs as f → Paired (RepA B pd G H) vs as → ∃ ds, f ds ∧ RpAll B.K G vs ds ∧ ds.length = as.length
  | [], _, f, h, .nil => ⟨[], h, .nil, rfl⟩
  | a :: as, v :: vs, f, h, .cons r t => by
    revert r
    refine onD_elim (P := fun a => RepA B pd G H v a → _) h fun d hd r => ?_
    obtain ⟨ds, h1, h2, h3⟩ := onDs_elim hd t
    exact ⟨d :: ds, h1, .cons r h2, congrArg (· + 1) h3⟩
theorem ee_tup {k0 : Nat} (h : EA X c es ρ δ fun as δ1 => onDs as fun ds => Z (.v (.d (.tuple ds))) δ1) (hl : es.length ≤ 15 := by decide) : EE X c (.Tuple es k0 pos) ρ δ Z :=
  PE.le (pe_tupF h) fun σ H Q ⟨ps, g, k⟩ => ⟨ps, g, fun vs as δ1 H1 hn hz x1 r1 => by
    obtain ⟨ds, hz, r, hd⟩ := onDs_elim hz r1
    have hlen := dpAll_len r
    refine ⟨by rw [hlen, hd, hn, sizeLine_eq]; omega, fun p o hp ho => ?_⟩
    have g1 := g.ext x1
    have x2 := Xt.upd (o := .frz o (.tup vs)) g1 hp
    refine k _ _ δ1 _ hz (x1.trans x2) (show Rp _ _ _ _ from .tup (o := o) ?_ ho (dpAll_mono (g1.same x2) r))
    rw [cut_out (g1.fresh hp), upd_same]⟩
/-- a list that is made here -/
theorem en_lst (h : EA X c es ρ δ fun as δ1 => onDs as fun ds => Z (.v (.d (.list ds))) δ1) (hl : es.length ≤ 15 := by decide) : EN X c (.List es pos) ρ δ (fun x δ1 => Z (.v x) δ1) :=
  PE.le (pe_lst h) fun σ H Q ⟨ps, g, k⟩ => ⟨ps, g, fun vs as δ1 H1 hn hz x1 r1 => by
    obtain ⟨ds, hz, r, hd⟩ := onDs_elim hz r1
    have hlen := dpAll_len r
    refine ⟨by rw [hlen, hd, hn, sizeLine_eq]; omega, fun p hp => ?_⟩
    have g1 := g.ext x1
    have x2 := Xt.upd (o := .lst vs) g1 hp
    have h0 : H p = none := by
      cases q : H p with
      | none => rfl
      | some o => exact absurd hp (x1.there (by rw [q]; exact fun z => nomatch z))
    refine k p (.d (.list ds)) δ1 _ hz h0 (x1.trans x2) ⟨vs, upd_same, dpAll_mono (cut_same (fun a o n q => x2.1 a o (g1.pdIn n) q) fun a q => ?_) r⟩
    rcases List.mem_append.mp q with q | q
    · exact .inl (List.mem_append_left _ q)
    · rcases List.mem_cons.mp q with q | q
      · subst q; exact .inr hp
      · exact .inl (List.mem_append_right _ q)⟩
/-- what is new is frozen at once -/
theorem ee_new (h : EN X c e ρ δ fun x δ1 => mayFrz x = true ∧ Z (.v x) δ1) : EE X c e ρ δ Z :=
  PE.le h fun σ H Q ⟨ps, g, k⟩ => ⟨ps, g, fun p x δ1 H1 hz h0 x1 o => by
    refine k (.ref p) (.v x) δ1 H1 hz.2 x1 (own_rep (cut_same (fun a o _ q => q) fun a q => .inl ?_) ?_ hz.1 o)
    · rcases List.mem_append.mp q with q | q
      · exact List.mem_append_left _ q
      · exact List.mem_append_right _ (List.mem_cons_of_mem _ q)
    · rw [cut_out (g.fresh h0)]⟩

/-! ### two values -/
/-- a rule about two values, over data -/
def OpD (B : Bx) (r : R2) (δ : List Int) (a1 a2 : Arg) (Zo : Wd → Prop) : Prop := ∀ x y H E pd Q, Hk pd δ E H → RepA B pd (cut H E) H x a1 → RepA B pd (cut H E) H y a2 →
  (∀ v w H', Same H H' → Zo w → RepW B (cut H' E) v w → Q v H') → r x y H Q
variable {a b : Expr} {r : R2}
theorem opd_le {ta : TE} (ha : PE X a ta) (h1 : ∀ σ H Q, tE (bx X) c ρ δ (fun a1 δ1 => EE X c b ρ δ1 fun a2 δ2 => OpD (bx X) r δ2 a1 a2 fun w => Z (.v w) δ2) σ H Q → ta σ H Q) :
    ∀ σ H Q, tE (bx X) c ρ δ Z σ H Q → tOp r ta (aE X b) σ H Q := fun σ H Q ⟨ps, g, k⟩ =>
  h1 σ H _ ⟨ps, g, fun x a1 δ1 H1 hb x1 r1 => ⟨_, hb, ps, g.ext x1, fun y a2 δ2 H2 ho x2 r2 => by
    have g2 := (g.ext x1).ext x2
    exact ho x y H2 (c.xs ++ ps) c.pd Q g2.hk ((g.ext x1).repA x2 r1) r2 fun v w H' sm hz rr => k v (.v w) δ2 H' hz ((x1.trans x2).trans (Xt.same g2 sm)) rr⟩⟩
theorem ee_op {op : Operator} (ho : OpR X (binaryOp op) r) (h : EE X c a ρ δ fun a1 δ1 => EE X c b ρ δ1 fun a2 δ2 => OpD (bx X) r δ2 a1 a2 fun w => Z (.v w) δ2) : EE X c (.BinOp a op b pos) ρ δ Z :=
  PE.le (pe_op ho h pe_any) (opd_le h fun _ _ _ q => q)
theorem ee_cmp {op : CmpOp} (ho : OpR X (compareOp op) r) (hm : behindInMarks op b = false) (h : EE X c a ρ δ fun a1 δ1 => EE X c b ρ δ1 fun a2 δ2 => OpD (bx X) r δ2 a1 a2 fun w => Z (.v w) δ2) : EE X c (.Compare a [op] [b] pos) ρ δ Z :=
  PE.le (pe_cmpR ho h pe_any hm) (opd_le h fun _ _ _ q => q)
@[reducible] def onWB (w : Wd) (f : Bool → Prop) : Prop := match w with | .d (.bool b) => f b | _ => False
theorem onWB_elim {w : Wd} {f : Bool → Prop} {P : Wd → Prop} (h : onWB w f) (k : ∀ x, f x → P (.d (.bool x))) : P w := by
  cases w with
  | d x => cases x with
    | bool i => exact k i h
    | _ => exact h.elim
  | _ => exact h.elim
theorem et_cmp {op : CmpOp} {Z : Bool → List Int → Prop} (ho : OpR X (compareOp op) r) (hm : behindInMarks op b = false)
    (h : EE X c a ρ δ fun a1 δ1 => EE X c b ρ δ1 fun a2 δ2 => OpD (bx X) r δ2 a1 a2 fun w => onWB w fun k => Z k δ2) : ET X c (.Compare a [op] [b] pos) ρ δ Z :=
  PT.le (pt_cmpR ho h pe_any hm) fun σ H Q ⟨ps, g, k⟩ => opd_le (Z := fun a δ2 => onB a fun k => Z k δ2) (ha := h) (by
      intro σ H Q q
      obtain ⟨ps, g, k⟩ := q
      refine ⟨ps, g, fun v a1 δ1 H1 hb => k v a1 δ1 H1 (ee_imp hb fun a2 δ2 ho => ?_)⟩
      intro x y H E pd Q hk r1 r2 q
      exact ho x y H E pd Q hk r1 r2 fun v w H' sm hz rr => q v w H' sm (onWB_elim (P := fun w => onB (.v w) fun k => Z k δ2) hz fun k hk => hk) rr) σ H _
    ⟨ps, g, fun v a1 δ1 H1 hz x1 r1 => by
      revert r1
      refine onB_elim (P := fun a1 => RepA (bx X) c.pd (cut H1 (c.xs ++ ps)) H1 v a1 → _) hz fun kk hk r1 => ?_
      exact ⟨kk, rep_bool r1, k kk δ1 H1 hk x1⟩⟩
/-! ### tests -/
theorem et_val {Z : Bool → List Int → Prop} (h : EE X c e ρ δ fun a δ1 => onB a fun k => Z k δ1) (he : ∀ whole, isTrue e X.env whole = (do let v ← whole; standAt e.pos; holding [v] (truthy v)) := by intro _; rfl) : ET X c e ρ δ Z :=
  PT.le (pt_val h he) fun σ H Q ⟨ps, g, k⟩ => ⟨ps, g, fun v a1 δ1 H1 hz x1 r1 => by
      revert r1
      refine onB_elim (P := fun a1 => RepA (bx X) c.pd (cut H1 (c.xs ++ ps)) H1 v a1 → _) hz fun kk hk r1 => ?_
      exact ⟨kk, rep_bool r1, k kk δ1 H1 hk x1⟩⟩
theorem ew_and1 {Z : Bool → List Int → Prop} (h : ET X c a ρ δ Z) : EW X c (.BoolOp .And [a] pos) ρ δ Z := pw_and1 h
theorem ew_and {rest : List Expr} {Z : Bool → List Int → Prop} (h : ET X c a ρ δ fun k δ1 => if k = true then EW X c (.BoolOp .And (b :: rest) pos) ρ δ1 Z else Z false δ1) : EW X c (.BoolOp .And (a :: b :: rest) pos) ρ δ Z :=
  PW.le (pw_and h pw_any) fun σ H Q ⟨ps, g, k⟩ => ⟨ps, g, fun kk δ1 H1 hz x1 => by
    cases kk with
    | true => exact ⟨_, hz, ps, g.ext x1, fun k2 δ2 H2 hz2 x2 => k k2 δ2 H2 hz2 (x1.trans x2)⟩
    | false => exact k false δ1 H1 hz x1⟩
theorem ew_or1 {Z : Bool → List Int → Prop} (h : ET X c a ρ δ Z) : EW X c (.BoolOp .Or [a] pos) ρ δ Z := pw_or1 h
theorem ew_or {rest : List Expr} {Z : Bool → List Int → Prop} (h : ET X c a ρ δ fun k δ1 => if k = true then Z true δ1 else EW X c (.BoolOp .Or (b :: rest) pos) ρ δ1 Z) : EW X c (.BoolOp .Or (a :: b :: rest) pos) ρ δ Z :=
  PW.le (pw_or h pw_any) fun σ H Q ⟨ps, g, k⟩ => ⟨ps, g, fun kk δ1 H1 hz x1 => by
    cases kk with
    | false => exact ⟨_, hz, ps, g.ext x1, fun k2 δ2 H2 hz2 x2 => k k2 δ2 H2 hz2 (x1.trans x2)⟩
    | true => exact k true δ1 H1 hz x1⟩
theorem et_w {Z : Bool → List Int → Prop} (h : EW X c e ρ δ Z) : ET X c e ρ δ Z := PW.pt h
theorem et_not {Z : Bool → List Int → Prop} (h : ET X c e ρ δ fun k δ1 => Z (!k) δ1) : ET X c (.UnaryOp .Not e pos) ρ δ Z :=
  PT.le (pt_not h) fun σ H Q ⟨ps, g, k⟩ => ⟨ps, g, fun kk δ1 H1 hz x1 => k (!kk) δ1 H1 hz x1⟩
theorem ee_if {t : Expr} (h : ET X c t ρ δ fun k δ1 => if k = true then EE X c a ρ δ1 Z else EE X c b ρ δ1 Z) : EE X c (.IfExp t a b pos) ρ δ Z :=
  PE.le (pe_ifExp h pe_any pe_any) fun σ H Q ⟨ps, g, k⟩ => ⟨ps, g, fun kk δ1 H1 hz x1 => by
    cases kk with
    | true => exact ⟨_, hz, ps, g.ext x1, fun v a δ2 H2 hz2 x2 => k v a δ2 H2 hz2 (x1.trans x2)⟩
    | false => exact ⟨_, hz, ps, g.ext x1, fun v a δ2 H2 hz2 x2 => k v a δ2 H2 hz2 (x1.trans x2)⟩⟩
theorem et_isN {j : Nat} {pos' : Pos} {Z : Bool → List Int → Prop} (h : EE X c a ρ δ fun a1 δ1 => Z (isNone a1) δ1) : ET X c (.Compare a [.Is] [.Constant .none j pos'] pos) ρ δ Z :=
  PT.le (pt_cmp (pc_isN h)) fun σ H Q ⟨ps, g, k⟩ => ⟨ps, g, fun v a1 δ1 H1 hz x1 r1 => ⟨_, rfl, by
    refine k _ δ1 H1 ?_ x1
    have e : (decide (v = .non)) = (isNone a1) := by
      cases a1 with
      | v x => cases x with
        | d x =>
          have r1' : Rp (bx X).K _ v x := r1
          cases r1' <;> simp [isNone]
        | dk _ => obtain ⟨p, _, rfl, _⟩ := r1; simp [isNone]
        | dn _ => obtain ⟨p, _, _, rfl, _⟩ := r1; simp [isNone]
        | ldk _ => obtain ⟨p, _, rfl, _⟩ := r1; simp [isNone]
        | opq => obtain ⟨p, rfl⟩ := r1; simp [isNone]
        | fl _ => obtain ⟨p, _, rfl, _⟩ := r1; simp [isNone]
      | ow x => obtain ⟨p, rfl, _⟩ := r1; simp [isNone]
      | dr => obtain ⟨p, rfl, _⟩ := r1; simp [isNone]
    rw [e]; exact hz⟩⟩
theorem et_notN {j : Nat} {pos' : Pos} {Z : Bool → List Int → Prop} (h : EE X c a ρ δ fun a1 δ1 => Z (!isNone a1) δ1) : ET X c (.Compare a [.IsNot] [.Constant .none j pos'] pos) ρ δ Z :=
  PT.le (pt_cmp (pc_notN h)) fun σ H Q ⟨ps, g, k⟩ => ⟨ps, g, fun v a1 δ1 H1 hz x1 r1 => ⟨_, rfl, by
    refine k _ δ1 H1 ?_ x1
    have e : (!decide (v = .non)) = (!isNone a1) := by
      cases a1 with
      | v x => cases x with
        | d x =>
          have r1' : Rp (bx X).K _ v x := r1
          cases r1' <;> simp [isNone]
        | dk _ => obtain ⟨p, _, rfl, _⟩ := r1; simp [isNone]
        | dn _ => obtain ⟨p, _, _, rfl, _⟩ := r1; simp [isNone]
        | ldk _ => obtain ⟨p, _, rfl, _⟩ := r1; simp [isNone]
        | opq => obtain ⟨p, rfl⟩ := r1; simp [isNone]
        | fl _ => obtain ⟨p, _, rfl, _⟩ := r1; simp [isNone]
      | ow x => obtain ⟨p, rfl, _⟩ := r1; simp [isNone]
      | dr => obtain ⟨p, rfl, _⟩ := r1; simp [isNone]
    rw [e]; exact hz⟩⟩
end
end Dl
/-! part dl2 -/
set_option Elab.async false
set_option linter.all false
set_option maxRecDepth 100000
set_option maxHeartbeats 4000000
set_option autoImplicit false
/-! Dl2: operators, subscripts, slices, built-ins, over data. -/
namespace Dl
open PySem PySem.Spec PyProof.Rows L2

/-! ### whole numbers -/
section
variable {B : Bx} {δ : List Int} {Zo : Wd → Prop}
theorem opd_I0 {g : Int → Int → V} {h : Int → Int → PyData} (hg : ∀ i j K H, Rp K H (g i j) (h i j)) {i j : Int} (z : Zo (.d (h i j))) : OpD B (rI0 g) δ (.v (.d (.int i))) (.v (.d (.int j))) Zo :=
  fun x y H E pd Q hk r1 r2 q => ⟨i, j, rep_int r1, rep_int r2, q _ (.d (h i j)) H (Same.refl H) z (hg i j _ _)⟩
theorem opd_I {Cn : Int → Int → Prop} {g : Int → Int → V} {h : Int → Int → PyData} (hg : ∀ i j K H, Rp K H (g i j) (h i j)) {i j : Int} (hc : Cn i j) (z : Zo (.d (h i j))) : OpD B (rI Cn g) δ (.v (.d (.int i))) (.v (.d (.int j))) Zo :=
  fun x y H E pd Q hk r1 r2 q => ⟨i, j, rep_int r1, rep_int r2, hc, q _ (.d (h i j)) H (Same.refl H) z (hg i j _ _)⟩
end
section
variable {X : Cx} {c : Cc} {ρ : En} {δ : List Int} {Z : ZE} {pos : Pos} {a b e : Expr} {es : List Expr}
/-- two values by a rule, told in steps -/
theorem opd_steps {r : R2} {Zw : Wd → List Int → Prop} {k1 : Arg → (Arg → List Int → Prop) → List Int → Prop}
    (h : EE X c a ρ δ fun a1 δ1 => EE X c b ρ δ1 fun a2 δ2 => OpD (bx X) r δ2 a1 a2 fun w => Zw w δ2) : EE X c a ρ δ fun a1 δ1 => EE X c b ρ δ1 fun a2 δ2 => OpD (bx X) r δ2 a1 a2 fun w => Zw w δ2 := h
theorem two_I {r : R2} {Zw : Wd → List Int → Prop} {F : Int → Int → List Int → Prop} (h : EE X c a ρ δ fun a1 δ1 => onI a1 fun i => EE X c b ρ δ1 fun a2 δ2 => onI a2 fun j => F i j δ2)
    (k : ∀ i j δ2, F i j δ2 → OpD (bx X) r δ2 (.v (.d (.int i))) (.v (.d (.int j))) fun w => Zw w δ2) : EE X c a ρ δ fun a1 δ1 => EE X c b ρ δ1 fun a2 δ2 => OpD (bx X) r δ2 a1 a2 fun w => Zw w δ2 :=
  ee_imp h fun a1 δ1 h1 => onI_elim (P := fun a1 => EE X c b ρ δ1 fun a2 δ2 => OpD (bx X) r δ2 a1 a2 fun w => Zw w δ2) h1 fun i hi => ee_imp hi fun a2 δ2 h2 =>
    onI_elim (P := fun a2 => OpD (bx X) r δ2 (.v (.d (.int i))) a2 fun w => Zw w δ2) h2 fun j hj => k i j δ2 hj
theorem ee_add (h : EE X c a ρ δ fun a1 δ1 => onI a1 fun i => EE X c b ρ δ1 fun a2 δ2 => onI a2 fun j => Z (.v (.d (.int (i + j)))) δ2) : EE X c (.BinOp a .Add b pos) ρ δ Z :=
  ee_op op_add (two_I (Zw := fun w δ2 => Z (.v w) δ2) h fun i j δ2 z => opd_I0 (h := fun i j => .int (i + j)) (fun _ _ _ _ => .int _) z)
theorem ee_sub (h : EE X c a ρ δ fun a1 δ1 => onI a1 fun i => EE X c b ρ δ1 fun a2 δ2 => onI a2 fun j => Z (.v (.d (.int (i - j)))) δ2) : EE X c (.BinOp a .Sub b pos) ρ δ Z :=
  ee_op op_sub (two_I (Zw := fun w δ2 => Z (.v w) δ2) h fun i j δ2 z => opd_I0 (h := fun i j => .int (i - j)) (fun _ _ _ _ => .int _) z)
theorem ee_mul (h : EE X c a ρ δ fun a1 δ1 => onI a1 fun i => EE X c b ρ δ1 fun a2 δ2 => onI a2 fun j => CMul i j ∧ Z (.v (.d (.int (i * j)))) δ2) : EE X c (.BinOp a .Mult b pos) ρ δ Z :=
  ee_op op_mul (two_I (Zw := fun w δ2 => Z (.v w) δ2) h fun i j δ2 z => opd_I (h := fun i j => .int (i * j)) (fun _ _ _ _ => .int _) z.1 z.2)
theorem ee_mod (h : EE X c a ρ δ fun a1 δ1 => onI a1 fun i => EE X c b ρ δ1 fun a2 δ2 => onI a2 fun j => 0 < j ∧ Z (.v (.d (.int (i % j)))) δ2) : EE X c (.BinOp a .Mod b pos) ρ δ Z :=
  ee_op op_mod (two_I (Zw := fun w δ2 => Z (.v w) δ2) h fun i j δ2 z => opd_I (h := fun i j => .int (i % j)) (fun _ _ _ _ => .int _) z.1 z.2)
theorem ee_fdiv (h : EE X c a ρ δ fun a1 δ1 => onI a1 fun i => EE X c b ρ δ1 fun a2 δ2 => onI a2 fun j => CDiv i j ∧ Z (.v (.d (.int (i / j)))) δ2) : EE X c (.BinOp a .FloorDiv b pos) ρ δ Z :=
  ee_op op_fdiv (two_I (Zw := fun w δ2 => Z (.v w) δ2) h fun i j δ2 z => opd_I (h := fun i j => .int (i / j)) (fun _ _ _ _ => .int _) z.1 z.2)
theorem ee_pow (h : EE X c a ρ δ fun a1 δ1 => onI a1 fun i => EE X c b ρ δ1 fun a2 δ2 => onI a2 fun j => CPow i j ∧ Z (.v (.d (.int (i ^ j.toNat)))) δ2) : EE X c (.BinOp a .Pow b pos) ρ δ Z :=
  ee_op op_pow (two_I (Zw := fun w δ2 => Z (.v w) δ2) h fun i j δ2 z => opd_I (h := fun i j => .int (i ^ j.toNat)) (fun _ _ _ _ => .int _) z.1 z.2)
theorem ee_neg (h : EE X c a ρ δ fun a1 δ1 => onI a1 fun i => Z (.v (.d (.int (-i)))) δ1) : EE X c (.UnaryOp .USub a pos) ρ δ Z :=
  PE.le (pe_un un_neg h) fun σ H Q ⟨ps, g, k⟩ => ⟨ps, g, fun v a1 δ1 H1 hz x1 r1 => by
    revert r1
    refine onI_elim (P := fun a1 => RepA (bx X) c.pd (cut H1 (c.xs ++ ps)) H1 v a1 → _) hz fun i hi r1 => ?_
    exact ⟨i, rep_int r1, k _ _ δ1 H1 hi x1 (show Rp _ _ _ _ from .int _)⟩⟩
section
variable {Zt : Bool → List Int → Prop}
theorem et_I {op : CmpOp} {g : Int → Int → Bool} (ho : OpR X (compareOp op) (rI0 fun i j => .bl (g i j))) (hm : behindInMarks op b = false) (h : EE X c a ρ δ fun a1 δ1 => onI a1 fun i => EE X c b ρ δ1 fun a2 δ2 => onI a2 fun j => Zt (g i j) δ2) :
    ET X c (.Compare a [op] [b] pos) ρ δ Zt :=
  et_cmp ho hm (two_I (Zw := fun w δ2 => onWB w fun k => Zt k δ2) h fun i j δ2 z => opd_I0 (h := fun i j => .bool (g i j)) (fun _ _ _ _ => .bl _) z)
theorem et_lt (h : EE X c a ρ δ fun a1 δ1 => onI a1 fun i => EE X c b ρ δ1 fun a2 δ2 => onI a2 fun j => Zt (decide (i < j)) δ2) : ET X c (.Compare a [.Lt] [b] pos) ρ δ Zt := et_I op_lt (nomark _) h
theorem et_gt (h : EE X c a ρ δ fun a1 δ1 => onI a1 fun i => EE X c b ρ δ1 fun a2 δ2 => onI a2 fun j => Zt (decide (j < i)) δ2) : ET X c (.Compare a [.Gt] [b] pos) ρ δ Zt := et_I op_gt (nomark _) h
theorem et_ge (h : EE X c a ρ δ fun a1 δ1 => onI a1 fun i => EE X c b ρ δ1 fun a2 δ2 => onI a2 fun j => Zt (decide (j ≤ i)) δ2) : ET X c (.Compare a [.GtE] [b] pos) ρ δ Zt := et_I op_ge (nomark _) h
theorem ee_gt (h : EE X c a ρ δ fun a1 δ1 => onI a1 fun i => EE X c b ρ δ1 fun a2 δ2 => onI a2 fun j => Z (.v (.d (.bool (decide (j < i))))) δ2) : EE X c (.Compare a [.Gt] [b] pos) ρ δ Z :=
  ee_cmp op_gt (nomark _) (two_I (Zw := fun w δ2 => Z (.v w) δ2) h fun i j δ2 z => opd_I0 (h := fun i j => .bool (decide (j < i))) (fun _ _ _ _ => .bl _) z)
end

/-! ### == and in, over plain data -/
/-- data that == serves -/
def okD (d : PyData) : Prop := d.plain = true ∧ d.depth ≤ 40
theorem okD_int (i : Int) : okD (.int i) := ⟨rfl, by simp [PyData.depth]⟩
theorem okD_str (i : Str) : okD (.str i) := ⟨rfl, by simp [PyData.depth]⟩
theorem okD_none : okD .none := ⟨rfl, by simp [PyData.depth]⟩
def rEqP (K : PySem.W.Frag) (neg : Bool) : R2 := fun x y H Q => ∃ d e, Dp K H x d ∧ Dp K H y e ∧ okD d ∧ okD e ∧ Q (.bl (if neg = true then !PyData.eqv d e else PyData.eqv d e)) H
theorem room_eq {A : Around} {d e : PyData} (hu : A.units + 64 < cLine) (h : okD d) : A.units + min d.depth e.depth < cLine := by
  have h1 := h.2
  have h2 : min d.depth e.depth ≤ d.depth := Nat.min_le_left _ _
  omega
theorem op_eqP (hu : X.A.units + 64 < cLine) : OpR X (compareOp .Eq) (rEqP X.K false) := by
  intro pins s σ H x y v u Q I rx ry h
  obtain ⟨d, e, hd, he, o1, o2, q⟩ := h
  obtain ⟨_, r1⟩ := Dp.reads I d x v hd rx
  obtain ⟨_, r2⟩ := Dp.reads I e y u he ry
  exact SeqAt.eq_plain r1 r2 o1.1 o2.1 (room_eq hu o1) ⟨.bl _, H, I, rfl, q⟩
theorem op_neP (hu : X.A.units + 64 < cLine) : OpR X (compareOp .NotEq) (rEqP X.K true) := by
  intro pins s σ H x y v u Q I rx ry h
  obtain ⟨d, e, hd, he, o1, o2, q⟩ := h
  obtain ⟨_, r1⟩ := Dp.reads I d x v hd rx
  obtain ⟨_, r2⟩ := Dp.reads I e y u he ry
  exact SeqAt.ne_plain r1 r2 o1.1 o2.1 (room_eq hu o1) ⟨.bl _, H, I, rfl, q⟩
theorem two_D {r : R2} {Zw : Wd → List Int → Prop} {F : PyData → PyData → List Int → Prop} (h : EE X c a ρ δ fun a1 δ1 => onD a1 fun i => EE X c b ρ δ1 fun a2 δ2 => onD a2 fun j => F i j δ2)
    (k : ∀ i j δ2, F i j δ2 → OpD (bx X) r δ2 (.v (.d i)) (.v (.d j)) fun w => Zw w δ2) : EE X c a ρ δ fun a1 δ1 => EE X c b ρ δ1 fun a2 δ2 => OpD (bx X) r δ2 a1 a2 fun w => Zw w δ2 :=
  ee_imp h fun a1 δ1 h1 => onD_elim (P := fun a1 => EE X c b ρ δ1 fun a2 δ2 => OpD (bx X) r δ2 a1 a2 fun w => Zw w δ2) h1 fun i hi => ee_imp hi fun a2 δ2 h2 =>
    onD_elim (P := fun a2 => OpD (bx X) r δ2 (.v (.d i)) a2 fun w => Zw w δ2) h2 fun j hj => k i j δ2 hj
theorem dp_up {K : PySem.W.Frag} {H : Hp} {E : List Addr} {v : V} {d : PyData} (h : Rp K (cut H E) v d) : Dp K H v d := Rp.dp (dp_mono cut_le h)
theorem opd_eqP {B : Bx} {neg : Bool} {d e : PyData} {Zo : Wd → Prop} (h : okD d ∧ okD e ∧ Zo (.d (.bool (if neg = true then !PyData.eqv d e else PyData.eqv d e)))) : OpD B (rEqP B.K neg) δ (.v (.d d)) (.v (.d e)) Zo :=
  fun x y H E pd Q hk r1 r2 q => ⟨d, e, dp_up r1, dp_up r2, h.1, h.2.1, q _ _ H (Same.refl H) h.2.2 (show Rp _ _ _ _ from .bl _)⟩
section
variable {Zt : Bool → List Int → Prop} {kk : Nat}
theorem et_eq (hr : Room kk X.A) (h : EE X c a ρ δ fun a1 δ1 => onD a1 fun d => EE X c b ρ δ1 fun a2 δ2 => onD a2 fun e => okD d ∧ okD e ∧ Zt (PyData.eqv d e) δ2) : ET X c (.Compare a [.Eq] [b] pos) ρ δ Zt :=
  et_cmp (op_eqP hr.units) (nomark _) (two_D (Zw := fun w δ2 => onWB w fun k => Zt k δ2) h fun i j δ2 z => opd_eqP (neg := false) z)
theorem et_ne (hr : Room kk X.A) (h : EE X c a ρ δ fun a1 δ1 => onD a1 fun d => EE X c b ρ δ1 fun a2 δ2 => onD a2 fun e => okD d ∧ okD e ∧ Zt (!PyData.eqv d e) δ2) : ET X c (.Compare a [.NotEq] [b] pos) ρ δ Zt :=
  et_cmp (op_neP hr.units) (nomark _) (two_D (Zw := fun w δ2 => onWB w fun k => Zt k δ2) h fun i j δ2 z => opd_eqP (neg := true) z)
theorem ee_eq (hr : Room kk X.A) (h : EE X c a ρ δ fun a1 δ1 => onD a1 fun d => EE X c b ρ δ1 fun a2 δ2 => onD a2 fun e => okD d ∧ okD e ∧ Z (.v (.d (.bool (PyData.eqv d e)))) δ2) : EE X c (.Compare a [.Eq] [b] pos) ρ δ Z :=
  ee_cmp (op_eqP hr.units) (nomark _) (two_D (Zw := fun w δ2 => Z (.v w) δ2) h fun i j δ2 z => opd_eqP (neg := false) z)
end
/-- x in ys, x not in ys; ys a list (frozen or ours) or a tuple -/
def rInP (K : PySem.W.Frag) (neg : Bool) : R2 := fun x y H Q => ∃ d ds, Dp K H x d ∧ (Dp K H y (.list ds) ∨ Dp K H y (.tuple ds)) ∧ okD d ∧ PyData.plainAll ds = true ∧
  Q (.bl (if neg = true then !(ds.any fun z => PyData.eqv z d) else ds.any fun z => PyData.eqv z d)) H
theorem room_in {A : Around} {d : PyData} {n : Nat} (hu : A.units + 64 < cLine) (h : okD d) : A.units + 1 + min n d.depth < cLine := by
  have h1 := h.2
  have h2 : min n d.depth ≤ d.depth := Nat.min_le_right _ _
  omega
theorem op_inP (hu : X.A.units + 64 < cLine) : OpR X (compareOp .In) (rInP X.K false) := by
  intro pins s σ H x y v u Q I rx ry h
  obtain ⟨d, ds, hd, he, o1, o2, q⟩ := h
  obtain ⟨_, r1⟩ := Dp.reads I d x v hd rx
  rcases he with he | he
  · obtain ⟨_, r2⟩ := Dp.reads I _ y u he ry
    exact SeqAt.in_list_data r2 r1 o2 o1.1 (room_in hu o1) ⟨.bl _, H, I, rfl, q⟩
  · obtain ⟨_, r2⟩ := Dp.reads I _ y u he ry
    exact SeqAt.in_tuple_data r2 r1 o2 o1.1 (room_in hu o1) ⟨.bl _, H, I, rfl, q⟩
theorem op_notInP (hu : X.A.units + 64 < cLine) : OpR X (compareOp .NotIn) (rInP X.K true) := by
  intro pins s σ H x y v u Q I rx ry h
  obtain ⟨d, ds, hd, he, o1, o2, q⟩ := h
  obtain ⟨_, r1⟩ := Dp.reads I d x v hd rx
  rcases he with he | he
  · obtain ⟨_, r2⟩ := Dp.reads I _ y u he ry
    exact SeqAt.notIn_list_data r2 r1 o2 o1.1 (room_in hu o1) ⟨.bl _, H, I, rfl, q⟩
  · obtain ⟨_, r2⟩ := Dp.reads I _ y u he ry
    exact SeqAt.notIn_tuple_data r2 r1 o2 o1.1 (room_in hu o1) ⟨.bl _, H, I, rfl, q⟩
/-- what is read as a list or a tuple -/
theorem onQ_elim {a : Arg} {P : Arg → Prop} {f : List PyData → Prop} (h : onQ a f) (k : ∀ x, f x → P (.v (.d (.list x)))) (k2 : ∀ x, f x → P (.v (.d (.tuple x)))) (k3 : ∀ x, f x → P (.ow (.d (.list x)))) : P a := by
  cases a with
  | v x => cases x with
    | d x => cases x with
      | list i => exact k i h
      | tuple i => exact k2 i h
      | _ => exact h.elim
    | _ => exact h.elim
  | ow x => cases x with
    | d x => cases x with
      | list i => exact k3 i h
      | _ => exact h.elim
    | _ => exact h.elim
  | _ => exact h.elim
theorem rep_qd {B : Bx} {pd : Option Addr} {H : Hp} {E : List Addr} {v : V} {a : Arg} {f : List PyData → Prop} (h : onQ a f) (r : RepA B pd (cut H E) H v a) :
    ∃ ds, f ds ∧ ∃ p vs, v = .ref p ∧ (SqL B.K H p vs ∨ SqT B.K H p vs) ∧ RpAll B.K (cut H E) vs ds ∧ (Dp B.K H v (.list ds) ∨ Dp B.K H v (.tuple ds)) := by
  revert r
  refine onQ_elim (P := fun a => RepA B pd (cut H E) H v a → ∃ ds, f ds ∧ ∃ p vs, v = .ref p ∧ (SqL B.K H p vs ∨ SqT B.K H p vs) ∧ RpAll B.K (cut H E) vs ds ∧ (Dp B.K H v (.list ds) ∨ Dp B.K H v (.tuple ds))) h
    (fun ds hf r => ?_) (fun ds hf r => ?_) fun ds hf r => ?_
  · obtain ⟨p, vs, e, h1, h2⟩ := rep_lst r
    exact ⟨ds, hf, p, vs, e, .inl (sqL_up h1), h2, .inl (dp_up r)⟩
  · obtain ⟨p, o, vs, e, h1, _, h2⟩ := rep_tup r
    exact ⟨ds, hf, p, vs, e, .inr (.inl (.inr ⟨o, cut_le _ _ h1⟩)), h2, .inr (dp_up r)⟩
  · obtain ⟨p, e, _, vs, h1, h2⟩ := r
    subst e
    exact ⟨ds, hf, p, vs, rfl, .inl (.inl (.inl h1)), h2, .inl (.lst (.inl (.inl h1)) (RpAll.dp (dpAll_mono cut_le h2)))⟩
theorem opd_in {B : Bx} {neg : Bool} {d : PyData} {a2 : Arg} {Zo : Wd → Prop} (hd : okD d) (h : onQ a2 fun ds => PyData.plainAll ds = true ∧ Zo (.d (.bool (if neg = true then !(ds.any fun z => PyData.eqv z d) else ds.any fun z => PyData.eqv z d)))) :
    OpD B (rInP B.K neg) δ (.v (.d d)) a2 Zo := fun x y H E pd Q hk r1 r2 q => by
  obtain ⟨ds, ⟨h1, h2⟩, p, vs, e, _, _, hd2⟩ := rep_qd h r2
  exact ⟨d, ds, dp_up r1, hd2, hd, h1, q _ _ H (Same.refl H) h2 (show Rp _ _ _ _ from .bl _)⟩
section
variable {Zt : Bool → List Int → Prop} {kk : Nat}
theorem et_in (hr : Room kk X.A) (h : EE X c a ρ δ fun a1 δ1 => onD a1 fun d => okD d ∧ EE X c b ρ δ1 fun a2 δ2 => onQ a2 fun ds => PyData.plainAll ds = true ∧ Zt (ds.any fun z => PyData.eqv z d) δ2) (hm : behindInMarks .In b = false := by rfl) :
    ET X c (.Compare a [.In] [b] pos) ρ δ Zt :=
  et_cmp (op_inP hr.units) hm (ee_imp h fun a1 δ1 h1 => onD_elim (P := fun a1 => EE X c b ρ δ1 fun a2 δ2 => OpD (bx X) (rInP X.K false) δ2 a1 a2 fun w => onWB w fun k => Zt k δ2) h1 fun d hd => ee_imp hd.2 fun a2 δ2 h2 => opd_in (neg := false) hd.1 h2)
theorem et_notIn (hr : Room kk X.A) (h : EE X c a ρ δ fun a1 δ1 => onD a1 fun d => okD d ∧ EE X c b ρ δ1 fun a2 δ2 => onQ a2 fun ds => PyData.plainAll ds = true ∧ Zt (!(ds.any fun z => PyData.eqv z d)) δ2) (hm : behindInMarks .NotIn b = false := by rfl) :
    ET X c (.Compare a [.NotIn] [b] pos) ρ δ Zt :=
  et_cmp (op_notInP hr.units) hm (ee_imp h fun a1 δ1 h1 => onD_elim (P := fun a1 => EE X c b ρ δ1 fun a2 δ2 => OpD (bx X) (rInP X.K true) δ2 a1 a2 fun w => onWB w fun k => Zt k δ2) h1 fun d hd => ee_imp hd.2 fun a2 δ2 h2 => opd_in (neg := true) hd.1 h2)
end

/-! ### subscripts -/
theorem atI_rp {K : PySem.W.Frag} {H : Hp} {vs : List V} {ds : List PyData} {i : Int} {d : PyData} (h : RpAll K H vs ds) (e : atI ds i = some d) : ∃ v, atI vs i = some v ∧ Rp K H v d := by
  unfold atI at e ⊢
  rw [dpAll_len h]
  cases q : ixN ds.length i with
  | none => rw [q] at e; cases e
  | some j =>
    rw [q] at e
    exact dpAll_get h e
theorem ee_ix {r : R2} (ho : IxR X r) (h : EE X c a ρ δ fun a1 δ1 => EE X c b ρ δ1 fun a2 δ2 => OpD (bx X) r δ2 a1 a2 fun w => Z (.v w) δ2) (hs : PlainIx b := by exact fun _ _ => rfl) : EE X c (.Subscript a b pos) ρ δ Z :=
  PE.le (pe_ix ho h pe_any hs) (opd_le h fun _ _ _ q => q)
theorem ee_ixT (h : EE X c a ρ δ fun a1 δ1 => onT a1 fun ds => EE X c b ρ δ1 fun a2 δ2 => onI a2 fun i => ∃ d, atI ds i = some d ∧ Z (.v (.d d)) δ2) (hs : PlainIx b := by exact fun _ _ => rfl) : EE X c (.Subscript a b pos) ρ δ Z :=
  ee_ix ix_tup (hs := hs) (ee_imp h fun a1 δ1 h1 => onT_elim (P := fun a1 => EE X c b ρ δ1 fun a2 δ2 => OpD (bx X) (rIxT X.K) δ2 a1 a2 fun w => Z (.v w) δ2) h1 fun ds h2 => ee_imp h2 fun a2 δ2 h3 =>
    onI_elim (P := fun a2 => OpD (bx X) (rIxT X.K) δ2 (.v (.d (.tuple ds))) a2 fun w => Z (.v w) δ2) h3 fun i ⟨d, e, z⟩ => fun x y H E pd Q hk r1 r2 q => by
      obtain ⟨p, o, vs, e1, h1, _, h2⟩ := rep_tup r1
      obtain ⟨v, e2, rv⟩ := atI_rp h2 e
      exact ⟨p, vs, i, v, e1, rep_int r2, .inl (.inr ⟨o, cut_le _ _ h1⟩), e2, q v (.d d) H (Same.refl H) z rv⟩)
theorem ee_ixL (h : EE X c a ρ δ fun a1 δ1 => onR a1 fun ds => EE X c b ρ δ1 fun a2 δ2 => onI a2 fun i => ∃ d, atI ds i = some d ∧ Z (.v (.d d)) δ2) (hs : PlainIx b := by exact fun _ _ => rfl) : EE X c (.Subscript a b pos) ρ δ Z :=
  ee_ix ix_list (hs := hs) (ee_imp h fun a1 δ1 h1 => by
    have hb : EE X c b ρ δ1 fun a2 δ2 => onI a2 fun i => onR a1 fun ds => ∃ d, atI ds i = some d ∧ Z (.v (.d d)) δ2 := by
      refine onR_elim (P := fun a1 => EE X c b ρ δ1 fun a2 δ2 => onI a2 fun i => onR a1 fun ds => ∃ d, atI ds i = some d ∧ Z (.v (.d d)) δ2) h1 (fun ds h => h) fun ds h => h
    exact ee_imp hb fun a2 δ2 h3 => onI_elim (P := fun a2 => OpD (bx X) (rIxL X.K) δ2 a1 a2 fun w => Z (.v w) δ2) h3 fun i h4 => fun x y H E pd Q hk r1 r2 q => by
      obtain ⟨ds, ⟨d, e, z⟩, p, vs, e1, h1, h2⟩ := rep_rd h4 r1
      obtain ⟨v, e2, rv⟩ := atI_rp h2 e
      exact ⟨p, vs, i, v, e1, rep_int r2, h1, e2, q v (.d d) H (Same.refl H) z rv⟩)
theorem ee_ixS (h : EE X c a ρ δ fun a1 δ1 => onStr a1 fun z => EE X c b ρ δ1 fun a2 δ2 => onI a2 fun i => z.length ≤ sizeLine ∧ ∃ q, atI z.cps.toList i = some q ∧ Z (.v (.d (.str ⟨#[q]⟩))) δ2) (hs : PlainIx b := by exact fun _ _ => rfl) : EE X c (.Subscript a b pos) ρ δ Z :=
  ee_ix ix_str (hs := hs) (ee_imp h fun a1 δ1 h1 => onStr_elim (P := fun a1 => EE X c b ρ δ1 fun a2 δ2 => OpD (bx X) rIxS δ2 a1 a2 fun w => Z (.v w) δ2) h1 fun z h2 => ee_imp h2 fun a2 δ2 h3 =>
    onI_elim (P := fun a2 => OpD (bx X) rIxS δ2 (.v (.d (.str z))) a2 fun w => Z (.v w) δ2) h3 fun i ⟨hl, d, e, zz⟩ => fun x y H E pd Q hk r1 r2 q =>
      ⟨z, i, d, rep_str r1, rep_int r2, hl, e, q _ _ H (Same.refl H) zz (show Rp _ _ _ _ from .str _)⟩)

/-! ### slices -/
theorem cutV_rp {K : PySem.W.Frag} {H : Hp} {vs : List V} {ds : List PyData} (h : RpAll K H vs ds) (lo hi : Option Int) :
    RpAll K H (cutV vs lo hi) ((ds.drop (HT.sIx ds.length 0 lo)).take (HT.sIx ds.length ds.length hi - HT.sIx ds.length 0 lo)) := by
  unfold cutV
  rw [dpAll_len h]
  exact dpAll_take _ (dpAll_drop _ h)
theorem cutD_to (ds : List PyData) (n : Nat) : (ds.drop (HT.sIx ds.length 0 none)).take (HT.sIx ds.length ds.length (some (n : Int)) - HT.sIx ds.length 0 none) = ds.take n := by
  rw [HT.sIx_none, HT.sIx_nat, List.drop_zero, Nat.sub_zero]
  by_cases h : n ≤ ds.length
  · rw [Nat.min_eq_left h]
  · rw [Nat.min_eq_right (by omega), List.take_length, List.take_of_length_le (by omega)]
theorem cutD_from (ds : List PyData) (n : Nat) : (ds.drop (HT.sIx ds.length 0 (some (n : Int)))).take (HT.sIx ds.length ds.length none - HT.sIx ds.length 0 (some (n : Int))) = ds.drop n := by
  rw [HT.sIx_none, HT.sIx_nat]
  by_cases h : n ≤ ds.length
  · rw [Nat.min_eq_left h, List.take_of_length_le (by rw [List.length_drop]; omega)]
  · rw [Nat.min_eq_right (by omega), List.drop_eq_nil_of_le (Nat.le_refl _), List.drop_eq_nil_of_le (by omega), List.take_nil]
variable {p2 : Pos}
/-- t[:n], t a tuple -/
theorem ee_slT_to (h : EE X c a ρ δ fun a1 δ1 => onT a1 fun ds => EE X c b ρ δ1 fun a2 δ2 => onI a2 fun i => ∃ n : Nat, i = (n : Int) ∧ Z (.v (.d (.tuple (ds.take n)))) δ2) : EE X c (.Subscript a (.Slice none (some b) none p2) pos) ρ δ Z :=
  PE.le (pe_slice sl_tupF h po_none (po_some pe_any)) fun σ H Q ⟨ps, g, k⟩ => ⟨ps, g, fun v a1 δ1 H1 hz x1 r1 => by
    revert r1
    refine onT_elim (P := fun a1 => RepA (bx X) c.pd (cut H1 (c.xs ++ ps)) H1 v a1 → _) hz fun ds hb r1 => ?_
    have g1 := g.ext x1
    refine ⟨_, hb, ps, g1, fun u a2 δ2 H2 hz2 x2 r2 => ?_⟩
    revert r2
    refine onI_elim (P := fun a2 => RepA (bx X) c.pd (cut H2 (c.xs ++ ps)) H2 u a2 → _) hz2 fun i ⟨n, en, hz3⟩ r2 => ?_
    subst en
    have g2 := g1.ext x2
    obtain ⟨p, o, vs, e1, h1, ho, h2⟩ := rep_tup (g1.repA x2 r1)
    have hc := cutV_rp h2 none (some (n : Int))
    rw [cutD_to] at hc
    refine ⟨n, rep_int r2, p, vs, e1, .inl (.inr ⟨o, cut_le _ _ h1⟩), fun hw => ?_, fun q oq hq hoq => ?_⟩
    · have hn : ds.take n = ds := by
        rw [HT.sIx_nat] at hw
        have := dpAll_len h2
        exact List.take_of_length_le (by omega)
      refine k _ _ δ2 H2 hz3 (x1.trans x2) (show Rp _ _ _ _ from ?_)
      rw [hn]
      exact .tup h1 ho h2
    · have x3 := Xt.upd (o := .frz oq (.tup (cutV vs none (some (n : Int))))) g2 hq
      refine k _ _ δ2 _ hz3 ((x1.trans x2).trans x3) (show Rp _ _ _ _ from .tup (o := oq) ?_ hoq (dpAll_mono (g2.same x3) hc))
      rw [cut_out (g2.fresh hq), upd_same]⟩
/-- a new list in a grown heap, ours -/
theorem own_new {B : Bx} {c : Cc} {ps : List Addr} {ρ : En} {δ δ' : List Int} {σ : L2.St} {H H1 : Hp} {p : Addr} {vs : List V} {ds : List PyData} (g : Gd B c ps ρ δ σ H) (x : Xt c δ' H H1) (hp : H1 p = none) (r : RpAll B.K (cut H1 (c.xs ++ ps)) vs ds) :
    H p = none ∧ Xt c δ' H (upd H1 p (.lst vs)) ∧ Ow B (cut (upd H1 p (.lst vs)) (c.xs ++ p :: ps)) (upd H1 p (.lst vs)) p (.d (.list ds)) := by
  have g1 := g.ext x
  have x2 := Xt.upd (o := .lst vs) g1 hp
  refine ⟨?_, x.trans x2, vs, upd_same, dpAll_mono (cut_same (fun a o n q => x2.1 a o (g1.pdIn n) q) fun a q => ?_) r⟩
  · cases q : H p with
    | none => rfl
    | some o => exact absurd hp (x.there (by rw [q]; exact fun z => nomatch z))
  · rcases List.mem_append.mp q with q | q
    · exact .inl (List.mem_append_left _ q)
    · rcases List.mem_cons.mp q with q | q
      · subst q; exact .inr hp
      · exact .inl (List.mem_append_right _ q)
/-- xs[:n], xs[n:], xs a list -/
theorem en_slL_to {Z : Wd → List Int → Prop} (h : EE X c a ρ δ fun a1 δ1 => onL a1 fun ds => EE X c b ρ δ1 fun a2 δ2 => onI a2 fun i => ∃ n : Nat, i = (n : Int) ∧ Z (.d (.list (ds.take n))) δ2) : EN X c (.Subscript a (.Slice none (some b) none p2) pos) ρ δ Z :=
  PE.le (pe_slice sl_list h po_none (po_some pe_any)) fun σ H Q ⟨ps, g, k⟩ => ⟨ps, g, fun v a1 δ1 H1 hz x1 r1 => by
    revert r1
    refine onL_elim (P := fun a1 => RepA (bx X) c.pd (cut H1 (c.xs ++ ps)) H1 v a1 → _) hz fun ds hb r1 => ?_
    have g1 := g.ext x1
    refine ⟨_, hb, ps, g1, fun u a2 δ2 H2 hz2 x2 r2 => ?_⟩
    revert r2
    refine onI_elim (P := fun a2 => RepA (bx X) c.pd (cut H2 (c.xs ++ ps)) H2 u a2 → _) hz2 fun i ⟨n, en, hz3⟩ r2 => ?_
    subst en
    obtain ⟨p, vs, e1, h1, h2⟩ := rep_lst (g1.repA x2 r1)
    have hc := cutV_rp h2 none (some (n : Int))
    rw [cutD_to] at hc
    refine ⟨n, rep_int r2, p, vs, e1, sqL_up h1, fun q hq => ?_⟩
    obtain ⟨n0, xx, o⟩ := own_new g (x1.trans x2) hq hc
    exact k q _ δ2 _ hz3 n0 xx o⟩
theorem en_slL_from {Z : Wd → List Int → Prop} (h : EE X c a ρ δ fun a1 δ1 => onL a1 fun ds => EE X c b ρ δ1 fun a2 δ2 => onI a2 fun i => ∃ n : Nat, i = (n : Int) ∧ Z (.d (.list (ds.drop n))) δ2) : EN X c (.Subscript a (.Slice (some b) none none p2) pos) ρ δ Z :=
  PE.le (pe_slice sl_list h (po_some pe_any) po_none) fun σ H Q ⟨ps, g, k⟩ => ⟨ps, g, fun v a1 δ1 H1 hz x1 r1 => by
    revert r1
    refine onL_elim (P := fun a1 => RepA (bx X) c.pd (cut H1 (c.xs ++ ps)) H1 v a1 → _) hz fun ds hb r1 => ?_
    have g1 := g.ext x1
    refine ⟨_, hb, ps, g1, fun u a2 δ2 H2 hz2 x2 r2 => ?_⟩
    revert r2
    refine onI_elim (P := fun a2 => RepA (bx X) c.pd (cut H2 (c.xs ++ ps)) H2 u a2 → _) hz2 fun i ⟨n, en, hz3⟩ r2 => ?_
    subst en
    obtain ⟨p, vs, e1, h1, h2⟩ := rep_lst (g1.repA x2 r1)
    have hc := cutV_rp h2 (some (n : Int)) none
    rw [cutD_from] at hc
    refine ⟨n, rep_int r2, p, vs, e1, sqL_up h1, fun q hq => ?_⟩
    obtain ⟨n0, xx, o⟩ := own_new g (x1.trans x2) hq hc
    exact k q _ δ2 _ hz3 n0 xx o⟩

/-! ### + of texts, tuples, lists -/
theorem ee_addS (h : EE X c a ρ δ fun a1 δ1 => onStr a1 fun i => EE X c b ρ δ1 fun a2 δ2 => onStr a2 fun j => i.length + j.length ≤ sizeLine ∧ Z (.v (.d (.str (i ++ j)))) δ2) : EE X c (.BinOp a .Add b pos) ρ δ Z :=
  ee_op op_add_str (ee_imp h fun a1 δ1 h1 => onStr_elim (P := fun a1 => EE X c b ρ δ1 fun a2 δ2 => OpD (bx X) _ δ2 a1 a2 fun w => Z (.v w) δ2) h1 fun i h2 => ee_imp h2 fun a2 δ2 h3 =>
    onStr_elim (P := fun a2 => OpD (bx X) _ δ2 (.v (.d (.str i))) a2 fun w => Z (.v w) δ2) h3 fun j ⟨hl, z⟩ => fun x y H E pd Q hk r1 r2 q =>
      ⟨i, j, rep_str r1, rep_str r2, hl, q _ _ H (Same.refl H) z (show Rp _ _ _ _ from .str _)⟩)
theorem hk_upd {pd : Option Addr} {H : Hp} {E : List Addr} {p : Addr} {o : HO} (hk : Hk pd δ E H) (hp : H p = none) : Same H (upd H p o) ∧ p ∉ E := ⟨fun b u q => by rw [upd_ne (ne_of_none q hp)]; exact q, fun z => hk.live p z hp⟩
theorem ee_addT (h : EE X c a ρ δ fun a1 δ1 => onT a1 fun i => EE X c b ρ δ1 fun a2 δ2 => onT a2 fun j => i.length + j.length ≤ sizeLine ∧ Z (.v (.d (.tuple (i ++ j)))) δ2) : EE X c (.BinOp a .Add b pos) ρ δ Z :=
  ee_op op_catF (ee_imp h fun a1 δ1 h1 => onT_elim (P := fun a1 => EE X c b ρ δ1 fun a2 δ2 => OpD (bx X) (rCatF X.K) δ2 a1 a2 fun w => Z (.v w) δ2) h1 fun i h2 => ee_imp h2 fun a2 δ2 h3 =>
    onT_elim (P := fun a2 => OpD (bx X) (rCatF X.K) δ2 (.v (.d (.tuple i))) a2 fun w => Z (.v w) δ2) h3 fun j ⟨hl, z⟩ => fun x y H E pd Q hk r1 r2 q => by
      obtain ⟨p, o, vs, e1, h1, n1, t1⟩ := rep_tup r1
      obtain ⟨p', o', us, e2, h2, n2, t2⟩ := rep_tup r2
      refine ⟨p, p', vs, us, e1, e2, .inl (.inr ⟨o, cut_le _ _ h1⟩), .inl (.inr ⟨o', cut_le _ _ h2⟩), by rw [dpAll_len t1, dpAll_len t2]; exact hl, fun ev => ?_, fun eu => ?_, fun t ot ht hot => ?_⟩
      · refine q _ _ H (Same.refl H) z (show Rp _ _ _ _ from ?_)
        have : i = [] := List.eq_nil_of_length_eq_zero (by rw [← dpAll_len t1, ev]; rfl)
        rw [this]
        exact .tup h2 n2 t2
      · refine q _ _ H (Same.refl H) z (show Rp _ _ _ _ from ?_)
        have : j = [] := List.eq_nil_of_length_eq_zero (by rw [← dpAll_len t2, eu]; rfl)
        rw [this, List.append_nil]
        exact .tup h1 n1 t1
      · obtain ⟨sm, nt⟩ := hk_upd (o := .frz ot (.tup (vs ++ us))) hk ht
        exact q _ _ _ sm z (show Rp _ _ _ _ from .tup (o := ot) (by rw [cut_out nt, upd_same]) hot (dpAll_mono (cut_to sm) (dpAll_app t1 t2))))
end
end Dl
/-! part dl3 -/
set_option Elab.async false
set_option linter.all false
set_option maxRecDepth 100000
set_option maxHeartbeats 4000000
set_option autoImplicit false
/-! Dl3: calls, promises, statements, over data. -/
namespace Dl
open PySem PySem.Spec PyProof.Rows L2

/-! ### built-ins -/
def CallD (B : Bx) (r : List V → Hp → VK → Prop) (δ : List Int) (as : List Arg) (Zo : Wd → Prop) : Prop := ∀ vs H E pd Q, Hk pd δ E H → Paired (RepA B pd (cut H E) H) vs as →
  (∀ v w H', Same H H' → Zo w → RepW B (cut H' E) v w → Q v H') → r vs H Q
section
variable {X : Cx} {c : Cc} {ρ : En} {δ : List Int} {Z : ZE} {pos p : Pos} {a b e : Expr} {es : List Expr} {x : Str} {id T : String} {r : List V → Hp → VK → Prop}
theorem cd_le {ta : TA} (h1 : ∀ σ H Q, tA (bx X) c ρ δ es.length (fun as δ1 => CallD (bx X) r δ1 as fun w => Z (.v w) δ1) σ H Q → ta σ H Q) : ∀ σ H Q, tE (bx X) c ρ δ Z σ H Q → tCB r ta σ H Q := fun σ H Q ⟨ps, g, k⟩ =>
  h1 σ H _ ⟨ps, g, fun vs as δ1 H1 _ hz x1 r1 => hz vs H1 (c.xs ++ ps) c.pd Q (g.ext x1).hk r1 fun v w H' sm z rr => k v (.v w) δ1 H' z (x1.trans (Xt.same (g.ext x1) sm)) rr⟩
theorem ee_callB (hc : CallR X (.builtin id) r) (hg : Gl X x) (hm : X.mg x = none) (hv : bootBuiltins x = some (.builtin id)) (h : EA X c (e :: es) ρ δ fun as δ1 => CallD (bx X) r δ1 as fun w => Z (.v w) δ1)
    (hn : x ≠ "__name__" := by decide) (hdb : (x == ("__debug__" : Str)) = false := by decide)
    (he : starEach (e :: es) X.env = (false, eval e X.env) :: starEach es X.env := by rfl) (hpl : (backTo pos (starEach es X.env)).any (·.1) = false := by rfl) : EE X c (.Call (.Name x p) (e :: es) [] pos) ρ δ Z :=
  PE.le (pe_callB hc hg hm hv h hn hdb he hpl) (cd_le fun _ _ _ q => q)
theorem ee_callTy (hc : CallR X (.type T) r) (hg : Gl X x) (hm : X.mg x = none) (hv : bootBuiltins x = some (.type T)) (h : EA X c (e :: es) ρ δ fun as δ1 => CallD (bx X) r δ1 as fun w => Z (.v w) δ1)
    (hn : x ≠ "__name__" := by decide) (hdb : (x == ("__debug__" : Str)) = false := by decide)
    (he : starEach (e :: es) X.env = (false, eval e X.env) :: starEach es X.env := by rfl) (hpl : (backTo pos (starEach es X.env)).any (·.1) = false := by rfl) : EE X c (.Call (.Name x p) (e :: es) [] pos) ρ δ Z :=
  PE.le (pe_callTy hc hg hm hv h hn hdb he hpl) (cd_le fun _ _ _ q => q)
theorem ea_one {Z : List Arg → List Int → Prop} (h : EE X c e ρ δ fun a δ1 => Z [a] δ1) (hs : starEach [e] X.env = (false, eval e X.env) :: starEach [] X.env := by rfl) : EA X c [e] ρ δ Z :=
  ea_cons (ee_imp h fun _ _ hz => ea_nil hz) hs
theorem paired_one {α β : Type} {F : α → β → Prop} {vs : List α} {b : β} (h : Paired F vs [b]) : ∃ v, vs = [v] ∧ F v b := by
  cases h with
  | cons h t => cases t; exact ⟨_, rfl, h⟩

/-- len -/
@[reducible] def lenA (a : Arg) (δ : List Int) : Option Nat := match a with
  | .v (.d (.list ds)) => some ds.length
  | .v (.d (.tuple ds)) => some ds.length
  | .ow (.d (.list ds)) => some ds.length
  | .dr => some δ.length
  | .v (.ldk l) => some l.length
  | _ => none
theorem paired_len {α β : Type} {F : α → β → Prop} : ∀ {l : List α} {m : List β}, Paired F l m → l.length = m.length
  | _, _, .nil => rfl
  | _, _, .cons _ t => congrArg (· + 1) (paired_len t)
theorem ee_len (hm : X.mg "len" = none) (h : EE X c e ρ δ fun a δ1 => ∃ n : Nat, lenA a δ1 = some n ∧ Z (.v (.d (.int n))) δ1) (hg : Gl X "len" := by rfl)
    (hs : starEach [e] X.env = (false, eval e X.env) :: starEach [] X.env := by rfl) : EE X c (.Call (.Name "len" p) [e] [] pos) ρ δ Z :=
  PE.le (pe_callB call_len_seq hg hm PySem.boot_len (ea_one (Z := fun as δ1 => ∃ a, as = [a] ∧ ∃ n : Nat, lenA a δ1 = some n ∧ Z (.v (.d (.int n))) δ1) (ee_imp h fun a δ1 hz => ⟨a, rfl, hz⟩) hs) (he := hs))
    (cd_le (es := [e]) fun σ H Q ⟨ps, g, k⟩ => ⟨ps, g, fun vs as δ1 H1 hl ⟨a, ea, n, hn, hz⟩ x1 r1 => k vs as δ1 H1 hl (by
      subst ea
      intro vs H E pd Q hk r q
      obtain ⟨v, rfl, ra⟩ := paired_one r
      have fin : ∀ p ys, v = .ref p → (SqL X.K H p ys ∨ SqT X.K H p ys) → ys.length = n → ∃ p ys, [v] = [.ref p] ∧ (SqL X.K H p ys ∨ SqT X.K H p ys) ∧ Q (.int ys.length) H := fun p ys ev hq hn' => by
        refine ⟨p, ys, by rw [ev], hq, ?_⟩
        rw [hn']
        exact q _ (.d (.int n)) H (Same.refl H) hz (show Rp _ _ _ _ from .int _)
      cases a with
      | v w => cases w with
        | d d => cases d with
          | list ds =>
            obtain ⟨p, ys, ev, h1, h2⟩ := rep_lst ra
            exact fin p ys ev (.inl (sqL_up h1)) ((dpAll_len h2).trans (Option.some.inj hn))
          | tuple ds =>
            obtain ⟨p, o, ys, ev, h1, _, h2⟩ := rep_tup ra
            exact fin p ys ev (.inr (.inl (.inr ⟨o, cut_le _ _ h1⟩))) ((dpAll_len h2).trans (Option.some.inj hn))
          | _ => cases hn
        | ldk l =>
          obtain ⟨p, ys, ev, h1, h2⟩ := ra
          exact fin p ys ev (.inl (.inl (.inl (cut_le _ _ h1)))) ((paired_len h2).trans (Option.some.inj hn))
        | _ => cases hn
      | ow w => cases w with
        | d d => cases d with
          | list ds =>
            obtain ⟨p, ev, _, ys, h1, h2⟩ := ra
            exact fin p ys ev (.inl (.inl (.inl h1))) ((dpAll_len h2).trans (Option.some.inj hn))
          | _ => cases hn
        | _ => cases hn
      | dr =>
        obtain ⟨p, ev, hp⟩ := ra
        exact fin p _ ev (.inl (.inl (.inl (hk.dr p hp)))) ((List.length_map ..).trans (Option.some.inj hn))) x1 r1⟩)
/-- int(n), int(flag) -/
@[reducible] def intA (a : Arg) : Option Int := match a with
  | .v (.d (.int i)) => some i
  | .v (.d (.bool k)) => some (if k then 1 else 0)
  | _ => none
theorem ee_toInt (hm : X.mg "int" = none) (h : EE X c e ρ δ fun a δ1 => ∃ n : Int, intA a = some n ∧ Z (.v (.d (.int n))) δ1) (hg : Gl X "int" := by rfl)
    (hs : starEach [e] X.env = (false, eval e X.env) :: starEach [] X.env := by rfl) : EE X c (.Call (.Name "int" p) [e] [] pos) ρ δ Z :=
  ee_callTy call_int1 hg hm PyProof.Rows.boot_int (ea_one (ee_imp h fun a δ1 ⟨n, hn, hz⟩ => by
    intro vs H E pd Q hk r q
    obtain ⟨v, rfl, ra⟩ := paired_one r
    cases a with
    | v w => cases w with
      | d d => cases d with
        | int i =>
          have e1 := rep_int ra
          cases hn
          exact .inl ⟨_, by rw [e1], q _ (.d (.int _)) H (Same.refl H) hz (show Rp _ _ _ _ from .int _)⟩
        | bool k =>
          have e1 := rep_bool ra
          cases hn
          exact .inr ⟨k, by rw [e1], q _ (.d (.int _)) H (Same.refl H) hz (show Rp _ _ _ _ from .int _)⟩
        | _ => cases hn
      | _ => cases hn
    | _ => cases hn) hs) (he := hs)
/-- tuple(xs) -/
theorem ee_tuple (hm : X.mg "tuple" = none) (h : EE X c e ρ δ fun a δ1 => onQ a fun ds => Z (.v (.d (.tuple ds))) δ1) (hg : Gl X "tuple" := by rfl)
    (hs : starEach [e] X.env = (false, eval e X.env) :: starEach [] X.env := by rfl) : EE X c (.Call (.Name "tuple" p) [e] [] pos) ρ δ Z :=
  ee_callTy call_tupF hg hm PyProof.Rows.boot_tuple (ea_one (ee_imp h fun a δ1 hq => by
    intro vs H E pd Q hk r q
    obtain ⟨v, rfl, ra⟩ := paired_one r
    have fin : ∀ p ys ds, v = .ref p → SqL X.K H p ys → RpAll X.K (cut H E) ys ds → Z (.v (.d (.tuple ds))) δ1 → rTupF X.K [v] H Q := fun p ys ds ev h1 h2 hz =>
      ⟨p, ys, by rw [ev], .inl ⟨h1, fun l o hl ho => by
        obtain ⟨sm, nl⟩ := hk_upd (o := .frz o (.tup ys)) hk hl
        exact q _ (.d (.tuple ds)) _ sm hz (show Rp _ _ _ _ from .tup (o := o) (by rw [cut_out nl, upd_same]) ho (dpAll_mono (cut_to sm) h2))⟩⟩
    revert ra
    refine onQ_elim (P := fun a => RepA (bx X) pd (cut H E) H v a → _) hq (fun ds hz ra => ?_) (fun ds hz ra => ?_) fun ds hz ra => ?_
    · obtain ⟨p, ys, ev, h1, h2⟩ := rep_lst ra
      exact fin p ys ds ev (sqL_up h1) h2 hz
    · obtain ⟨p, o, ys, ev, h1, ho, h2⟩ := rep_tup ra
      refine ⟨p, ys, by rw [ev], .inr ⟨.inl (.inr ⟨o, cut_le _ _ h1⟩), ?_⟩⟩
      exact q _ (.d (.tuple ds)) H (Same.refl H) hz (show Rp _ _ _ _ from .tup h1 ho h2)
    · obtain ⟨p, ev, _, ys, h1, h2⟩ := ra
      exact fin p ys ds ev (.inl (.inl h1)) h2 hz) hs) (he := hs)
/-- list(xs): new, ours -/
theorem en_list {Z : Wd → List Int → Prop} (hm : X.mg "list" = none) (h : EE X c e ρ δ fun a δ1 => onQ a fun ds => Z (.d (.list ds)) δ1) (hg : Gl X "list" := by rfl)
    (hs : starEach [e] X.env = (false, eval e X.env) :: starEach [] X.env := by rfl) : EN X c (.Call (.Name "list" p) [e] [] pos) ρ δ Z :=
  PE.le (pe_callTy call_list_of hg hm PyProof.Rows.boot_list (ea_one (Z := fun as δ1 => ∃ a, as = [a] ∧ onQ a fun ds => Z (.d (.list ds)) δ1) (ee_imp h fun a δ1 hz => ⟨a, rfl, hz⟩) hs) (he := hs)) fun σ H Q ⟨ps, g, k⟩ =>
    ⟨ps, g, fun vs as δ1 H1 _ ⟨a, ea, hq⟩ x1 r1 => by
      subst ea
      obtain ⟨v, rfl, ra⟩ := paired_one r1
      obtain ⟨ds, hz, p, ys, ev, h1, h2, _⟩ := rep_qd hq ra
      refine ⟨p, ys, by rw [ev], h1, fun l hl => ?_⟩
      obtain ⟨n0, xx, o⟩ := own_new g x1 hl h2
      exact k l _ δ1 _ hz n0 xx o⟩
/-- isinstance(x, str) -/
@[reducible] def strFlag (d : PyData) : Option Bool := match d with
  | .int _ => some false
  | .str _ => some true
  | _ => none
theorem ee_isStr {p3 : Pos} (hm : X.mg "isinstance" = none) (hm2 : X.mg "str" = none) (h : EE X c e ρ δ fun a δ1 => onD a fun d => ∃ k, strFlag d = some k ∧ Z (.v (.d (.bool k))) δ1) (hg : Gl X "isinstance" := by rfl) (hg2 : Gl X "str" := by rfl)
    (hs : starEach [e, .Name "str" p3] X.env = (false, eval e X.env) :: starEach [.Name "str" p3] X.env := by rfl) (hs2 : starEach [.Name "str" p3] X.env = (false, eval (.Name "str" p3) X.env) :: starEach [] X.env := by rfl) :
    EE X c (.Call (.Name "isinstance" p) [e, .Name "str" p3] [] pos) ρ δ Z :=
  PE.le (pe_callB call_isi hg hm PyProof.Rows.boot_isinstance (pa_cons h (pa_cons (pe_bltn hg2 hm2 PyProof.Rows.boot_str (v := .ty "str") rfl) pa_nil hs2) hs) (he := hs) (hpl := by rw [hs2]; rfl)) fun σ H Q ⟨ps, g, k⟩ =>
    ⟨ps, g, fun v a1 δ1 H1 hz x1 r1 => by
      revert r1
      refine onD_elim (P := fun a1 => RepA (bx X) c.pd (cut H1 (c.xs ++ ps)) H1 v a1 → _) hz fun d ⟨kk, hk, hz⟩ r1 => ?_
      cases d with
      | int i =>
        have e1 := rep_int r1
        subst e1
        exact ⟨_, _, _, _, kk, rfl, .ty "str", .base (.int i), kit_ty (b := "str") (by rw [← hk]; show kitB "int" "str" = some false; decide +kernel), k _ (.v (.d (.bool kk))) δ1 H1 hz x1 (show Rp _ _ _ _ from .bl _)⟩
      | str i =>
        have e1 := rep_str r1
        subst e1
        exact ⟨_, _, _, _, kk, rfl, .ty "str", .base (.str i), kit_ty (b := "str") (by rw [← hk]; show kitB "str" "str" = some true; decide +kernel), k _ (.v (.d (.bool kk))) δ1 H1 hz x1 (show Rp _ _ _ _ from .bl _)⟩
      | _ => cases hk⟩

end

/-! ### what a def promises -/
/-- the weakest precondition of a def, over data: the arguments, the draws, the wanted end -/
abbrev GD := List Arg → List Int → (Wd → List Int → Prop) → Prop
@[reducible] def isV : Arg → Bool | .v _ => true | _ => false
@[reducible] def notOw : Arg → Bool | .ow _ => false | _ => true
structure Pm (B : Bx) (n : Nat) (c : Cc) (as : List Arg) (δ : List Int) (vs : List V) (H : Hp) : Prop where
  live : ∀ a ∈ c.xs ++ c.pd.toList, H a ≠ none
  apart : ∀ p, c.pd = some p → p ∉ c.xs ∧ H p = some (.lst (δ.map V.int))
  reps : Paired (RepA B c.pd (cut H (c.xs ++ c.pd.toList)) H) vs as
  no : as.all notOw = true
  len : as.length = n
def spD (B : Bx) (n : Nat) (G : GD) : Sp := fun vs H Q _ => ∃ c as δ Z, Pm B n c as δ vs H ∧ G as δ Z ∧
  ∀ v w δ' H', Z w δ' → Xt c δ' H H' → RepW B (cut H' (c.xs ++ c.pd.toList)) v w → Q v H'
/-- what a body must come to -/
def post (Z : Wd → List Int → Prop) : Ot → Prop
  | .nx _ δ' => Z (.d .none) δ'
  | .rt w δ' => Z w δ'
  | _ => False
theorem start_get {N : List Str} {vs : List V} {i : Nat} {v : V} (h : vs[i]? = some v) : (L2.start N vs)[i]? = some (some v) := by
  unfold L2.start
  have hi : i < (vs.map some).length := by
    rw [List.length_map]
    exact (List.getElem?_eq_some_iff.mp h).1
  rw [List.getElem?_append_left hi, List.getElem?_map, h]
  rfl
theorem paired_at {α β : Type} {F : α → β → Prop} : ∀ {l : List α} {m : List β} {i : Nat} {b : β}, Paired F l m → m[i]? = some b → ∃ a, l[i]? = some a ∧ F a b
  | _, _, _, _, .nil, e => by simp at e
  | _, _, 0, _, .cons h _, e => by simp at e; subst e; exact ⟨_, rfl, h⟩
  | _, _, i + 1, b, .cons _ t, e => by
    obtain ⟨u, h1, h2⟩ := paired_at (i := i) (b := b) t (by simpa using e)
    exact ⟨u, by simpa using h1, h2⟩
def rho0 (as : List Arg) (N : Nat) : En := as.map some ++ List.replicate (N - as.length) none
theorem rho_arg {as : List Arg} {N i : Nat} {a : Arg} (h : (rho0 as N)[i]? = some (some a)) : as[i]? = some a := by
  unfold rho0 at h
  by_cases hi : i < (as.map some).length
  · rw [List.getElem?_append_left hi, List.getElem?_map] at h
    cases q : as[i]? with
    | none => rw [q] at h; cases h
    | some b => rw [q] at h; cases h; rfl
  · rw [List.getElem?_append_right (by omega), List.getElem?_replicate] at h
    split at h <;> cases h
theorem gd_start {B : Bx} {n : Nat} {c : Cc} {as : List Arg} {δ : List Int} {vs : List V} {H : Hp} (m : Pm B n c as δ vs H) (N : List Str) (hn : n ≤ N.length) : Gd B c c.pd.toList (rho0 as N.length) δ (L2.start N vs) H := by
  have hlen := paired_len m.reps
  have hl := m.len
  refine ⟨m.live, fun a ha hp => ?_, fun p hp => ⟨by rw [hp]; simp, (m.apart p hp).2⟩, ?_, fun i s e => ?_, fun i j x y v _ e1 _ _ _ => ?_⟩
  · cases q : c.pd with
    | none => rw [q] at hp; simp at hp
    | some p =>
      rw [q] at hp
      have : a = p := by simpa using hp
      subst this
      exact (m.apart a q).1 ha
  · unfold L2.start rho0
    simp only [List.length_append, List.length_map, List.length_replicate]
    omega
  · obtain ⟨v, hv, r⟩ := paired_at m.reps (rho_arg e)
    refine ⟨v, start_get hv, r, ?_⟩
    cases s with
    | ow w =>
      have := List.all_eq_true.mp m.no _ (List.mem_of_getElem? (rho_arg e))
      cases this
    | _ => trivial
  · have := List.all_eq_true.mp m.no _ (List.mem_of_getElem? (rho_arg e1))
    cases this
/-- the context of a def's body -/
abbrev BX (P : Program) (w : World) (K : PySem.W.Frag) (mg : Str → Option Value) (base : Heap) (N : List Str) (qual : Str) (st : Stmt) (f : Addr) (cdv : Value) (A : Around) (outer : List PySem.Env) (s : Shared) (H : Hp) (E : XK) : Cx := (cxOf CX0 P w K mg base N qual (defScope st) f cdv A outer s H E).nox
theorem fn_body {P : Program} {w : World} {K : PySem.W.Frag} {mg : Str → Option Value} {base : Heap} {x qual : Str} {st : Stmt} {f : Addr} {fd : FuncData} {N ps : List Str} {k n : Nat} {G : GD} (F : Fun K x qual st f fd) (Sc : FnScope N ps (defScope st)) (hn : ps.length = n)
    (body : ∀ (cdv : Value) (A : Around) (outer : List PySem.Env) (s : Shared) (H : Hp) (E : XK) (c : Cc) (as : List Arg) (δ : List Int) (Z : Wd → List Int → Prop),
      Room k (A.deeper (envOfC qual (defScope st) s.heap.objs.size f cdv)) → as.length = n → G as δ Z → SS (BX P w K mg base N qual st f cdv A outer s H E) c (defBody st) (rho0 as N.length) δ (post Z)) :
    FnOk P w K mg base CX0 (k + 1) f fd ps (spD ⟨P, w, K⟩ n G) := by
  have hnN : n ≤ N.length := by
    rw [← hn, ← Sc.pre, List.length_take]
    exact Nat.min_le_right _ _
  refine F.ok Sc (fun vs H Q E h => ?_) (fun cdv A outer s H vs Q E hr h => ?_)
  · obtain ⟨c, as, δ, Z, m, _⟩ := h
    rw [hn, ← m.len]
    exact paired_len m.reps
  · obtain ⟨c, as, δ, Z, m, hG, q⟩ := h
    refine ⟨_, body cdv A outer s H E c as δ Z hr m.len hG, c.pd.toList, gd_start m N hnN, fun ρ' δ' σ' H' ps' hz g' stp => ?_, fun v w δ' H' ps' hz stp hd r => ?_, fun _ _ _ _ _ hz => hz.elim, fun _ _ _ _ _ hz => hz.elim⟩
    · refine q .non (.d .none) δ' H' hz ⟨fun a o na e => stp.1 a o ?_ e, fun p hp => (g'.dr p hp).2⟩ (show Rp _ _ _ _ from .non)
      cases e2 : c.pd with
      | none => simp
      | some p =>
        rw [e2] at na
        simp only [Option.toList_some, List.mem_singleton]
        exact fun z => na (by rw [z])
    · have xt : Xt c δ' H H' := ⟨fun a o na e => stp.1 a o (by
        cases e2 : c.pd with
        | none => simp
        | some p =>
          rw [e2] at na
          simp only [Option.toList_some, List.mem_singleton]
          exact fun z => na (by rw [z])) e, fun p hp => (hd p hp).2⟩
      refine q v w δ' H' hz xt (rep_mono (cut_same (fun _ _ _ e => e) fun a ha => ?_) r)
      rcases List.mem_append.mp ha with ha | ha
      · exact .inl (List.mem_append_left _ ha)
      · refine .inl (List.mem_append_right _ (hd a ?_).1)
        cases e2 : c.pd with
        | none => rw [e2] at ha; simp at ha
        | some p =>
          rw [e2] at ha
          have : a = p := by simpa using ha
          rw [this]
end Dl
/-! part dl4 -/
set_option Elab.async false
set_option linter.all false
set_option maxRecDepth 100000
set_option maxHeartbeats 4000000
set_option autoImplicit false
/-! Dl4: calls of the text's own defs, statements, over data. -/
namespace Dl
open PySem PySem.Spec PyProof.Rows L2

/-! ### the text's own defs -/
/-- the def x keeps the promise G, level k -/
def Df (P : Program) (w : World) (K : PySem.W.Frag) (mg : Str → Option Value) (base : Heap) (k : Nat) (x : Str) (n : Nat) (G : GD) : Prop :=
  ∃ f fd ps, FnOk P w K mg base CX0 k f fd ps (spD ⟨P, w, K⟩ n G) ∧ mg x = some (.ref f) ∧ PySem.W.keepIn K (.ref f) = true ∧ Binds K fd ps []
theorem cut_eq {H : Hp} {E E' : List Addr} (h : ∀ a, a ∈ E ↔ a ∈ E') : cut H E = cut H E' := by
  funext a
  unfold cut
  by_cases q : a ∈ E
  · rw [if_pos q, if_pos ((h a).mp q)]
  · rw [if_neg q, if_neg fun z => q ((h a).mpr z)]
theorem notOw_of_isV {as : List Arg} (h : as.all isV = true) : as.all notOw = true := by
  rw [List.all_eq_true] at h ⊢
  intro a ha
  have := h a ha
  cases a <;> first | rfl | cases this
theorem repA_v {B : Bx} {pd pd' : Option Addr} {G G' H : Hp} (e : Same G G') : ∀ {vs : List V} {as : List Arg}, as.all isV = true → Paired (RepA B pd G H) vs as → Paired (RepA B pd' G' H) vs as
  | _, _, _, .nil => .nil
  | _, a :: as, h, .cons r t => by
    rw [List.all_cons, Bool.and_eq_true] at h
    refine .cons ?_ (repA_v e h.2 t)
    cases a with
    | v w => exact rep_mono e r
    | _ => cases h.1
@[reducible] def isDr : Arg → Bool | .dr => true | _ => false
section
variable {X : Cx} {c : Cc} {ρ : En} {δ : List Int} {Z : ZE} {pos p : Pos} {a b e : Expr} {es : List Expr} {x : Str} {k k' n : Nat} {G : GD}
theorem ee_callP (D : Df X.prog X.w X.K X.mg X.base k x n G) (hr : Room k' X.A) (h : EA X c (e :: es) ρ δ fun as δ1 => as.all isV = true ∧ G as [] fun w _ => Z (.v w) δ1)
    (hk : k ≤ k' := by decide) (hn : (e :: es).length = n := by rfl) (hg : Gl X x := by rfl) (hdb : (x == ("__debug__" : Str)) = false := by decide)
    (he : starEach (e :: es) X.env = (false, eval e X.env) :: starEach es X.env := by rfl) (hpl : (backTo pos (starEach es X.env)).any (·.1) = false := by rfl) : EE X c (.Call (.Name x p) (e :: es) [] pos) ρ δ Z := by
  obtain ⟨f, fd, ps, F, hm, hkp, hb⟩ := D
  refine PE.le (pe_call F (hr.mono hk) hg hm hkp hb .nil pass0 h hdb he hpl) fun σ H Q ⟨qs, g, q⟩ => ⟨qs, g, fun vs as δ1 H1 hl ⟨hv, hG⟩ x1 r1 => ?_⟩
  have g1 := g.ext x1
  show spD ⟨X.prog, X.w, X.K⟩ n G (vs ++ []) H1 Q E0
  rw [List.append_nil]
  refine ⟨⟨none, c.xs ++ qs⟩, as, [], _, ⟨fun a ha => ?_, (fun p hp => nomatch hp), repA_v ?_ hv r1, notOw_of_isV hv, hl.trans hn⟩, hG, fun v w δ' H' hz xt rr => ?_⟩
  · exact g1.live a (by simpa using ha)
  · exact cut_same (fun _ _ _ e => e) fun a ha => .inl (by simpa using ha)
  · have sm : Same H1 H' := fun a o e => xt.1 a o (fun z => nomatch z) e
    refine q v (.v w) δ1 H' hz (x1.trans (Xt.same g1 sm)) (rep_mono (cut_same (fun _ _ _ e => e) fun a ha => .inl ?_) rr)
    simpa using ha
theorem ee_callD (D : Df X.prog X.w X.K X.mg X.base k x n G) (hr : Room k' X.A) (h : EA X c (e :: es) ρ δ fun as δ1 => as.all notOw = true ∧ as.any isDr = true ∧ G as δ1 fun w δ2 => Z (.v w) δ2)
    (hk : k ≤ k' := by decide) (hn : (e :: es).length = n := by rfl) (hg : Gl X x := by rfl) (hdb : (x == ("__debug__" : Str)) = false := by decide)
    (he : starEach (e :: es) X.env = (false, eval e X.env) :: starEach es X.env := by rfl) (hpl : (backTo pos (starEach es X.env)).any (·.1) = false := by rfl) : EE X c (.Call (.Name x p) (e :: es) [] pos) ρ δ Z := by
  obtain ⟨f, fd, ps, F, hm, hkp, hb⟩ := D
  refine PE.le (pe_call F (hr.mono hk) hg hm hkp hb .nil pass0 h hdb he hpl) fun σ H Q ⟨qs, g, q⟩ => ⟨qs, g, fun vs as δ1 H1 hl ⟨hv, hd, hG⟩ x1 r1 => ?_⟩
  have g1 := g.ext x1
  show spD ⟨X.prog, X.w, X.K⟩ n G (vs ++ []) H1 Q E0
  rw [List.append_nil]
  obtain ⟨p, hp⟩ : ∃ p, c.pd = some p := by
    rw [List.any_eq_true] at hd
    obtain ⟨a, ha, hd⟩ := hd
    obtain ⟨i, hi⟩ := List.getElem?_of_mem ha
    obtain ⟨v, _, r⟩ := paired_at r1 hi
    cases a with
    | dr => obtain ⟨p, _, e⟩ := r; exact ⟨p, e⟩
    | _ => cases hd
  have hpi := g1.dr p hp
  have hmem : ∀ a, a ∈ (c.xs ++ qs).filter (fun a => decide (a ≠ p)) ++ (some p).toList ↔ a ∈ c.xs ++ qs := fun a => by
    rw [List.mem_append, List.mem_filter, Option.toList_some, List.mem_singleton, decide_eq_true_eq]
    constructor
    · rintro (h | h)
      · exact h.1
      · rw [h]; exact List.mem_append_right _ hpi.1
    · intro h
      by_cases e : a = p
      · exact .inr e
      · exact .inl ⟨h, e⟩
  refine ⟨⟨some p, (c.xs ++ qs).filter fun a => decide (a ≠ p)⟩, as, δ1, _, ⟨fun a ha => ?_, fun p' e => ?_, ?_, hv, hl.trans hn⟩, hG, fun v w δ' H' hz xt rr => ?_⟩
  · exact g1.live a ((hmem a).mp ha)
  · cases e
    exact ⟨by rw [List.mem_filter]; exact fun z => of_decide_eq_true z.2 rfl, hpi.2⟩
  · show Paired (RepA (bx X) (some p) (cut H1 ((c.xs ++ qs).filter (fun a => decide (a ≠ p)) ++ (some p).toList)) H1) vs as
    rw [cut_eq hmem, ← hp]
    exact r1
  · have xt' : Xt c δ' H1 H' := ⟨fun a o na e => xt.1 a o (by rw [hp] at na; exact na) e, fun p' e => xt.2 p' (by rw [hp] at e; exact e)⟩
    refine q v (.v w) δ' H' hz (x1.trans xt') ?_
    have rr' : RepW (bx X) (cut H' ((c.xs ++ qs).filter (fun a => decide (a ≠ p)) ++ (some p).toList)) v w := rr
    rw [cut_eq hmem] at rr'
    exact rr'
end
/-- a def by its body -/
theorem df_body {P : Program} {w : World} {K : PySem.W.Frag} {mg : Str → Option Value} {base : Heap} {x : Str} {st : Stmt} {N ps : List Str} {k n : Nat} {G : GD} (F : ∃ f fd, Fun K x x st f fd ∧ mg x = some (.ref f)) (Sc : FnScope N ps (defScope st)) (hn : ps.length = n)
    (hb : ∀ (kV doc pm : Value) (an : Option Addr) (cdv ct : Value) (us : List Value), us.length = ps.length → bindArgs (PySem.W.fnOf x x (defArgs st) (defBody st) (defScope st) .none kV doc pm an cdv ct) ⟨us, []⟩ = pure (ps.zip us))
    (body : ∀ (f : Addr) (cdv : Value) (A : Around) (outer : List PySem.Env) (s : Shared) (H : Hp) (E : XK) (c : Cc) (as : List Arg) (δ : List Int) (Z : Wd → List Int → Prop),
      Room k (A.deeper (envOfC x (defScope st) s.heap.objs.size f cdv)) → as.length = n → G as δ Z → SS (BX P w K mg base N x st f cdv A outer s H E) c (defBody st) (rho0 as N.length) δ (post Z)) : Df P w K mg base (k + 1) x n G := by
  obtain ⟨f, fd, F, hm⟩ := F
  exact ⟨f, fd, ps, fn_body F Sc hn (body f), hm, F.kp, F.binds hb⟩

/-! ### slots -/
section
variable {B : Bx} {c : Cc} {ps : List Addr} {ρ : En} {δ : List Int} {σ : L2.St} {H : Hp}
theorem get_set_self {α : Type} {l : List α} {i : Nat} {x y : α} (h : (l.set i x)[i]? = some y) : y = x := by
  rw [List.getElem?_set_self'] at h
  cases q : l[i]? with
  | none => rw [q] at h; cases h
  | some z => rw [q] at h; cases h; rfl
/-- a slot takes data -/
theorem Gd.put (g : Gd B c ps ρ δ σ H) {v : V} {w : Wd} (r : RepW B (cut H (c.xs ++ ps)) v w) (i : Nat) : Gd B c ps (ρ.set i (some (.v w))) δ (σ.set i (some v)) H := by
  refine ⟨g.live, g.apart, g.dr, by rw [List.length_set, List.length_set, g.len], fun j s e => ?_, fun j k x y u hjk e1 e2 f1 f2 => ?_⟩
  · by_cases h : j = i
    · subst h
      have hi : j < ρ.length := by
        have := (List.getElem?_eq_some_iff.mp e).1
        rwa [List.length_set] at this
      have es := get_set_self e
      cases es
      exact ⟨v, List.getElem?_set_self (by rw [g.len]; exact hi), r, trivial⟩
    · rw [List.getElem?_set_ne (Ne.symm h)] at e
      obtain ⟨u, h1, h2⟩ := g.sl j s e
      exact ⟨u, by rw [List.getElem?_set_ne (Ne.symm h)]; exact h1, h2⟩
  · have nj : j ≠ i := fun z => by subst z; cases get_set_self e1
    have nk : k ≠ i := fun z => by subst z; cases get_set_self e2
    rw [List.getElem?_set_ne (Ne.symm nj)] at e1 f1
    rw [List.getElem?_set_ne (Ne.symm nk)] at e2 f2
    exact g.dj j k x y u hjk e1 e2 f1 f2
/-- a slot takes a new object of ours -/
theorem Gd.putN {δ' : List Int} {H' : Hp} (g : Gd B c ps ρ δ σ H) {p : Addr} {w : Wd} (hp : H p = none) (x : Xt c δ' H H') (o : Ow B (cut H' (c.xs ++ p :: ps)) H' p w) (i : Nat) : Gd B c (p :: ps) (ρ.set i (some (.ow w))) δ' (σ.set i (some (.ref p))) H' := by
  have np : p ∉ c.xs ++ ps := g.fresh hp
  have npd : c.pd ≠ some p := fun e => np (List.mem_append_right _ (g.dr p e).1)
  have g1 := g.ext x
  have sub : ∀ a, a ∈ c.xs ++ p :: ps → a ∈ c.xs ++ ps ∨ a = p := fun a h => by
    rcases List.mem_append.mp h with h | h
    · exact .inl (List.mem_append_left _ h)
    · rcases List.mem_cons.mp h with h | h
      · exact .inr h
      · exact .inl (List.mem_append_right _ h)
  have sm : Same (cut H (c.xs ++ ps)) (cut H' (c.xs ++ p :: ps)) := cut_same (fun a o n e => x.1 a o (g.pdIn n) e) fun a h => by
    rcases sub a h with h | h
    · exact .inl h
    · rw [h]; exact .inr hp
  refine ⟨fun a h => ?_, fun a h1 h2 => ?_, fun q e => ⟨List.mem_cons_of_mem _ (g.dr q e).1, x.2 q e⟩, by rw [List.length_set, List.length_set, g.len], fun j s e => ?_, fun j k y z u hjk e1 e2 f1 f2 => ?_⟩
  · rcases sub a h with h | h
    · exact g1.live a h
    · rw [h]; exact own_there o
  · rcases List.mem_cons.mp h2 with h | h
    · exact np (by rw [← h]; exact List.mem_append_left _ h1)
    · exact g.apart a h1 h
  · by_cases h : j = i
    · subst h
      have hi : j < ρ.length := by
        have := (List.getElem?_eq_some_iff.mp e).1
        rwa [List.length_set] at this
      have es := get_set_self e
      cases es
      exact ⟨.ref p, List.getElem?_set_self (by rw [g.len]; exact hi), ⟨p, rfl, npd, o⟩, fun q e => by cases e; exact List.mem_cons_self⟩
    · rw [List.getElem?_set_ne (Ne.symm h)] at e
      obtain ⟨u, h1, h2, h3⟩ := g.sl j s e
      refine ⟨u, by rw [List.getElem?_set_ne (Ne.symm h)]; exact h1, ?_, ?_⟩
      · cases s with
        | v w => exact rep_mono sm h2
        | ow w =>
          obtain ⟨q, e1, nq, oq⟩ := h2
          exact ⟨q, e1, nq, own_mono sm (x.at (own_there oq) nq) oq⟩
        | dr => exact h2
      · cases s with
        | ow w => exact fun q e => List.mem_cons_of_mem _ (h3 q e)
        | _ => trivial
  · have old : ∀ {j : Nat} {y : Wd} {u : V}, j ≠ i → (ρ.set i (some (.ow w)))[j]? = some (some (.ow y)) → (σ.set i (some (.ref p)))[j]? = some (some u) → u ≠ .ref p := fun {j y u} h e f => by
      rw [List.getElem?_set_ne (Ne.symm h)] at e f
      obtain ⟨u', h1, h2, h3⟩ := g.sl j _ e
      rw [f] at h1
      cases h1
      obtain ⟨q, e1, nq, oq⟩ := h2
      intro z
      rw [e1] at z
      cases z
      exact np (List.mem_append_right _ (h3 _ e1))
    by_cases hj : j = i
    · have hk : k ≠ i := fun z => hjk (hj.trans z.symm)
      rw [hj] at f1
      have := get_set_self f1
      cases this
      exact old hk e2 f2 rfl
    · by_cases hk : k = i
      · rw [hk] at f2
        have := get_set_self f2
        cases this
        exact old hj e1 f1 rfl
      · rw [List.getElem?_set_ne (Ne.symm hj)] at e1 f1
        rw [List.getElem?_set_ne (Ne.symm hk)] at e2 f2
        exact g.dj j k y z u hjk e1 e2 f1 f2
/-- an object of ours is changed -/
theorem Gd.chg (g : Gd B c ps ρ δ σ H) {i : Nat} {w w' : Wd} {p : Addr} {o : HO} (e : ρ[i]? = some (some (.ow w))) (hv : σ[i]? = some (some (.ref p))) (ow : Ow B (cut H (c.xs ++ ps)) (upd H p o) p w') : Gd B c ps (ρ.set i (some (.ow w'))) δ σ (upd H p o) := by
  obtain ⟨v, h1, h2, h3⟩ := g.sl i _ e
  rw [hv] at h1
  cases h1
  obtain ⟨q, eq, nq, oq⟩ := h2
  cases eq
  have hp : p ∈ ps := h3 p rfl
  have hpE : p ∈ c.xs ++ ps := List.mem_append_right _ hp
  have ec : cut (upd H p o) (c.xs ++ ps) = cut H (c.xs ++ ps) := by
    funext a
    unfold cut
    by_cases ha : a ∈ c.xs ++ ps
    · rw [if_pos ha, if_pos ha]
    · rw [if_neg ha, if_neg ha, upd_ne (fun z => ha (by rw [z]; exact hpE))]
  refine ⟨fun a h => ?_, g.apart, fun q e => ⟨(g.dr q e).1, ?_⟩, by rw [List.length_set, g.len], fun j s ej => ?_, fun j k y z u hjk e1 e2 f1 f2 => ?_⟩
  · by_cases ha : a = p
    · rw [ha, upd_same]; exact fun z => nomatch z
    · rw [upd_ne ha]; exact g.live a h
  · rw [upd_ne (fun z => nq (by rw [← z]; exact e))]
    exact (g.dr q e).2
  · by_cases h : j = i
    · subst h
      have es := get_set_self ej
      cases es
      refine ⟨.ref p, hv, ⟨p, rfl, nq, ?_⟩, h3⟩
      rw [ec]
      exact ow
    · rw [List.getElem?_set_ne (Ne.symm h)] at ej
      obtain ⟨u, k1, k2, k3⟩ := g.sl j s ej
      refine ⟨u, k1, ?_, k3⟩
      rw [ec]
      cases s with
      | v w => exact k2
      | ow y =>
        obtain ⟨q, e1, nq', oq'⟩ := k2
        refine ⟨q, e1, nq', own_mono (Same.refl _) (upd_ne fun z => ?_) oq'⟩
        subst z
        subst e1
        exact g.dj j i y w _ h ej e k1 hv
      | dr => exact k2
  · have tr : ∀ {j : Nat} {y : Wd}, (ρ.set i (some (.ow w')))[j]? = some (some (.ow y)) → ∃ y', ρ[j]? = some (some (.ow y')) := fun {j y} ej => by
      by_cases h : j = i
      · exact ⟨w, by rw [h]; exact e⟩
      · rw [List.getElem?_set_ne (Ne.symm h)] at ej; exact ⟨y, ej⟩
    obtain ⟨y', e1'⟩ := tr e1
    obtain ⟨z', e2'⟩ := tr e2
    exact g.dj j k y' z' u hjk e1' e2' f1 f2
/-- an object of ours is not changed any more -/
theorem Gd.frz (g : Gd B c ps ρ δ σ H) {i : Nat} {w : Wd} (e : ρ[i]? = some (some (.ow w))) (hf : mayFrz w = true) : ∃ ps', (∀ a ∈ ps', a ∈ ps) ∧ Gd B c ps' (ρ.set i (some (.v w))) δ σ H := by
  obtain ⟨v, h1, h2, h3⟩ := g.sl i _ e
  obtain ⟨p, ev, np, o⟩ := h2
  subst ev
  have hp : p ∈ ps := h3 p rfl
  have sub : ∀ a, a ∈ c.xs ++ ps.filter (fun a => decide (a ≠ p)) → a ∈ c.xs ++ ps := fun a h => by
    rcases List.mem_append.mp h with h | h
    · exact List.mem_append_left _ h
    · exact List.mem_append_right _ (List.mem_filter.mp h).1
  have sm : Same (cut H (c.xs ++ ps)) (cut H (c.xs ++ ps.filter fun a => decide (a ≠ p))) := cut_same (fun _ _ _ e => e) fun a h => .inl (sub a h)
  have npx : p ∉ c.xs ++ ps.filter fun a => decide (a ≠ p) := fun h => by
    rcases List.mem_append.mp h with h | h
    · exact g.apart p h hp
    · exact of_decide_eq_true (List.mem_filter.mp h).2 rfl
  refine ⟨ps.filter fun a => decide (a ≠ p), fun a h => (List.mem_filter.mp h).1, fun a h => g.live a (sub a h), fun a ha hb => g.apart a ha (List.mem_filter.mp hb).1, fun q eq => ⟨List.mem_filter.mpr ⟨(g.dr q eq).1, decide_eq_true fun z => np (by rw [← z]; exact eq)⟩, (g.dr q eq).2⟩,
    by rw [List.length_set, g.len], fun j s ej => ?_, fun j k y z u hjk e1 e2 f1 f2 => ?_⟩
  · by_cases h : j = i
    · subst h
      have es := get_set_self ej
      cases es
      exact ⟨.ref p, h1, own_rep sm (cut_out npx) hf o, trivial⟩
    · rw [List.getElem?_set_ne (Ne.symm h)] at ej
      obtain ⟨u, k1, k2, k3⟩ := g.sl j s ej
      refine ⟨u, k1, ?_, ?_⟩
      · cases s with
        | v w => exact rep_mono sm k2
        | ow y =>
          obtain ⟨q, e1, nq', oq'⟩ := k2
          exact ⟨q, e1, nq', own_mono sm rfl oq'⟩
        | dr => exact k2
      · cases s with
        | ow y =>
          intro q eq
          refine List.mem_filter.mpr ⟨k3 q eq, decide_eq_true fun z => ?_⟩
          subst z
          subst eq
          exact g.dj j i y w _ h ej e k1 h1
        | _ => trivial
  · have nj : j ≠ i := fun z => by subst z; cases get_set_self e1
    have nk : k ≠ i := fun z => by subst z; cases get_set_self e2
    rw [List.getElem?_set_ne (Ne.symm nj)] at e1
    rw [List.getElem?_set_ne (Ne.symm nk)] at e2
    exact g.dj j k y z u hjk e1 e2 f1 f2
end

/-! ### statements -/
section
variable {X : Cx} {c : Cc} {ρ : En} {δ : List Int} {Z : Ot → Prop} {pos p : Pos} {a b e : Expr} {es : List Expr} {x : Str} {st : Stmt} {sts as bs : List Stmt}
@[reducible] def thenO (o : Ot) (f : En → List Int → Prop) (Z : Ot → Prop) : Prop := match o with
  | .nx ρ' δ' => f ρ' δ'
  | .rt w δ' => Z (.rt w δ')
  | .bk ρ' δ' => Z (.bk ρ' δ')
  | .ct ρ' δ' => Z (.ct ρ' δ')
theorem ss_nil (hz : Z (.nx ρ δ)) : SS X c [] ρ δ Z := PSs.le pss_nil fun D σ H ⟨ps, g, h, _⟩ => h ρ δ σ H ps hz g Stp.refl
theorem ss_cons (h : SE X c st ρ δ fun o => thenO o (fun ρ' δ' => SS X c sts ρ' δ' Z) Z) : SS X c (st :: sts) ρ δ Z :=
  PSs.le (pss_cons h pss_any) fun D σ H ⟨ps, g, h1, h2, h3, h4⟩ => ⟨ps, g,
    fun ρ' δ' σ' H' ps' hz g' st' => ⟨_, hz, ps', g', fun ρ2 δ2 σ2 H2 ps2 hz2 g2 st2 => h1 ρ2 δ2 σ2 H2 ps2 hz2 g2 (st'.trans st2), fun v w δ2 H2 ps2 hz2 st2 hd r => h2 v w δ2 H2 ps2 hz2 (st'.trans st2) hd r,
      fun ρ2 δ2 σ2 H2 ps2 hz2 g2 st2 => h3 ρ2 δ2 σ2 H2 ps2 hz2 g2 (st'.trans st2), fun ρ2 δ2 σ2 H2 ps2 hz2 g2 st2 => h4 ρ2 δ2 σ2 H2 ps2 hz2 g2 (st'.trans st2)⟩,
    fun v w δ' H' ps' hz st' hd r => h2 v w δ' H' ps' hz st' hd r, fun ρ' δ' σ' H' ps' hz g' st' => h3 ρ' δ' σ' H' ps' hz g' st', fun ρ' δ' σ' H' ps' hz g' st' => h4 ρ' δ' σ' H' ps' hz g' st'⟩
theorem ss_one (h : SE X c st ρ δ Z) : SS X c [st] ρ δ Z := pss_one h
theorem ss_frz (i : Nat) {w : Wd} (e : ρ[i]? = some (some (.ow w))) (h : SS X c sts (ρ.set i (some (.v w))) δ Z) (hf : mayFrz w = true := by rfl) : SS X c sts ρ δ Z :=
  PSs.le h fun D σ H ⟨ps, g, h1, h2, h3, h4⟩ => by
    obtain ⟨ps', sub, g'⟩ := g.frz e hf
    have up : ∀ {ps2 : List Addr} {H2 : Hp}, Stp ps' H ps2 H2 → Stp ps H ps2 H2 := fun s2 => ⟨fun a o n q => s2.1 a o (fun z => n (sub a z)) q, fun a q => (s2.2 a q).imp_left (sub a)⟩
    exact ⟨ps', g', fun _ _ _ _ _ hz g2 s2 => h1 _ _ _ _ _ hz g2 (up s2), fun _ _ _ _ _ hz s2 => h2 _ _ _ _ _ hz (up s2), fun _ _ _ _ _ hz g2 s2 => h3 _ _ _ _ _ hz g2 (up s2), fun _ _ _ _ _ hz g2 s2 => h4 _ _ _ _ _ hz g2 (up s2)⟩
theorem ss_imp {Z' : Ot → Prop} (h : SS X c sts ρ δ Z) (k : ∀ o, Z o → Z' o) : SS X c sts ρ δ Z' :=
  PSs.le h fun D σ H ⟨ps, g, h1, h2, h3, h4⟩ => ⟨ps, g, fun _ _ _ _ _ hz => h1 _ _ _ _ _ (k _ hz), fun _ _ _ _ _ hz => h2 _ _ _ _ _ (k _ hz), fun _ _ _ _ _ hz => h3 _ _ _ _ _ (k _ hz), fun _ _ _ _ _ hz => h4 _ _ _ _ _ (k _ hz)⟩
theorem se_expr (h : EE X c e ρ δ fun _ δ1 => Z (.nx ρ δ1)) (hs : swapsWith e none pos.line X.env = pure false := by rfl) : SE X c (.Expr e pos) ρ δ Z :=
  PS.le (ps_expr h hs) fun D σ H ⟨ps, g, h1, _⟩ => ⟨ps, g, fun v a δ1 H1 hz x1 _ => h1 ρ δ1 σ H1 ps hz (g.ext x1) (g.step x1)⟩
theorem se_ret (h : EE X c e ρ δ fun a δ1 => onV a fun w => Z (.rt w δ1)) : SE X c (.Return (some e) pos) ρ δ Z :=
  PS.le (ps_ret h) fun D σ H ⟨ps, g, _, h2, _⟩ => ⟨ps, g, fun v a δ1 H1 hz x1 r => by
    revert r
    refine onV_elim (P := fun a => RepA (bx X) c.pd (cut H1 (c.xs ++ ps)) H1 v a → _) hz fun w hz r => ?_
    exact h2 v w δ1 H1 ps hz (g.step x1) (fun p e => (g.ext x1).dr p e) r⟩
theorem se_retN (hz : Z (.rt (.d .none) δ)) : SE X c (.Return none pos) ρ δ Z :=
  PS.le ps_retN fun D σ H ⟨ps, g, _, h2, _⟩ => h2 .non _ δ H ps hz Stp.refl g.dr (show Rp _ _ _ _ from .non)
theorem se_brk (hz : Z (.bk ρ δ)) : SE X c (.Break pos) ρ δ Z := PS.le ps_break fun D σ H ⟨ps, g, _, _, h3, _⟩ => h3 ρ δ σ H ps hz g Stp.refl
theorem se_cont (hz : Z (.ct ρ δ)) : SE X c (.Continue pos) ρ δ Z := PS.le ps_continue fun D σ H ⟨ps, g, _, _, _, h4⟩ => h4 ρ δ σ H ps hz g Stp.refl
theorem se_pass (hz : Z (.nx ρ δ)) : SE X c (.Pass pos) ρ δ Z := PS.le ps_pass fun D σ H ⟨ps, g, h1, _⟩ => h1 ρ δ σ H ps hz g Stp.refl
theorem se_if (h : ET X c e ρ δ fun k δ1 => if k = true then SS X c as ρ δ1 Z else SS X c bs ρ δ1 Z) : SE X c (.If e as bs pos) ρ δ Z :=
  PS.le (ps_if h pss_any pss_any) fun D σ H ⟨ps, g, h1, h2, h3, h4⟩ => ⟨ps, g, fun k δ1 H1 hz x1 => by
    have st1 := g.step x1
    have g1 := g.ext x1
    have go : ∀ {l : List Stmt}, SS X c l ρ δ1 Z → aSs X l D σ H1 := fun {l} hl => ⟨_, hl, ps, g1, fun ρ2 δ2 σ2 H2 ps2 hz2 g2 st2 => h1 ρ2 δ2 σ2 H2 ps2 hz2 g2 (st1.trans st2), fun v w δ2 H2 ps2 hz2 st2 hd r => h2 v w δ2 H2 ps2 hz2 (st1.trans st2) hd r,
      fun ρ2 δ2 σ2 H2 ps2 hz2 g2 st2 => h3 ρ2 δ2 σ2 H2 ps2 hz2 g2 (st1.trans st2), fun ρ2 δ2 σ2 H2 ps2 hz2 g2 st2 => h4 ρ2 δ2 σ2 H2 ps2 hz2 g2 (st1.trans st2)⟩
    cases k with
    | true => exact go hz
    | false => exact go hz⟩
/-- name = e -/
theorem se_set (i : Nat) {pos' : Pos} (h : EE X c e ρ δ fun a δ1 => onV a fun w => Z (.nx (ρ.set i (some (.v w))) δ1)) (hN : X.N.Nodup) (hi : X.N[i]? = some x := by rfl) (hx : Loc X.env.scope x := by first | exact .inl rfl | exact .inr rfl)
    (hs : swapsWith e (some (.Name x pos')) pos.line X.env = pure false := by rfl) (hf : X.fn x = true ∨ X.env.scope.names.lookup x = some .local := by first | exact .inl rfl | exact .inr rfl) : SE X c (.Assign [.Name x pos'] e pos) ρ δ Z :=
  PS.le (ps_set hN hi hx h hs hf) fun D σ H ⟨ps, g, h1, _⟩ => ⟨ps, g, fun v a δ1 H1 hz x1 r => by
    revert r
    refine onV_elim (P := fun a => RepA (bx X) c.pd (cut H1 (c.xs ++ ps)) H1 v a → _) hz fun w hz r => ?_
    exact h1 _ δ1 _ H1 ps hz ((g.ext x1).put r i) (g.step x1)⟩
/-- name = a new object, ours -/
theorem se_setN (i : Nat) {pos' : Pos} (h : EN X c e ρ δ fun w δ1 => Z (.nx (ρ.set i (some (.ow w))) δ1)) (hN : X.N.Nodup) (hi : X.N[i]? = some x := by rfl) (hx : Loc X.env.scope x := by first | exact .inl rfl | exact .inr rfl)
    (hs : swapsWith e (some (.Name x pos')) pos.line X.env = pure false := by rfl) (hf : X.fn x = true ∨ X.env.scope.names.lookup x = some .local := by first | exact .inl rfl | exact .inr rfl) : SE X c (.Assign [.Name x pos'] e pos) ρ δ Z :=
  PS.le (ps_set hN hi hx h hs hf) fun D σ H ⟨ps, g, h1, _⟩ => ⟨ps, g, fun p w δ1 H1 hz hp x1 o =>
    h1 _ δ1 _ H1 (p :: ps) hz (g.putN hp x1 o i) ⟨fun a u n q => x1.1 a u (fun z => n (g.dr a z).1) q, fun a q => (List.mem_cons.mp q).elim (fun z => by rw [z]; exact .inr hp) .inl⟩⟩
/-- name = target tuple of an answer -/
theorem se_asg {tg : Expr} (h : EE X c e ρ δ fun a δ1 => onV a fun w => ∃ is, EG X c tg (.one w) ρ δ1 is fun ρ' => Z (.nx ρ' δ1)) (hs : swapsWithSole [tg] e pos.line X.env = pure false := by rfl) (hw : swappedStores [tg] e X.env = pure none := by rfl)
    (h1 : (assignEach [tg] X.env).map (·.2) = [assign tg X.env] := by rfl) : SE X c (.Assign [tg] e pos) ρ δ Z :=
  PS.le (ps_asg h pg_any hs hw h1) fun D σ H ⟨ps, g, h1, _⟩ => ⟨ps, g, fun v a δ1 H1 hz x1 r => by
    revert r
    refine onV_elim (P := fun a => RepA (bx X) c.pd (cut H1 (c.xs ++ ps)) H1 v a → _) hz fun w ⟨is, hz⟩ r => ?_
    exact ⟨_, hz, ps, g.ext x1, r, fun ρ' σ' hz g' _ _ => h1 ρ' δ1 σ' H1 ps hz g' (g.step x1)⟩⟩

/-! ### lists of ours, changed -/
theorem Gd.own {B : Bx} {ps : List Addr} {σ : L2.St} {H : Hp} (g : Gd B c ps ρ δ σ H) {i : Nat} {w : Wd} (e : ρ[i]? = some (some (.ow w))) : ∃ p, σ[i]? = some (some (.ref p)) ∧ p ∈ ps ∧ c.pd ≠ some p ∧ Ow B (cut H (c.xs ++ ps)) H p w := by
  obtain ⟨v, h1, ⟨p, ev, np, o⟩, h3⟩ := g.sl i _ e
  subst ev
  exact ⟨p, h1, h3 p rfl, np, o⟩
theorem step_upd {ps : List Addr} {H H1 : Hp} {p : Addr} {o : HO} (s : Stp ps H ps H1) (hp : p ∈ ps) : Stp ps H ps (upd H1 p o) := s.trans ⟨fun a u n q => by rw [upd_ne (fun z => n (by rw [z]; exact hp))]; exact q, fun _ h => .inl h⟩
theorem se_append (i : Nat) {ds : List PyData} {apos npos : Pos} (hr : ρ[i]? = some (some (.ow (.d (.list ds))))) (h : EE X c e ρ δ fun a δ1 => onD a fun d => ds.length < sizeLine ∧ Z (.nx (ρ.set i (some (.ow (.d (.list (ds ++ [d])))))) δ1))
    (hN : X.N[i]? = some x := by rfl) (hv : Vis X.env.scope x := by first | exact Or.inl rfl | exact Or.inr (Or.inl rfl) | exact Or.inr (Or.inr rfl)) (hd : (x == ("__debug__" : Str)) = false := by decide) (hcd : (x == ("__classdict__" : Str)) = false := by decide)
    (hbase : attributeBase (.Name x npos) "append" X.env (eval (.Name x npos) X.env) = eval (.Name x npos) X.env := by rfl)
    (hfew : ((backTo p (starEach [e] X.env)).all (fun x => !x.1) && (backToKw p (keywordEach [] X.env)).all (fun x => x.1.isSome) && decide ([e].length + ([] : List Keyword).length + (if ([] : List Keyword).isEmpty then 0 else 1) < 30)) = true := by rfl)
    (hline : (apos.endLine == p.line) = true := by rfl) (hst : starEach [e] X.env = (false, eval e X.env) :: starEach [] X.env := by rfl) (hpl : (backTo p (starEach [] X.env)).any (·.1) = false := by rfl)
    (hs : swapsWith (.Call (.Attribute (.Name x npos) "append" apos) [e] [] p) none pos.line X.env = pure false := by rfl) :
    SE X c (.Expr (.Call (.Attribute (.Name x npos) "append" apos) [e] [] p) pos) ρ δ Z :=
  PS.le (ps_expr (pe_bm PySem.F.plainAttrs_list PySem.F.slot_list_append PySem.F.type_list_append mt_append (pe_var hN hv hd hcd) (pa_cons h pa_nil hst) hbase hfew hline hst hpl) hs) fun D σ H ⟨ps, g, h1, _⟩ => by
    obtain ⟨p0, hp0, hin, npd, vs0, hl0, _⟩ := g.own hr
    refine ⟨.ref p0, hp0, .inl ⟨rfl, _, .inl (.inl hl0)⟩, ps, g, fun v a δ1 H1 hz x1 r => ?_⟩
    revert r
    refine onD_elim (P := fun a => RepA (bx X) c.pd (cut H1 (c.xs ++ ps)) H1 v a → _) hz fun d ⟨hlt, hz⟩ r => ?_
    have g1 := g.ext x1
    obtain ⟨p1, hp1, _, _, vs, hl, hds⟩ := g1.own hr
    rw [hp0] at hp1
    cases hp1
    refine ⟨p0, vs, v, rfl, rfl, hl, by rw [dpAll_len hds]; exact hlt, ?_⟩
    exact h1 _ δ1 σ _ ps hz (g1.chg hr hp0 ⟨vs ++ [v], upd_same, dpAll_app hds (.cons r .nil)⟩) (step_upd (g.step x1) hin)
/-- .. a list of dicts -/
theorem se_appendDk (i : Nat) {ds : List (List (Str × PyData))} {apos npos : Pos} (hr : ρ[i]? = some (some (.ow (.ldk ds)))) (h : EE X c e ρ δ fun a δ1 => onDk a fun d => ds.length < sizeLine ∧ Z (.nx (ρ.set i (some (.ow (.ldk (ds ++ [d]))))) δ1))
    (hN : X.N[i]? = some x := by rfl) (hv : Vis X.env.scope x := by first | exact Or.inl rfl | exact Or.inr (Or.inl rfl) | exact Or.inr (Or.inr rfl)) (hd : (x == ("__debug__" : Str)) = false := by decide) (hcd : (x == ("__classdict__" : Str)) = false := by decide)
    (hbase : attributeBase (.Name x npos) "append" X.env (eval (.Name x npos) X.env) = eval (.Name x npos) X.env := by rfl)
    (hfew : ((backTo p (starEach [e] X.env)).all (fun x => !x.1) && (backToKw p (keywordEach [] X.env)).all (fun x => x.1.isSome) && decide ([e].length + ([] : List Keyword).length + (if ([] : List Keyword).isEmpty then 0 else 1) < 30)) = true := by rfl)
    (hline : (apos.endLine == p.line) = true := by rfl) (hst : starEach [e] X.env = (false, eval e X.env) :: starEach [] X.env := by rfl) (hpl : (backTo p (starEach [] X.env)).any (·.1) = false := by rfl)
    (hs : swapsWith (.Call (.Attribute (.Name x npos) "append" apos) [e] [] p) none pos.line X.env = pure false := by rfl) :
    SE X c (.Expr (.Call (.Attribute (.Name x npos) "append" apos) [e] [] p) pos) ρ δ Z :=
  PS.le (ps_expr (pe_bm PySem.F.plainAttrs_list PySem.F.slot_list_append PySem.F.type_list_append mt_append (pe_var hN hv hd hcd) (pa_cons h pa_nil hst) hbase hfew hline hst hpl) hs) fun D σ H ⟨ps, g, h1, _⟩ => by
    obtain ⟨p0, hp0, hin, npd, vs0, hl0, _⟩ := g.own hr
    refine ⟨.ref p0, hp0, .inl ⟨rfl, _, .inl (.inl hl0)⟩, ps, g, fun v a δ1 H1 hz x1 r => ?_⟩
    revert r
    refine onDk_elim (P := fun a => RepA (bx X) c.pd (cut H1 (c.xs ++ ps)) H1 v a → _) hz fun d ⟨hlt, hz⟩ r => ?_
    have g1 := g.ext x1
    obtain ⟨p1, hp1, _, _, vs, hl, hds⟩ := g1.own hr
    rw [hp0] at hp1
    cases hp1
    refine ⟨p0, vs, v, rfl, rfl, hl, by rw [paired_len hds]; exact hlt, ?_⟩
    have app : ∀ {us : List V} {l : List (List (Str × PyData))}, Paired (RepDk (bx X) (cut H1 (c.xs ++ ps))) us l → Paired (RepDk (bx X) (cut H1 (c.xs ++ ps))) (us ++ [v]) (l ++ [d]) := fun {us l} q => by
      induction q with
      | nil => exact .cons r .nil
      | cons a _ ih => exact .cons a ih
    exact h1 _ δ1 σ _ ps hz (g1.chg hr hp0 ⟨vs ++ [v], upd_same, app hds⟩) (step_upd (g.step x1) hin)
/-- xs[k] = e -/
theorem se_setItem (i : Nat) {ds : List PyData} {npos tpos : Pos} (hr : ρ[i]? = some (some (.ow (.d (.list ds)))))
    (h : EE X c e ρ δ fun a1 δ1 => onD a1 fun d => EE X c b ρ δ1 fun a2 δ2 => onI a2 fun k => ∃ j, ixN ds.length k = some j ∧ Z (.nx (ρ.set i (some (.ow (.d (.list (ds.set j d)))))) δ2))
    (hN : X.N[i]? = some x := by rfl) (hv : Vis X.env.scope x := by first | exact Or.inl rfl | exact Or.inr (Or.inl rfl) | exact Or.inr (Or.inr rfl)) (hd : (x == ("__debug__" : Str)) = false := by decide) (hcd : (x == ("__classdict__" : Str)) = false := by decide)
    (ha : ∀ v, assign (.Subscript (.Name x npos) b tpos) X.env v = (do
      let ov ← holding [v] (eval (.Name x npos) X.env)
      let iv ← holding [v, ov] (eval b X.env)
      standAt tpos
      holding [v, ov, iv] (setItem ov iv v)
      release [v, ov, iv] []) := by intro _; rfl)
    (hs : swapsWithSole [.Subscript (.Name x npos) b tpos] e pos.line X.env = pure false := by rfl) (hw : swappedStores [.Subscript (.Name x npos) b tpos] e X.env = pure none := by rfl)
    (h1 : (assignEach [.Subscript (.Name x npos) b tpos] X.env).map (·.2) = [assign (.Subscript (.Name x npos) b tpos) X.env] := by rfl) : SE X c (.Assign [.Subscript (.Name x npos) b tpos] e pos) ρ δ Z :=
  PS.le (ps_asg h (pg_sub (pe_var hN hv hd hcd) pe_any set_list ha) hs hw h1) fun D σ H ⟨ps, g, h1, _⟩ => by
    obtain ⟨p0, hp0, hin, npd, _⟩ := g.own hr
    refine ⟨ps, g, fun v a δ1 H1 hz x1 r => ?_⟩
    revert r
    refine onD_elim (P := fun a => RepA (bx X) c.pd (cut H1 (c.xs ++ ps)) H1 v a → _) hz fun d hz r => ?_
    have g1 := g.ext x1
    refine ⟨.ref p0, hp0, _, hz, ps, g1, fun u a2 δ2 H2 hz2 x2 r2 => ?_⟩
    revert r2
    refine onI_elim (P := fun a => RepA (bx X) c.pd (cut H2 (c.xs ++ ps)) H2 u a → _) hz2 fun k ⟨j, hj, hz3⟩ r2 => ?_
    have g2 := g1.ext x2
    obtain ⟨p1, hp1, _, _, vs, hl, hds⟩ := g2.own hr
    rw [hp0] at hp1
    cases hp1
    refine ⟨p0, vs, k, j, rfl, rep_int r2, hl, by rw [dpAll_len hds]; exact hj, ?_⟩
    have r' : RepA (bx X) c.pd (cut H2 (c.xs ++ ps)) H2 v (.v (.d d)) := g1.repA x2 r
    exact h1 _ δ2 σ _ ps hz3 (g2.chg hr hp0 ⟨vs.set j v, upd_same, dpAll_set r' j hds⟩) (step_upd ((g.step x1).trans (g1.step x2)) hin)
end
end Dl
/-! part dl5 -/
set_option Elab.async false
set_option linter.all false
set_option maxRecDepth 100000
set_option maxHeartbeats 4000000
set_option autoImplicit false
/-! Dl5: targets, walks, for loops, list comprehensions, over data. -/
namespace Dl
open PySem PySem.Spec PyProof.Rows L2

section
variable {X : Cx} {c : Cc} {ρ : En} {δ : List Int} {pos : Pos} {e : Expr} {es : List Expr} {x : Str} {is : List Nat} {Z : En → Prop}
/-! ### targets -/
theorem eg_name (i : Nat) {w : Wd} (hz : Z (ρ.set i (some (.v w)))) (hN : X.N.Nodup) (hi : X.N[i]? = some x := by rfl) (hx : Loc X.env.scope x := by first | exact .inl rfl | exact .inr rfl)
    (hf : X.fn x = true ∨ X.env.scope.names.lookup x = some .local := by first | exact .inl rfl | exact .inr rfl) (hm : i ∈ is := by simp) : EG X c (.Name x pos) (.one w) ρ δ is Z :=
  PG.le (pg_name hN hi hx hf) fun v σ H Q ⟨ps, g, r, k⟩ => k _ _ hz (g.put r i) (List.length_set ..) fun j hj => List.getElem?_set_ne fun z => hj (by rw [← z]; exact hm)
theorem egs_nil (hz : Z ρ) : EGs X c [] [] ρ δ is Z := ⟨fun pins s σ H vs us Q I r ⟨ps, g, q, k⟩ => pgs_nil.run pins s σ H vs us Q I r (by
  cases q
  exact ⟨rfl, k ρ σ hz g rfl fun _ _ => rfl⟩)⟩
theorem egs_cons {ws : List Wd} {w : Wd} (h : EG X c e (.one w) ρ δ is fun ρ' => EGs X c es ws ρ' δ is Z) (hs : (assignEach (e :: es) X.env).map (·.2) = assign e X.env :: (assignEach es X.env).map (·.2) := by rfl) : EGs X c (e :: es) (w :: ws) ρ δ is Z := by
  have any : PGs X es (fun vs σ H Q => ∃ t, PGs X es t ∧ t vs σ H Q) := ⟨fun pins s σ H vs us Q I r ⟨_, h, q⟩ => h.run pins s σ H vs us Q I r q⟩
  refine ⟨fun pins s σ H vs us Q I r ⟨ps, g, q, k⟩ => (pgs_cons h any hs).run pins s σ H vs us Q I r ?_⟩
  cases q with
  | cons q qs =>
    exact ⟨_, _, rfl, ps, g, q, fun ρ' σ' hz g' hl hj => ⟨_, hz, ps, g', qs, fun ρ2 σ2 hz2 g2 hl2 hj2 => k ρ2 σ2 hz2 g2 (hl2.trans hl) fun j n => (hj2 j n).trans (hj j n)⟩⟩
@[reducible] def compsOf : IW → Option (List Wd)
  | .pair ws => some ws
  | .one (.d (.tuple ds)) => some (ds.map Wd.d)
  | _ => none
theorem paired_map {B : Bx} {G : Hp} : ∀ {vs : List V} {ds : List PyData}, RpAll B.K G vs ds → Paired (RepW B G) vs (ds.map Wd.d)
  | _, _, .nil => .nil
  | _, _, .cons h t => .cons h (paired_map t)
theorem eg_tup {y : IW} {ws : List Wd} {k0 n : Nat} (hc : compsOf y = some ws) (h : EGs X c es ws ρ δ is Z) (hcalm : X.calm = true := by rfl) (hn : (assignEach es X.env).length = n := by rfl) (hl : ws.length = n := by rfl)
    (hst : (assignEach es X.env).findIdx? (·.1) = none := by rfl) : EG X c (.Tuple es k0 pos) y ρ δ is Z :=
  PG.le (pg_tup hcalm h hn hst) fun v σ H Q ⟨ps, g, r, k⟩ => by
    cases y with
    | pair ws' =>
      cases hc
      obtain ⟨T, xs, rfl, hT, hp⟩ := r
      exact ⟨T, xs, rfl, .inl (.inl hT), (paired_len hp).trans hl, ps, g, hp, k⟩
    | one w => cases w with
      | d d => cases d with
        | tuple ds =>
          cases hc
          obtain ⟨p, o, vs, rfl, h1, _, h2⟩ := rep_tup (pd := none) (H := H) r
          exact ⟨p, vs, rfl, .inl (.inr ⟨o, cut_le _ _ h1⟩), (paired_len (paired_map (B := bx X) h2)).trans hl, ps, g, paired_map h2, k⟩
        | _ => cases hc
      | _ => cases hc

/-! ### walks -/
theorem eic_of {tg : Expr} {Z : List IW → List Int → Prop} (h : EI X c tg e ρ δ Z) : EIc X c tg e ρ δ Z :=
  PI.le h fun σ H R ⟨ps, g, k⟩ => ⟨ps, g, fun J ys δ' H' hz x1 w => k J ys δ' H' hz x1 fun H2 h2 => w H2 fun a o n e => h2 a o ((g.ext x1).pdIn n) e⟩
theorem walk_list {K : PySem.W.Frag} {P : Program} {w : World} {H0 : Hp} {E : List Addr} {pr : Addr → Prop} {a : Addr} {vs : List V} {ys : List Wd} (hp : ∀ H, (∀ a o, pr a → H0 a = some o → H a = some o) → SqL K H a vs)
    (r : Paired (RepW ⟨P, w, K⟩ (cut H0 E)) vs ys) : WalkOk ⟨P, w, K⟩ (Itl K a) H0 E pr (ys.map .one) := fun H hH => by
  have q := hp H hH
  have hl := paired_len r
  refine ⟨fun i y hy => ?_, fun i hi => ⟨vs, q, by rw [List.length_map] at hi; omega⟩⟩
  rw [List.getElem?_map] at hy
  cases e : ys[i]? with
  | none => rw [e] at hy; cases hy
  | some z =>
    rw [e] at hy
    cases hy
    obtain ⟨v, hv, rv⟩ := paired_at r e
    refine ⟨⟨vs, v, q, hv⟩, fun x H' ⟨h1, h2⟩ => ⟨h1, ?_⟩⟩
    have := h2 vs q
    rw [hv] at this
    cases this
    exact rv
theorem walk_tup {K : PySem.W.Frag} {P : Program} {w : World} {H0 : Hp} {E : List Addr} {pr : Addr → Prop} {a : Addr} {vs : List V} {ys : List Wd} (hp : ∀ H, (∀ a o, pr a → H0 a = some o → H a = some o) → SqT K H a vs)
    (r : Paired (RepW ⟨P, w, K⟩ (cut H0 E)) vs ys) : WalkOk ⟨P, w, K⟩ (Itt K a) H0 E pr (ys.map .one) := fun H hH => by
  have q := hp H hH
  have hl := paired_len r
  refine ⟨fun i y hy => ?_, fun i hi => ⟨vs, q, by rw [List.length_map] at hi; omega⟩⟩
  rw [List.getElem?_map] at hy
  cases e : ys[i]? with
  | none => rw [e] at hy; cases hy
  | some z =>
    rw [e] at hy
    cases hy
    obtain ⟨v, hv, rv⟩ := paired_at r e
    refine ⟨⟨vs, v, q, hv⟩, fun x H' ⟨h1, h2⟩ => ⟨h1, ?_⟩⟩
    have := h2 vs q
    rw [hv] at this
    cases this
    exact rv
theorem sqL_keep {K : PySem.W.Frag} {H0 H : Hp} {E : List Addr} {a : Addr} {vs : List V} (h : SqL K (cut H0 E) a vs) (k : ∀ a o, a ∉ E → H0 a = some o → H a = some o) : SqL K H a vs :=
  Same.seq (fun b o q => by obtain ⟨n, q⟩ := cut_some q; exact k b o n q) h
/-- a list that stands still -/
theorem ei_list {tg : Expr} {Z : List IW → List Int → Prop} (h : EE X c e ρ δ fun a δ1 => onL a fun ds => Z (ds.map fun d => .one (.d d)) δ1) : EI X c tg e ρ δ Z :=
  PI.le (pi_list h) fun σ H R ⟨ps, g, k⟩ => ⟨ps, g, fun v a1 δ1 H1 hz x1 r => by
    revert r
    refine onL_elim (P := fun a => RepA (bx X) c.pd (cut H1 (c.xs ++ ps)) H1 v a → _) hz fun ds hz r => ?_
    obtain ⟨p, vs, rfl, h1, h2⟩ := rep_lst r
    refine ⟨p, rfl, ⟨vs, sqL_up h1⟩, k _ _ δ1 H1 hz x1 ?_⟩
    have w := walk_list (P := X.prog) (w := X.w) (pr := fun a => a ∉ c.xs ++ ps) (a := p) (E := c.xs ++ ps) (H0 := H1) (K := X.K) (ys := ds.map Wd.d) (fun H hH => sqL_keep h1 hH) (paired_map (B := bx X) h2)
    rw [List.map_map] at w
    exact w⟩
/-- a list of dicts that stands still -/
theorem ei_ldk {tg : Expr} {Z : List IW → List Int → Prop} (h : EE X c e ρ δ fun a δ1 => ∃ l, a = .v (.ldk l) ∧ Z (l.map fun d => .one (.dk d)) δ1) : EI X c tg e ρ δ Z :=
  PI.le (pi_list h) fun σ H R ⟨ps, g, k⟩ => ⟨ps, g, fun v a1 δ1 H1 ⟨l, ea, hz⟩ x1 r => by
    subst ea
    obtain ⟨p, vs, rfl, h1, h2⟩ := r
    refine ⟨p, rfl, ⟨vs, .inl (.inl (cut_le _ _ h1))⟩, k _ _ δ1 H1 hz x1 ?_⟩
    have h2' : Paired (RepW (bx X) (cut H1 (c.xs ++ ps))) vs (l.map Wd.dk) := by
      have gen : ∀ {vs : List V} {l : List (List (Str × PyData))}, Paired (RepDk (bx X) (cut H1 (c.xs ++ ps))) vs l → Paired (RepW (bx X) (cut H1 (c.xs ++ ps))) vs (l.map Wd.dk) := fun {vs l} q => by
        induction q with
        | nil => exact .nil
        | cons q _ ih => exact .cons q ih
      exact gen h2
    have w := walk_list (P := X.prog) (w := X.w) (pr := fun a => a ∉ c.xs ++ ps) (a := p) (E := c.xs ++ ps) (H0 := H1) (K := X.K) (ys := l.map Wd.dk) (fun H hH => sqL_keep (.inl (.inl h1)) hH) h2'
    rw [List.map_map] at w
    exact w⟩
/-- a tuple -/
theorem ei_tup {tg : Expr} {Z : List IW → List Int → Prop} (h : EE X c e ρ δ fun a δ1 => onT a fun ds => Z (ds.map fun d => .one (.d d)) δ1) : EI X c tg e ρ δ Z :=
  PI.le (pi_tup h) fun σ H R ⟨ps, g, k⟩ => ⟨ps, g, fun v a1 δ1 H1 hz x1 r => by
    revert r
    refine onT_elim (P := fun a => RepA (bx X) c.pd (cut H1 (c.xs ++ ps)) H1 v a → _) hz fun ds hz r => ?_
    obtain ⟨p, o, vs, rfl, h1, _, h2⟩ := rep_tup r
    obtain ⟨n1, q1⟩ := cut_some h1
    refine ⟨p, rfl, ⟨vs, .inl (.inr ⟨o, q1⟩)⟩, k _ _ δ1 H1 hz x1 ?_⟩
    have w := walk_tup (P := X.prog) (w := X.w) (pr := fun a => a ∉ c.xs ++ ps) (a := p) (E := c.xs ++ ps) (H0 := H1) (K := X.K) (ys := ds.map Wd.d) (fun H hH => .inl (.inr ⟨o, hH _ _ n1 q1⟩)) (paired_map (B := bx X) h2)
    rw [List.map_map] at w
    exact w⟩
/-- a list of ours, in a comprehension -/
theorem eic_own {tg : Expr} {Z : List IW → List Int → Prop} (h : EE X c e ρ δ fun a δ1 => onO a fun ds => Z (ds.map fun d => .one (.d d)) δ1) : EIc X c tg e ρ δ Z :=
  PI.le (pi_list h) fun σ H R ⟨ps, g, k⟩ => ⟨ps, g, fun v a1 δ1 H1 hz x1 r => by
    cases a1 with
    | ow w => cases w with
      | d d => cases d with
        | list ds =>
          obtain ⟨p, rfl, np, vs, h1, h2⟩ := r
          refine ⟨p, rfl, ⟨vs, .inl (.inl h1)⟩, k _ _ δ1 H1 hz x1 ?_⟩
          have w := walk_list (P := X.prog) (w := X.w) (pr := fun a => c.pd ≠ some a) (a := p) (E := c.xs ++ ps) (H0 := H1) (K := X.K) (ys := ds.map Wd.d) (fun H hH => .inl (.inl (hH _ _ np h1))) (paired_map (B := bx X) h2)
          rw [List.map_map] at w
          exact w
        | _ => exact hz.elim
      | _ => exact hz.elim
    | _ => exact hz.elim⟩
/-- range(n) -/
def upTo (n : Nat) : List IW := (List.range n).map fun i => .one (.d (.int (i : Nat)))
theorem upTo_length (n : Nat) : (upTo n).length = n := by unfold upTo; rw [List.length_map, List.length_range]
theorem upTo_get {n i : Nat} {y : IW} (h : (upTo n)[i]? = some y) : i < n ∧ y = .one (.d (.int (i : Nat))) := by
  unfold upTo at h
  rw [List.getElem?_map] at h
  by_cases hi : i < n
  · rw [List.getElem?_range hi] at h
    cases h
    exact ⟨hi, rfl⟩
  · rw [List.getElem?_eq_none (by rw [List.length_range]; omega)] at h
    cases h
theorem ei_range {tg : Expr} {p : Pos} {Z : List IW → List Int → Prop} (hm : X.mg "range" = none) (h : EE X c e ρ δ fun a δ1 => onI a fun j => 0 ≤ j ∧ j < 1000000000 ∧ Z (upTo j.toNat) δ1) (hg : Gl X "range" := by rfl)
    (hs : starEach [e] X.env = [(false, eval e X.env)] := by rfl) : EI X c tg (.Call (.Name "range" p) [e] [] pos) ρ δ Z :=
  PI.le (pi_range1 hg hm (ea_one (Z := fun as δ1 => ∃ a, as = [a] ∧ onI a fun j => 0 ≤ j ∧ j < 1000000000 ∧ Z (upTo j.toNat) δ1) (ee_imp h fun a δ1 hz => ⟨a, rfl, hz⟩) hs) hs) fun σ H R ⟨ps, g, k⟩ => ⟨ps, g, fun vs as δ1 H1 _ ⟨a, ea, hz⟩ x1 r => by
    subst ea
    obtain ⟨v, rfl, ra⟩ := paired_one r
    revert ra
    refine onI_elim (P := fun a => RepA (bx X) c.pd (cut H1 (c.xs ++ ps)) H1 v a → _) hz fun j ⟨hj0, hj, hz⟩ ra => ?_
    have ev := rep_int ra
    subst ev
    refine ⟨j, rfl, by omega, by omega, k _ _ δ1 H1 hz x1 fun H hH => ⟨fun i y hy => ?_, fun i hi => ?_⟩⟩
    · obtain ⟨hi, ey⟩ := upTo_get hy
      subst ey
      refine ⟨hi, fun x H' ⟨e1, e2⟩ => ⟨e1, ?_⟩⟩
      rw [e2, Int.zero_add]
      exact .int _
    · rw [upTo_length] at hi
      exact hi⟩

/-! ### for -/
theorem yrep_l {B : Bx} {ps ps2 : List Addr} {ρ2 : En} {δ2 : List Int} {σ2 : L2.St} {H1 H H' : Hp} {v : V} {y : IW} (g : Gd B c ps2 ρ2 δ2 σ2 H) (sm : Same (cut H1 (c.xs ++ ps)) (cut H (c.xs ++ ps2))) (r : YRep B (cut H1 (c.xs ++ ps)) H H' v y) :
    Xt c δ2 H H' ∧ LRep B (cut H' (c.xs ++ ps2)) H' v y := by
  cases y with
  | one w =>
    obtain ⟨e, r⟩ := r
    subst e
    exact ⟨g.refl, rep_mono sm r⟩
  | pair ws =>
    obtain ⟨T, xs, e, hT, e2, r⟩ := r
    subst e
    subst e2
    have x := Xt.upd (o := .tup xs) g hT
    exact ⟨x, T, xs, rfl, upd_same, paired_imp (fun _ _ q => rep_mono (g.same x) (rep_mono sm q)) r⟩
theorem se_for {tg iter : Expr} {body : List Stmt} {Z : Ot → Prop} (h : EI X c tg iter ρ δ fun ys δ1 => ∃ I : Nat → En → List Int → Prop, I 0 ρ δ1 ∧
      (∀ (i : Nat) (y : IW) ρi δi, ys[i]? = some y → I i ρi δi → ∃ is, EG X c tg y ρi δi is fun ρ2 => SS X c body ρ2 δi fun o => match o with
        | .nx ρ' δ' => I (i + 1) ρ' δ'
        | .ct ρ' δ' => I (i + 1) ρ' δ'
        | .bk ρ' δ' => Z (.nx ρ' δ')
        | .rt w δ' => Z (.rt w δ')) ∧
      ∀ ρ' δ', I ys.length ρ' δ' → Z (.nx ρ' δ'))
    (hp : PassesOwn (model X.prog X.w) X.A X.env X.xe := by exact PassesOwn.never) (hc : X.calm = true := by rfl) (hs : ∀ x, foldedSetIterable iter X.env x = pure x := by intro _; rfl) : SE X c (.For tg iter body [] pos) ρ δ Z :=
  PS.le (ps_for hp hc h pg_any pss_any hs) fun D σ H ⟨ps, g, h1, h2, h3, h4⟩ => ⟨ps, g, fun J ys δ1 H1 ⟨I, i0, it, ie⟩ x1 wk => by
    have g1 := g.ext x1
    have s1 := g.step x1
    refine ⟨fun i m σ2 H2 => m = ys.length - i ∧ i ≤ ys.length ∧ ∃ ρi δi ps2, I i ρi δi ∧ Gd (bx X) c ps2 ρi δi σ2 H2 ∧ Stp ps H1 ps2 H2, ⟨_, rfl, Nat.zero_le _, ρ, δ1, ps, i0, g1, Stp.refl⟩, ?_⟩
    rintro i m σ2 H2 ⟨rfl, hi, ρi, δi, ps2, inv, g2, s2⟩
    have kp : ∀ a o, a ∉ c.xs ++ ps → H1 a = some o → H2 a = some o := fun a o n e => s2.1 a o (fun z => n (List.mem_append_right _ z)) e
    obtain ⟨wg, ws⟩ := wk H2 kp
    by_cases hlt : i < ys.length
    · obtain ⟨gi, yi⟩ := wg i ys[i] (List.getElem?_eq_getElem hlt)
      refine .inr ⟨gi, fun σ3 H3 => ∃ ρ3 δ3 ps3, I (i + 1) ρ3 δ3 ∧ Gd (bx X) c ps3 ρ3 δ3 σ3 H3 ∧ Stp ps H1 ps3 H3, fun σ3 H3 ⟨ρ3, δ3, ps3, a, b, d⟩ => ⟨_, by omega, rfl, hlt, ρ3, δ3, ps3, a, b, d⟩, fun x H' hy => ?_⟩
      have sm : Same (cut H1 (c.xs ++ ps)) (cut H2 (c.xs ++ ps2)) := cut_same kp fun a ha => by
        rcases List.mem_append.mp ha with ha | ha
        · exact .inl (List.mem_append_left _ ha)
        · exact (s2.2 a ha).imp_left (List.mem_append_right _)
      obtain ⟨xt, lr⟩ := yrep_l g2 sm (yi x H' hy)
      obtain ⟨is, hg⟩ := it i ys[i] ρi δi (List.getElem?_eq_getElem hlt) inv
      have g3 := g2.ext xt
      have s3 := s2.trans (g2.step xt)
      refine ⟨_, hg, ps2, g3, lr, fun ρ4 σ4 hss g4 _ _ => ⟨_, hss, ps2, g4, fun ρ' δ' σ' H5 ps5 hz g5 s5 => ⟨ρ', δ', ps5, hz, g5, s3.trans s5⟩, fun v w δ' H5 ps5 hz s5 hd r => h2 v w δ' H5 ps5 hz (s1.trans (s3.trans s5)) hd r,
        fun ρ' δ' σ' H5 ps5 hz g5 s5 => h1 ρ' δ' σ' H5 ps5 hz g5 (s1.trans (s3.trans s5)), fun ρ' δ' σ' H5 ps5 hz g5 s5 => ⟨ρ', δ', ps5, hz, g5, s3.trans s5⟩⟩⟩
    · have e : i = ys.length := by omega
      subst e
      exact .inl ⟨ws _ (Nat.le_refl _), h1 ρi δi σ2 H2 ps2 (ie ρi δi inv) g2 (s1.trans s2)⟩⟩

/-! ### list comprehensions -/
def wipeE (ρ : En) : List Nat → En
  | [] => ρ
  | v :: vs => (wipeE ρ vs).set v none
theorem wipeE_length (ρ : En) : ∀ vs : List Nat, (wipeE ρ vs).length = ρ.length
  | [] => rfl
  | v :: vs => by unfold wipeE; rw [List.length_set, wipeE_length ρ vs]
theorem wipe_get (σ : L2.St) (j : Nat) : ∀ vs : List Nat, (wipe σ vs)[j]? = if j ∈ vs then (σ[j]?).map (fun _ => none) else σ[j]?
  | [] => by simp [wipe]
  | v :: vs => by
    unfold wipe
    have ih := wipe_get σ j vs
    by_cases h : j = v
    · subst h
      rw [List.getElem?_set_self']
      rw [ih]
      simp only [List.mem_cons, true_or, if_true]
      split <;> cases σ[j]? <;> rfl
    · rw [List.getElem?_set_ne (Ne.symm h), ih]
      simp only [List.mem_cons, h, false_or]
theorem wipeE_get (σ : En) (j : Nat) : ∀ vs : List Nat, (wipeE σ vs)[j]? = if j ∈ vs then (σ[j]?).map (fun _ => none) else σ[j]?
  | [] => by simp [wipeE]
  | v :: vs => by
    unfold wipeE
    have ih := wipeE_get σ j vs
    by_cases h : j = v
    · subst h
      rw [List.getElem?_set_self']
      rw [ih]
      simp only [List.mem_cons, true_or, if_true]
      split <;> cases σ[j]? <;> rfl
    · rw [List.getElem?_set_ne (Ne.symm h), ih]
      simp only [List.mem_cons, h, false_or]
theorem Gd.wiped {B : Bx} {ps : List Addr} {σ : L2.St} {H : Hp} (g : Gd B c ps ρ δ σ H) (vs : List Nat) : Gd B c ps (wipeE ρ vs) δ (wipe σ vs) H := by
  have old : ∀ {i : Nat} {s : Arg}, (wipeE ρ vs)[i]? = some (some s) → i ∉ vs ∧ ρ[i]? = some (some s) := fun {i s} e => by
    rw [wipeE_get] at e
    by_cases h : i ∈ vs
    · rw [if_pos h] at e
      cases q : ρ[i]? with
      | none => rw [q] at e; cases e
      | some z => rw [q] at e; cases e
    · rw [if_neg h] at e
      exact ⟨h, e⟩
  refine ⟨g.live, g.apart, g.dr, by rw [wipe_length, wipeE_length, g.len], fun i s e => ?_, fun i j x y v hij e1 e2 f1 f2 => ?_⟩
  · obtain ⟨n, e⟩ := old e
    obtain ⟨v, hv, r⟩ := g.sl i s e
    exact ⟨v, by rw [wipe_get, if_neg n]; exact hv, r⟩
  · obtain ⟨n1, e1⟩ := old e1
    obtain ⟨n2, e2⟩ := old e2
    rw [wipe_get, if_neg n1] at f1
    rw [wipe_get, if_neg n2] at f2
    exact g.dj i j x y v hij e1 e2 f1 f2
theorem wipe_same {σ σ' : L2.St} {vs : List Nat} (hl : σ'.length = σ.length) (hj : ∀ (j : Nat), j ∉ vs → σ'[j]? = σ[j]?) : wipe σ' vs = wipe σ vs := by
  apply List.ext_getElem?
  intro j
  rw [wipe_get, wipe_get]
  by_cases h : j ∈ vs
  · rw [if_pos h, if_pos h]
    by_cases hi : j < σ.length
    · rw [List.getElem?_eq_getElem hi, List.getElem?_eq_getElem (by rw [hl]; exact hi)]
      rfl
    · rw [List.getElem?_eq_none (by omega), List.getElem?_eq_none (by omega)]
  · rw [if_neg h, if_neg h]
    exact hj j h
theorem wipe_wipe {σ : L2.St} {vs : List Nat} : wipe (wipe σ vs) vs = wipe σ vs := wipe_same (wipe_length σ vs) fun j n => by rw [wipe_get, if_neg n]
/-- the data's environment of a comprehension's block -/
abbrev Blk (X : Cx) (scope : Scope) (P : Cx → Prop) : Prop := ∀ (s : Shared) (H : Hp) (C : Addr) (cl : List (Str × Addr)) (fp : List Addr), P (X.blk s H scope (compEnvC scope cl C X.env) fp)
/-- more is ours: a comprehension's list -/
theorem Gd.more {B : Bx} {ps : List Addr} {σ : L2.St} {H : Hp} (g : Gd B c ps ρ δ σ H) {p : Addr} {o : HO} (hp : H p = none) : Gd B c (p :: ps) ρ δ σ (upd H p o) ∧ Same (cut H (c.xs ++ ps)) (cut (upd H p o) (c.xs ++ p :: ps)) := by
  have np : p ∉ c.xs ++ ps := g.fresh hp
  have x := Xt.upd (o := o) g hp
  have g1 := g.ext x
  have sub : ∀ a, a ∈ c.xs ++ p :: ps → a ∈ c.xs ++ ps ∨ a = p := fun a h => by
    rcases List.mem_append.mp h with h | h
    · exact .inl (List.mem_append_left _ h)
    · rcases List.mem_cons.mp h with h | h
      · exact .inr h
      · exact .inl (List.mem_append_right _ h)
  have sm : Same (cut H (c.xs ++ ps)) (cut (upd H p o) (c.xs ++ p :: ps)) := cut_same (fun a u n e => x.1 a u (g.pdIn n) e) fun a h => by
    rcases sub a h with h | h
    · exact .inl h
    · rw [h]; exact .inr hp
  refine ⟨⟨fun a h => ?_, fun a h1 h2 => ?_, fun q e => ⟨List.mem_cons_of_mem _ (g.dr q e).1, x.2 q e⟩, g.len, fun j s e => ?_, g.dj⟩, sm⟩
  · rcases sub a h with h | h
    · exact g1.live a h
    · rw [h, upd_same]; exact fun z => nomatch z
  · rcases List.mem_cons.mp h2 with h | h
    · exact np (by rw [← h]; exact List.mem_append_left _ h1)
    · exact g.apart a h1 h
  · obtain ⟨u, h1, h2, h3⟩ := g.sl j s e
    refine ⟨u, h1, ?_, ?_⟩
    · cases s with
      | v w => exact rep_mono sm h2
      | ow w =>
        obtain ⟨q, e1, nq, oq⟩ := h2
        exact ⟨q, e1, nq, own_mono sm (x.at (own_there oq) nq) oq⟩
      | dr => exact h2
    · cases s with
      | ow w => exact fun q e => List.mem_cons_of_mem _ (h3 q e)
      | _ => trivial
/-- the comprehension's list takes one more -/
theorem Gd.upd0 {B : Bx} {ps : List Addr} {σ : L2.St} {H : Hp} (g : Gd B c ps ρ δ σ H) {p : Addr} {o o' : HO} (hp : p ∈ ps) (hH : H p = some o) (npd : c.pd ≠ some p) (ho : ∀ (i : Nat) (w : Wd), ρ[i]? = some (some (.ow w)) → σ[i]? ≠ some (some (.ref p))) : Gd B c ps ρ δ σ (upd H p o') ∧ cut (upd H p o') (c.xs ++ ps) = cut H (c.xs ++ ps) := by
  have hpE : p ∈ c.xs ++ ps := List.mem_append_right _ hp
  have ec : cut (upd H p o') (c.xs ++ ps) = cut H (c.xs ++ ps) := by
    funext a
    unfold cut
    by_cases ha : a ∈ c.xs ++ ps
    · rw [if_pos ha, if_pos ha]
    · rw [if_neg ha, if_neg ha, upd_ne (fun z => ha (by rw [z]; exact hpE))]
  refine ⟨⟨fun a h => ?_, g.apart, fun q e => ⟨(g.dr q e).1, ?_⟩, g.len, fun j s e => ?_, g.dj⟩, ec⟩
  · by_cases ha : a = p
    · rw [ha, upd_same]; exact fun z => nomatch z
    · rw [upd_ne ha]; exact g.live a h
  · rw [upd_ne (fun z => npd (by rw [← z]; exact e))]
    exact (g.dr q e).2
  · obtain ⟨u, h1, h2, h3⟩ := g.sl j s e
    refine ⟨u, h1, ?_, h3⟩
    rw [ec]
    cases s with
    | v w => exact h2
    | ow w =>
      obtain ⟨q, e1, nq, oq⟩ := h2
      refine ⟨q, e1, nq, own_mono (Same.refl _) (upd_ne fun z => ?_) oq⟩
      subst z
      subst e1
      exact ho j w e h1
    | dr => exact h2
end
end Dl
/-! part dl6 -/
set_option Elab.async false
set_option linter.all false
set_option maxRecDepth 100000
set_option maxHeartbeats 4000000
set_option autoImplicit false
/-! Dl6: list comprehensions over data. -/
namespace Dl
open PySem PySem.Spec PyProof.Rows L2

section
variable {X : Cx} {c : Cc} {ρ : En} {δ : List Int} {pos spos py : Pos} {elt tg iter : Expr} {ifs : List Expr} {scope : Scope} {x : Str} {vs : List Nat} {own : List (Str × Nat)}
def gB (X : Cx) (c : Cc) (scope : Scope) (tg : Expr) : TG := fun v σ H Q => ∃ y ρ δ is Zg, (Blk X scope fun X' => EG X' c tg y ρ δ is Zg) ∧ tG (bx X) c y ρ δ is Zg v σ H Q
def tBs (X : Cx) (c : Cc) (scope : Scope) (ifs : List Expr) : TT := fun σ H Q => ∃ ρ δ Zt, (Blk X scope fun X' => ETs X' c ifs ρ δ Zt) ∧ tT (bx X) c ρ δ Zt σ H Q
def eB (X : Cx) (c : Cc) (scope : Scope) (elt : Expr) : TE := fun σ H Q => ∃ ρ δ Ze, (Blk X scope fun X' => EE X' c elt ρ δ Ze) ∧ tE (bx X) c ρ δ Ze σ H Q
theorem pg_blk (s : Shared) (H : Hp) (C : Addr) (cl : List (Str × Addr)) (fp : List Addr) : PG (X.blk s H scope (compEnvC scope cl C X.env) fp) tg (gB X c scope tg) :=
  ⟨fun pins s1 σ H1 v u Q I r ⟨y, ρ, δ, is, Zg, h, q⟩ => PG.run (h s H C cl fp) pins s1 σ H1 v u Q I r q⟩
theorem pts_blk (s : Shared) (H : Hp) (C : Addr) (cl : List (Str × Addr)) (fp : List Addr) : PTs (X.blk s H scope (compEnvC scope cl C X.env) fp) ifs (tBs X c scope ifs) :=
  ⟨fun pins s1 σ H1 Q I ⟨ρ, δ, Zg, h, q⟩ => PTs.run (h s H C cl fp) pins s1 σ H1 Q I q⟩
theorem pe_blk (s : Shared) (H : Hp) (C : Addr) (cl : List (Str × Addr)) (fp : List Addr) : PE (X.blk s H scope (compEnvC scope cl C X.env) fp) elt (eB X c scope elt) :=
  ⟨fun pins s1 σ H1 Q I ⟨ρ, δ, Zg, h, q⟩ => PE.run (h s H C cl fp) pins s1 σ H1 Q I q⟩
/-- one turn of a comprehension: the target, the tests, the element -/
def LcTurn (X : Cx) (c : Cc) (scope : Scope) (tg elt : Expr) (ifs : List Expr) (ρ : En) (vs : List Nat) (y : IW) (δi : List Int) (yes : PyData → List Int → Prop) (no : List Int → Prop) : Prop :=
  ∃ (R : En) (Zt : Bool → List Int → Prop), (Blk X scope fun X' => EG X' c tg y (wipeE ρ vs) δi vs fun ρ2 => ρ2 = R) ∧ (Blk X scope fun X' => ETs X' c ifs R δi Zt) ∧
    (∀ δ2, Zt true δ2 → Blk X scope fun X' => EE X' c elt R δ2 fun a δ3 => onD a fun d => yes d δ3) ∧ ∀ δ2, Zt false δ2 → no δ2
/-- what is asked of a comprehension's walk -/
def LcZ (X : Cx) (c : Cc) (scope : Scope) (tg elt : Expr) (ifs : List Expr) (ρ : En) (vs : List Nat) (Z : Wd → List Int → Prop) : List IW → List Int → Prop := fun ys δ1 => ys.length < sizeLine ∧
  ∃ I : Nat → List PyData → List Int → Prop, I 0 [] δ1 ∧ (∀ (i : Nat) (y : IW) acc δi, ys[i]? = some y → I i acc δi → LcTurn X c scope tg elt ifs ρ vs y δi (fun d δ3 => I (i + 1) (acc ++ [d]) δ3) fun δ2 => I (i + 1) acc δ2) ∧
    ∀ acc δ', I ys.length acc δ' → Z (.d (.list acc)) δ'
theorem lc_le {Z : Wd → List Int → Prop} (σ : L2.St) (H : Hp) (Q : VK) (h : tN (bx X) c ρ δ Z σ H Q) : tLc (tIc (bx X) c ρ δ (LcZ X c scope tg elt ifs ρ vs Z)) (gB X c scope tg) (tBs X c scope ifs) (eB X c scope elt) vs σ H Q := by
  obtain ⟨ps, g, k⟩ := h
  refine ⟨ps, g, fun J ys δ1 H1 ⟨hlen, I, i0, it, ie⟩ x1 wk D hD => ?_⟩
  have g1 := g.ext x1
  have h0 : H D = none := by
    cases q : H D with
    | none => rfl
    | some o => exact absurd hD (x1.there (by rw [q]; exact fun z => nomatch z))
  have nD : D ∉ c.xs ++ ps := g1.fresh hD
  have npd : c.pd ≠ some D := fun e => nD (List.mem_append_right _ (g1.dr D e).1)
  have hown : ∀ (i : Nat) (w : Wd), (wipeE ρ vs)[i]? = some (some (.ow w)) → (wipe σ vs)[i]? ≠ some (some (.ref D)) := fun i w e z => by
    obtain ⟨v, h1, _, h3⟩ := (g1.wiped vs).sl i _ e
    rw [z] at h1
    cases h1
    exact nD (List.mem_append_right _ (h3 D rfl))
  obtain ⟨gm, sm0⟩ := (g1.wiped vs).more (o := .lst []) hD
  refine ⟨fun i m H2 => m = ys.length - i ∧ i ≤ ys.length ∧ ∃ acc δi av, I i acc δi ∧ acc.length ≤ i ∧ Gd (bx X) c (D :: ps) (wipeE ρ vs) δi (wipe σ vs) H2 ∧ H2 D = some (.lst av) ∧ RpAll X.K (cut H2 (c.xs ++ D :: ps)) av acc ∧
      (∀ a o, c.pd ≠ some a → H1 a = some o → H2 a = some o), ⟨_, rfl, Nat.zero_le _, [], δ1, [], i0, Nat.le_refl _, gm, upd_same, .nil, fun a o _ e => by rw [upd_ne (ne_of_none e hD)]; exact e⟩, ?_⟩
  rintro i m H2 ⟨rfl, hi, acc, δi, av, inv, hacc, g2, hl, rp, kp⟩
  obtain ⟨wg, ws⟩ := wk H2 kp
  by_cases hlt : i < ys.length
  · obtain ⟨gi, yi⟩ := wg i ys[i] (List.getElem?_eq_getElem hlt)
    refine .inr ⟨gi, fun H3 => ∃ acc δ3 av, I (i + 1) acc δ3 ∧ acc.length ≤ i + 1 ∧ Gd (bx X) c (D :: ps) (wipeE ρ vs) δ3 (wipe σ vs) H3 ∧ H3 D = some (.lst av) ∧ RpAll X.K (cut H3 (c.xs ++ D :: ps)) av acc ∧
      (∀ a o, c.pd ≠ some a → H1 a = some o → H3 a = some o), fun H3 q => ⟨_, by omega, rfl, hlt, q⟩, fun x H' hy => ?_⟩
    have sm : Same (cut H1 (c.xs ++ ps)) (cut H2 (c.xs ++ D :: ps)) := cut_same (fun a o n e => kp a o (g1.pdIn n) e) fun a ha => by
      rcases List.mem_append.mp ha with ha | ha
      · exact .inl (List.mem_append_left _ ha)
      · rcases List.mem_cons.mp ha with ha | ha
        · rw [ha]; exact .inr hD
        · exact .inl (List.mem_append_right _ ha)
    obtain ⟨xt, lr⟩ := yrep_l g2 sm (yi x H' hy)
    obtain ⟨R, Zt, hg, ht, he, hn⟩ := it i ys[i] acc δi (List.getElem?_eq_getElem hlt) inv
    have g3 := g2.ext xt
    refine ⟨_, _, _, _, _, hg, D :: ps, g3, lr, fun ρ2 σ2 er g4 hl4 hj4 => ?_⟩
    subst er
    refine ⟨by rw [wipe_same hl4 hj4, wipe_wipe], _, _, _, ht, D :: ps, g4, fun b δ2 H5 hz x5 => ?_⟩
    have done : ∀ {δ3 : List Int} {H6 : Hp}, Xt c δ3 H2 H6 → Gd (bx X) c (D :: ps) (wipeE ρ vs) δ3 (wipe σ vs) H6 ∧ H6 D = some (.lst av) ∧ RpAll X.K (cut H6 (c.xs ++ D :: ps)) av acc ∧ (∀ a o, c.pd ≠ some a → H1 a = some o → H6 a = some o) := fun {δ3 H6} xx =>
      ⟨g2.ext xx, xx.1 D _ npd hl, dpAll_mono (g2.same xx) rp, fun a o n e => xx.1 a o n (kp a o n e)⟩
    cases b with
    | false =>
      show ∃ acc δ3 av, _
      obtain ⟨d1, d2, d3, d4⟩ := done (xt.trans x5)
      exact ⟨acc, δ2, av, hn δ2 hz, by omega, d1, d2, d3, d4⟩
    | true =>
      refine ⟨_, _, _, he δ2 hz, D :: ps, g4.ext x5, fun v a δ3 H6 hz3 x6 r => ?_⟩
      revert r
      refine onD_elim (P := fun a => RepA (bx X) c.pd (cut H6 (c.xs ++ D :: ps)) H6 v a → _) hz3 fun d hz4 r => ?_
      obtain ⟨d1, d2, d3, d4⟩ := done ((xt.trans x5).trans x6)
      obtain ⟨u1, ec⟩ := d1.upd0 (o' := .lst (av ++ [v])) List.mem_cons_self d2 npd hown
      refine ⟨av, d2, by rw [dpAll_len d3]; omega, acc ++ [d], δ3, av ++ [v], hz4, by rw [List.length_append]; simp only [List.length_singleton]; omega, u1, upd_same, by rw [ec]; exact dpAll_app d3 (.cons r .nil), fun a o n e => ?_⟩
      rw [upd_ne (ne_of_none e hD)]
      exact d4 a o n e
  · have e : i = ys.length := by omega
    subst e
    exact .inl ⟨ws _ (Nat.le_refl _), k D (.d (.list acc)) δi H2 (ie acc δi inv) h0 (x1.trans ⟨kp, fun p e => (g2.dr p e).2⟩) ⟨av, hl, rp⟩⟩
theorem en_lc {Z : Wd → List Int → Prop} (hi : EIc X c tg iter ρ δ (LcZ X c scope tg elt ifs ρ vs Z)) (hN : X.N.Nodup) (ok : BlkOk X.N X.env.scope scope own) (hvs : own.map (·.2) = vs := by rfl) (hc : X.calm = true := by rfl)
    (hs : ∀ x, foldedSetIterable iter X.env x = pure x := by intro _; rfl) : EN X c (.ListComp elt [⟨tg, iter, ifs, 0⟩] scope pos) ρ δ Z := by
  subst hvs
  exact PE.le (pe_lc hc hN hi ok pg_blk pts_blk pe_blk hs) fun σ H Q h => lc_le σ H Q h
/-- name = [..], frozen -/
theorem se_setLc (i : Nat) {Z : Ot → Prop} (hi : EIc X c tg iter ρ δ (LcZ X c scope tg elt ifs ρ vs fun w δ1 => mayFrz w = true ∧ Z (.nx (ρ.set i (some (.v w))) δ1))) (hN : X.N.Nodup) (ok : BlkOk X.N X.env.scope scope own)
    (hsw : swapsWith (.ListComp elt [⟨tg, iter, ifs, 0⟩] scope pos) (some (.Name x py)) spos.line X.env = pure true) (hy : X.N[i]? = some x := by rfl) (hyl : X.env.scope.names.lookup x = some .local := by rfl)
    (hvs : own.map (·.2) = vs := by rfl) (hc : X.calm = true := by rfl) (hs : ∀ x, foldedSetIterable iter X.env x = pure x := by intro _; rfl) : SE X c (.Assign [.Name x py] (.ListComp elt [⟨tg, iter, ifs, 0⟩] scope pos) spos) ρ δ Z := by
  subst hvs
  refine PS.le (ps_setLc hc hN hy hyl hsw hi ok pg_blk pts_blk pe_blk hs) fun D σ H ⟨ps, g, h1, _⟩ => lc_le σ H _ ⟨ps, g, fun p w δ1 H1 ⟨hf, hz⟩ hp x1 o => ?_⟩
  refine h1 _ δ1 _ H1 ps hz ((g.ext x1).put (own_rep (cut_same (fun _ _ _ q => q) fun a q => .inl ?_) (by rw [cut_out (g.fresh hp)]) hf o) i) (g.step x1)
  rcases List.mem_append.mp q with q | q
  · exact List.mem_append_left _ q
  · exact List.mem_append_right _ (List.mem_cons_of_mem _ q)
/-- name = [..], ours -/
theorem se_setLcN (i : Nat) {Z : Ot → Prop} (hi : EIc X c tg iter ρ δ (LcZ X c scope tg elt ifs ρ vs fun w δ1 => Z (.nx (ρ.set i (some (.ow w))) δ1))) (hN : X.N.Nodup) (ok : BlkOk X.N X.env.scope scope own)
    (hsw : swapsWith (.ListComp elt [⟨tg, iter, ifs, 0⟩] scope pos) (some (.Name x py)) spos.line X.env = pure true) (hy : X.N[i]? = some x := by rfl) (hyl : X.env.scope.names.lookup x = some .local := by rfl)
    (hvs : own.map (·.2) = vs := by rfl) (hc : X.calm = true := by rfl) (hs : ∀ x, foldedSetIterable iter X.env x = pure x := by intro _; rfl) : SE X c (.Assign [.Name x py] (.ListComp elt [⟨tg, iter, ifs, 0⟩] scope pos) spos) ρ δ Z := by
  subst hvs
  refine PS.le (ps_setLc hc hN hy hyl hsw hi ok pg_blk pts_blk pe_blk hs) fun D σ H ⟨ps, g, h1, _⟩ => lc_le σ H _ ⟨ps, g, fun p w δ1 H1 hz hp x1 o => ?_⟩
  exact h1 _ δ1 _ H1 (p :: ps) hz (g.putN hp x1 o i) ⟨fun a u n q => x1.1 a u (fun z => n (g.dr a z).1) q, fun a q => (List.mem_cons.mp q).elim (fun z => by rw [z]; exact .inr hp) .inl⟩
/-! ### the usual comprehensions -/
theorem ets_nil {Z : Bool → List Int → Prop} (hz : Z true δ) : ETs X c [] ρ δ Z := PTs.le pts_nil fun σ H Q ⟨ps, g, k⟩ => k true δ H hz g.refl
theorem ets_one {e : Expr} {Z : Bool → List Int → Prop} (h : ET X c e ρ δ Z) : ETs X c [e] ρ δ Z := PTs.le (pts_one h) fun _ _ _ q => q
/-- [f(x) for x in xs]: nothing drawn -/
theorem lcz_map {α : Type} {xs : List α} {enc : α → IW} {f : α → PyData} {Z : Wd → List Int → Prop} {δ1 : List Int} (hl : xs.length < sizeLine)
    (turn : ∀ a ∈ xs, ∃ R, (Blk X scope fun X' => EG X' c tg (enc a) (wipeE ρ vs) δ1 vs fun ρ2 => ρ2 = R) ∧ Blk X scope fun X' => EE X' c elt R δ1 fun v δ3 => v = .v (.d (f a)) ∧ δ3 = δ1) (hz : Z (.d (.list (xs.map f))) δ1) :
    LcZ X c scope tg elt [] ρ vs Z (xs.map enc) δ1 := by
  refine ⟨by rw [List.length_map]; exact hl, fun i acc δ' => acc = (xs.take i).map f ∧ δ' = δ1, ⟨rfl, rfl⟩, fun i y acc δi hy ⟨e1, e2⟩ => ?_, fun acc δ' ⟨e1, e2⟩ => ?_⟩
  · subst e1 e2
    rw [List.getElem?_map] at hy
    cases q : xs[i]? with
    | none => rw [q] at hy; cases hy
    | some a =>
      rw [q] at hy
      cases hy
      obtain ⟨R, h1, h2⟩ := turn a (List.mem_of_getElem? q)
      refine ⟨R, fun b δ2 => b = true ∧ δ2 = δi, h1, fun s H C cl fp => ets_nil ⟨rfl, rfl⟩, fun δ2 hh => ?_, fun δ2 hh => (Bool.noConfusion hh.1)⟩
      obtain ⟨_, e⟩ := hh
      subst e
      intro s H C cl fp
      refine ee_imp (h2 s H C cl fp) fun v δ3 ⟨ev, ed⟩ => ?_
      subst ev ed
      refine ⟨?_, rfl⟩
      rw [List.take_add_one, q, List.map_append]
      rfl
  · subst e1 e2
    rw [List.length_map, List.take_length]
    exact hz
/-- [f(x) for x in xs if t(x)] -/
theorem lcz_filter {α : Type} {xs : List α} {enc : α → IW} {f : α → PyData} {t : α → Bool} {te : Expr} {Z : Wd → List Int → Prop} {δ1 : List Int} (hl : xs.length < sizeLine)
    (turn : ∀ a ∈ xs, ∃ R, (Blk X scope fun X' => EG X' c tg (enc a) (wipeE ρ vs) δ1 vs fun ρ2 => ρ2 = R) ∧ (Blk X scope fun X' => ET X' c te R δ1 fun b δ3 => b = t a ∧ δ3 = δ1) ∧
      (t a = true → Blk X scope fun X' => EE X' c elt R δ1 fun v δ3 => v = .v (.d (f a)) ∧ δ3 = δ1)) (hz : Z (.d (.list ((xs.filter t).map f))) δ1) :
    LcZ X c scope tg elt [te] ρ vs Z (xs.map enc) δ1 := by
  refine ⟨by rw [List.length_map]; exact hl, fun i acc δ' => acc = ((xs.take i).filter t).map f ∧ δ' = δ1, ⟨rfl, rfl⟩, fun i y acc δi hy ⟨e1, e2⟩ => ?_, fun acc δ' ⟨e1, e2⟩ => ?_⟩
  · subst e1 e2
    rw [List.getElem?_map] at hy
    cases q : xs[i]? with
    | none => rw [q] at hy; cases hy
    | some a =>
      rw [q] at hy
      cases hy
      obtain ⟨R, h1, h2, h3⟩ := turn a (List.mem_of_getElem? q)
      refine ⟨R, fun b δ2 => b = t a ∧ δ2 = δi, h1, fun s H C cl fp => ets_one (h2 s H C cl fp), fun δ2 hh => ?_, fun δ2 hh => ?_⟩
      · obtain ⟨e3, e⟩ := hh
        subst e
        intro s H C cl fp
        refine ee_imp (h3 e3.symm s H C cl fp) fun v δ3 ⟨ev, ed⟩ => ?_
        subst ev ed
        refine ⟨?_, rfl⟩
        rw [List.take_add_one, q, List.filter_append, List.map_append]
        show _ = _ ++ List.map f (List.filter t [a])
        rw [List.filter_cons, if_pos e3.symm]
        rfl
      · obtain ⟨e3, e⟩ := hh
        subst e
        refine ⟨?_, rfl⟩
        rw [List.take_add_one, q, List.filter_append, List.map_append]
        show _ = _ ++ List.map f (List.filter t [a])
        rw [List.filter_cons, if_neg (by rw [← e3]; exact Bool.false_ne_true)]
        simp
  · subst e1 e2
    rw [List.length_map, List.take_length]
    exact hz
end
end Dl
/-! part dl7 -/
set_option Elab.async false
set_option linter.all false
set_option maxRecDepth 100000
set_option maxHeartbeats 4000000
set_option autoImplicit false
/-! Dl7: dicts whose keys are tuples, at the heap: found, stored, walked. -/
namespace Dl
open PySem PySem.Spec PyProof.Rows L2

/-! ### keys -/
section
variable {X : Cx} {pins : List (Addr × Obj)} {σ : L2.St} {H : Hp} {s : Shared}
mutual
theorem rp_nested (I : Inv X pins σ H s) : ∀ (k : NestedKey) (v : V) (u : Value), Rp X.K H v k.data → RelV v u → NestedIs s.heap k u
  | .none, v, u, h, r => by
    have h' : Rp X.K H v .none := h
    cases h'
    cases r
    exact .none
  | .num i, v, u, h, r => by
    have h' : Rp X.K H v (.int i) := h
    cases h'
    obtain ⟨t, rfl⟩ := r
    exact .int i t
  | .text x, v, u, h, r => by
    have h' : Rp X.K H v (.str x) := h
    cases h'
    obtain ⟨t, rfl⟩ := r
    exact .text x t
  | .tup ks, v, u, h, r => by
    have h' : Rp X.K H v (.tuple (NestedKey.datas ks)) := h
    cases h' with
    | tup h1 _ h3 =>
      cases r
      obtain ⟨hg, _, its, rv, ho⟩ := I.hok _ _ h1
      obtain ⟨o', e1, e2, n, e3⟩ := ho
      exact .tup e1 e2 e3 (rp_nestedAll I ks _ its h3 rv)
theorem rp_nestedAll (I : Inv X pins σ H s) : ∀ (ks : List NestedKey) (vs : List V) (us : List Value), RpAll X.K H vs (NestedKey.datas ks) → Vals vs us → NestedAll s.heap ks us
  | [], vs, us, h, r => by
    have h' : RpAll X.K H vs [] := h
    cases h'
    cases r
    exact .nil
  | k :: ks, vs, us, h, r => by
    have h' : RpAll X.K H vs (k.data :: NestedKey.datas ks) := h
    cases h' with
    | cons h1 h2 => cases r with
      | cons r1 r2 => exact .cons (rp_nested I k _ _ h1 r1) (rp_nestedAll I ks _ _ h2 r2)
end
end

/-! ### finding and storing, over any entries -/
section
variable {α β : Type} {F : α → β → Prop} {ka : α → NestedKey} {kb : β → NestedKey}
theorem find_paired (hk : ∀ a b, F a b → ka a = kb b) (k : NestedKey) : ∀ {l : List α} {m : List β}, Paired F l m →
    (l.find? (fun x => decide (ka x = k)) = none ∧ m.find? (fun x => decide (kb x = k)) = none) ∨ ∃ a b, l.find? (fun x => decide (ka x = k)) = some a ∧ m.find? (fun x => decide (kb x = k)) = some b ∧ F a b
  | _, _, .nil => .inl ⟨rfl, rfl⟩
  | a :: _, b :: _, .cons h t => by
    by_cases e : ka a = k
    · refine .inr ⟨a, b, ?_, ?_, h⟩
      · rw [List.find?_cons_of_pos (by simp [e])]
      · rw [List.find?_cons_of_pos (by simp [← hk a b h, e])]
    · rw [List.find?_cons_of_neg (by simp [e]), List.find?_cons_of_neg (by simp [← hk a b h, e])]
      exact find_paired hk k t
def storeG (ka : α → NestedKey) (k : NestedKey) (up : α → α) (new : α) (l : List α) : List α := if (l.find? (fun x => decide (ka x = k))).isSome = true then l.map (fun x => if ka x = k then up x else x) else l ++ [new]
theorem paired_app {l l' : List α} {m m' : List β} (h : Paired F l m) (h' : Paired F l' m') : Paired F (l ++ l') (m ++ m') := by
  induction h with
  | nil => exact h'
  | cons a _ ih => exact .cons a ih
theorem store_paired (hk : ∀ a b, F a b → ka a = kb b) (k : NestedKey) {ua : α → α} {ub : β → β} {na : α} {nb : β} (hu : ∀ a b, F a b → ka a = k → F (ua a) (ub b)) (hn : F na nb) {l : List α} {m : List β} (h : Paired F l m) :
    Paired F (storeG ka k ua na l) (storeG kb k ub nb m) := by
  unfold storeG
  have mp : ∀ {l : List α} {m : List β}, Paired F l m → Paired F (l.map fun x => if ka x = k then ua x else x) (m.map fun x => if kb x = k then ub x else x) := fun {l m} q => by
    induction q with
    | nil => exact .nil
    | cons r _ ih =>
      refine .cons ?_ ih
      rename_i a b _ _ _
      show F (if ka a = k then ua a else a) (if kb b = k then ub b else b)
      by_cases e : ka a = k
      · rw [if_pos e, if_pos ((hk a b r).symm.trans e)]
        exact hu a b r e
      · rw [if_neg e, if_neg fun z => e ((hk a b r).trans z)]
        exact r
  rcases find_paired hk k h with ⟨e1, e2⟩ | ⟨a, b, e1, e2, _⟩
  · rw [e1, e2]
    exact paired_app h (.cons hn .nil)
  · rw [e1, e2]
    exact mp h
theorem storeG_length (ka : α → NestedKey) (k : NestedKey) (up : α → α) (new : α) (l : List α) : (storeG ka k up new l).length ≤ l.length + 1 := by
  unfold storeG
  split
  · rw [List.length_map]; omega
  · rw [List.length_append]; simp
end
/-- d[k], over data -/
def lookN (kvs : List (NestedKey × PyData)) (k : NestedKey) : Option PyData := (kvs.find? fun p => decide (p.1 = k)).map (·.2)
def putN (kvs : List (NestedKey × PyData)) (k : NestedKey) (d : PyData) : List (NestedKey × PyData) := storeG (·.1) k (fun p => (p.1, d)) (k, d) kvs
def putX (xs : List NX) (k : NestedKey) (a : Addr) (v : V) : List NX := storeG (·.1) k (fun x => (x.1, x.2.1, v)) (k, a, v) xs
theorem storedH_eq (ys : List NY) (k : NestedKey) (a : Addr) (u : Value) : storedH ys k a u = storeG (fun y : NY => y.1) k (fun y => (y.1, y.2.1, u)) (k, a, u) ys := by
  unfold storedH storeG atKey
  rw [Option.isSome_map]
  rfl
theorem putX_nxy {xs : List NX} {ys : List NY} (h : Paired nxy xs ys) (k : NestedKey) (a : Addr) {v : V} {u : Value} (r : RelV v u) : Paired nxy (putX xs k a v) (storedH ys k a u) := by
  rw [storedH_eq]
  exact store_paired (ka := fun x : NX => x.1) (kb := fun y : NY => y.1) (fun _ _ q => q.1) k (fun x y q _ => ⟨q.1, q.2.1, r⟩) ⟨rfl, rfl, r⟩ h
theorem putX_nk {K : PySem.W.Frag} {H : Hp} {xs : List NX} {kvs : List (NestedKey × PyData)} (h : NkOk K H xs kvs) {k : NestedKey} {a : Addr} {v : V} {d : PyData} (hk : Rp K H (.ref a) k.data) (hd : k.depth ≤ 8) (r : Rp K H v d) : NkOk K H (putX xs k a v) (putN kvs k d) :=
  store_paired (ka := fun x : NX => x.1) (kb := fun p : NestedKey × PyData => p.1) (fun _ _ q => q.1) k (fun x p q _ => ⟨q.1, q.2.1, q.2.2.1, r⟩) ⟨rfl, hk, hd, r⟩ h
theorem nx_nodup {xs : List NX} {ys : List NY} (h : Paired nxy xs ys) : xs.map (·.1) = ys.map (·.1) := by
  induction h with
  | nil => rfl
  | cons r _ ih => rw [List.map_cons, List.map_cons, ih, r.1]

section
variable {X : Cx} {pins : List (Addr × Obj)} {σ : L2.St} {H G : Hp} {s : Shared} {p : Addr} {xs : List NX} {kvs : List (NestedKey × PyData)}
/-- the library's dict behind ours -/
theorem dn_of (I : Inv X pins σ H s) (sub : Same G H) (hr : DNraw X.prog X.w p xs s.heap) (nk : NkOk X.K G xs kvs) : xs.length ≤ sizeLine ∧ (p == sysModules) = false ∧ ∃ ys : List NY, Paired nxy xs ys ∧ s.heap.DictOfH (nestedKind X.prog X.w) p ys := by
  obtain ⟨hz, hs, hn, ys, pr, o, es, ep, e1, e2, e3, e4⟩ := hr
  refine ⟨hz, hs, ys, pr, o, es, ep, e1, e2, e3, e4, fun y hy => ?_, by rw [← nx_nodup pr]; exact hn⟩
  obtain ⟨i, hi⟩ := List.getElem?_of_mem hy
  obtain ⟨x, hx, r1, r2, _⟩ := paired_at pr hi
  have hx' : ∃ q, kvs[i]? = some q ∧ (x.1 = q.1 ∧ Rp X.K G (.ref x.2.1) q.1.data ∧ q.1.depth ≤ 8 ∧ Rp X.K G x.2.2 q.2) := by
    have gen : ∀ {l : List NX} {m : List (NestedKey × PyData)} {i : Nat}, NkOk X.K G l m → l[i]? = some x → ∃ q, m[i]? = some q ∧ (x.1 = q.1 ∧ Rp X.K G (.ref x.2.1) q.1.data ∧ q.1.depth ≤ 8 ∧ Rp X.K G x.2.2 q.2) := fun {l m i} h => by
      induction h generalizing i with
      | nil => intro e; simp at e
      | cons r _ ih =>
        cases i with
        | zero => intro e; simp at e; subst e; exact ⟨_, rfl, r⟩
        | succ i => intro e; simpa using ih (i := i) (by simpa using e)
    exact gen nk hx
  obtain ⟨q, _, q1, q2, q3, _⟩ := hx'
  refine ⟨?_, ?_⟩
  · rw [← r1, ← r2, q1]
    exact rp_nested I q.1 _ _ (dp_mono sub q2) rfl
  · rw [← r1, q1]; exact q3
theorem dn_key (I : Inv X pins σ H s) (sub : Same G H) {k : NestedKey} {a : Addr} (h : Rp X.K G (.ref a) k.data) (hd : k.depth ≤ 8) : (nestedKind X.prog X.w).is s.heap k a := ⟨rp_nested I k _ _ (dp_mono sub h) rfl, hd⟩
/-- what stands at a key -/
theorem dn_look {ys : List NY} (pr : Paired nxy xs ys) (nk : NkOk X.K G xs kvs) (k : NestedKey) :
    (atKey ys k = none ∧ lookN kvs k = none) ∨ ∃ b v u d, atKey ys k = some (b, u) ∧ lookN kvs k = some d ∧ RelV v u ∧ Rp X.K G v d := by
  unfold atKey lookN
  rcases find_paired (ka := fun x : NX => x.1) (kb := fun y : NY => y.1) (fun _ _ q => q.1) k pr with ⟨e1, e2⟩ | ⟨x, y, e1, e2, r⟩
  · rcases find_paired (ka := fun x : NX => x.1) (kb := fun p : NestedKey × PyData => p.1) (fun _ _ q => q.1) k nk with ⟨e3, e4⟩ | ⟨x', q, e3, e4, r'⟩
    · exact .inl ⟨by rw [e2]; rfl, by rw [e4]; rfl⟩
    · rw [e1] at e3; cases e3
  · rcases find_paired (ka := fun x : NX => x.1) (kb := fun p : NestedKey × PyData => p.1) (fun _ _ q => q.1) k nk with ⟨e3, e4⟩ | ⟨x', q, e3, e4, r'⟩
    · rw [e1] at e3; cases e3
    · rw [e1] at e3
      cases e3
      exact .inr ⟨y.2.1, x.2.2, y.2.2, q.2, by rw [e2]; rfl, by rw [e4]; rfl, r.2.2, r'.2.2.2⟩
/-- a dict as it stands after a store -/
theorem dn_raw {P : Program} {w : World} {h' : Heap} {ys : List NY} (hz : xs.length ≤ sizeLine) (hs : (p == sysModules) = false) (pr : Paired nxy xs ys) (d : h'.DictOfH (nestedKind P w) p ys) : DNraw P w p xs h' := by
  obtain ⟨o, es, ep, e1, e2, e3, e4, _, hn⟩ := d
  exact ⟨hz, hs, by rw [nx_nodup pr]; exact hn, ys, pr, o, es, ep, e1, e2, e3, e4⟩
theorem dn_ok {P : Program} {w : World} {K : PySem.W.Frag} {H' : Hp} {h' : Heap} (r : DNraw P w p xs h') : ObjOk P w H' h' p (DNo ⟨P, w, K⟩ p xs) := by
  refine ⟨r, ?_, fun h1 h2 q k => ?_⟩
  · obtain ⟨_, _, _, _, _, o, _, _, e, _⟩ := r
    exact ⟨o, e⟩
  · obtain ⟨a, b, c, ys, d, o, es, ep, e, f⟩ := q
    exact ⟨a, b, c, ys, d, o, es, ep, k o e, f⟩
/-- p[k] = v -/
theorem dn_write (I : Inv X pins σ H s) {ys : List NY} {k : NestedKey} {a : Addr} {v : V} {u : Value} {h' : Heap} {t' : Nat} (hH : H p = some (DNo (bx X) p xs)) (hl : xs.length < sizeLine) (hs : (p == sysModules) = false) (pr : Paired nxy xs ys) (rv : RelV v u)
    (hm : h'.DictOfH (nestedKind X.prog X.w) p (storedH ys k a u)) (sb : Heap.SameBut p s.heap h') : Inv X pins σ (upd H p (DNo (bx X) p (putX xs k a v))) { s with heap := h', toks := t' } := by
  have hr : DNraw X.prog X.w p (putX xs k a v) h' := dn_raw (Nat.le_trans (storeG_length ..) hl) hs (putX_nxy pr k a rv) hm
  refine I.write (e := p) (by rw [hH]; trivial) (.inl rfl) (fun b w hb e => (sb.2 b hb).trans e) ?_ (dn_ok hr)
  obtain ⟨o, _, _, e, _⟩ := hm
  exact ⟨o, e⟩
/-- a frozen one -/
theorem frzN (I : Inv X pins σ H s) {o : Obj} (h : H p = some (.frz o (DNo (bx X) p xs))) : (p == sysModules) = false ∧ s.heap.get? p = some o ∧ o.ExactDict ∧ xs.length ≤ sizeLine ∧
    ∃ es ep, o.data = .dict es ep ∧ es.size = xs.length ∧ ∀ (i : Nat) (x : NX), xs[i]? = some x → ∃ en u, es[i]? = some en ∧ en.key = .ref x.2.1 ∧ en.val = u ∧ RelV x.2.2 u := by
  obtain ⟨hg, ⟨hz, hs, _, ys, pr, o', es, ep, e1, e2, e3, e4⟩, _⟩ := I.hok p _ h
  rw [hg] at e1
  cases e1
  refine ⟨hs, hg, e2, hz, es, ep, e3, ?_, fun i x hx => ?_⟩
  · rw [size_of_entries e4, ← paired_len pr]
  · obtain ⟨y, hy, r⟩ := paired_get pr hx
    have q := entry_at e4 i
    rw [hy] at q
    exact ⟨_, _, q, by rw [r.2.1]; rfl, rfl, r.2.2⟩
theorem frzN_raw (I : Inv X pins σ H s) {o : Obj} (h : H p = some (.frz o (DNo (bx X) p xs))) : DNraw X.prog X.w p xs s.heap := (I.hok p _ h).2.1
end

/-! ### k in d, d[k] -/
section
variable {X : Cx}
def rInN (X : Cx) : R2 := fun x y H Q => ∃ (G : Hp) (b p : Addr) (xs : List NX) (kvs : List (NestedKey × PyData)) (k : NestedKey), x = .ref b ∧ y = .ref p ∧ (H p = some (DNo (bx X) p xs) ∨ ∃ o, H p = some (.frz o (DNo (bx X) p xs))) ∧
  Same G H ∧ NkOk X.K G xs kvs ∧ Rp X.K G (.ref b) k.data ∧ k.depth ≤ 8 ∧ Q (.bl (lookN kvs k).isSome) H
theorem raw_at {pins : List (Addr × Obj)} {σ : L2.St} {H : Hp} {s : Shared} {p : Addr} {xs : List NX} (I : Inv X pins σ H s) (h : H p = some (DNo (bx X) p xs) ∨ ∃ o, H p = some (.frz o (DNo (bx X) p xs))) : DNraw X.prog X.w p xs s.heap := by
  rcases h with h | ⟨o, h⟩
  · exact (I.hok p _ h).1
  · exact frzN_raw I h
theorem roomN {k0 : Nat} (hr : Room k0 X.A) : (nestedKind X.prog X.w).room X.A.in1 := by
  have := hr.un
  show X.A.units + 1 + 8 < cLine
  omega
theorem roomN0 {k0 : Nat} (hr : Room k0 X.A) : (nestedKind X.prog X.w).room X.A := by
  have := hr.un
  show X.A.units + 8 < cLine
  omega
theorem op_inN {k0 : Nat} (hr : Room k0 X.A) : OpR X (compareOp .In) (rInN X) := by
  intro pins s σ H x y v u Q I rx ry h
  obtain ⟨G, b, p, xs, kvs, k, rfl, rfl, hp, sub, nk, hk, hd, q⟩ := h
  cases rx
  cases ry
  obtain ⟨_, hs, ys, pr, hm⟩ := dn_of I sub (raw_at I hp) nk
  refine wpAny_in_heap (roomN hr) (dn_key I sub hk hd) hs hm ⟨.bl (atKey ys k).isSome, H, I.tok _, rfl, ?_⟩
  have e : (atKey ys k).isSome = (lookN kvs k).isSome := by
    rcases dn_look pr nk k with ⟨e1, e2⟩ | ⟨_, _, _, _, e1, e2, _⟩
    · rw [e1, e2]; rfl
    · rw [e1, e2]; rfl
  rw [e]
  exact q
def tGetN (X : Cx) (td ty : TE) : TE := fun σ H Q => td σ H fun x H1 => ty σ H1 fun y H2 => ∃ (G : Hp) (b p : Addr) (xs : List NX) (kvs : List (NestedKey × PyData)) (k : NestedKey) (d : PyData), y = .ref b ∧ x = .ref p ∧ (H2 p = some (DNo (bx X) p xs) ∨ ∃ o, H2 p = some (.frz o (DNo (bx X) p xs))) ∧
  Same G H2 ∧ NkOk X.K G xs kvs ∧ Rp X.K G (.ref b) k.data ∧ k.depth ≤ 8 ∧ lookN kvs k = some d ∧ ∀ v, Rp X.K G v d → Q v H2
theorem pe_getN {k0 : Nat} {o i : Expr} {pos : Pos} {td ty : TE} (hr : Room k0 X.A) (ho : PE X o td) (hi : PE X i ty) (hs : NoSl i) : PE X (.Subscript o i pos) (tGetN X td ty) := by
  refine ⟨fun pins s σ H Q I (h : td σ H _) => ?_⟩
  refine subD_of PySem.F.slot_dict_getitem.lookup hs (thn (ho.run pins s σ H _ I h) fun u s1 ⟨x, H1, I1, rx, q1⟩ => thn (hi.run pins s1 σ H1 _ I1 q1) fun iv s2 ⟨y, H2, I2, ry, q2⟩ => ?_)
  obtain ⟨G, b, p, xs, kvs, k, d, ey, ex, hp, sub, nk, hk, hd, hl, q⟩ := q2
  subst ex ey
  obtain rfl : u = Value.ref p := rx
  obtain rfl : iv = Value.ref b := ry
  obtain ⟨_, hsm, ys, pr, hm⟩ := dn_of I2 sub (raw_at I2 hp) nk
  refine ⟨hm.typeIs, ?_⟩
  rcases dn_look pr nk k with ⟨_, e2⟩ | ⟨b', v, w, d', e1, e2, r1, r2⟩
  · rw [hl] at e2; cases e2
  · rw [hl] at e2
    cases e2
    exact wpAny_getItem_heap (roomN hr) (dn_key I2 sub hk hd) hm e1 ⟨v, H2, I2.tok _, r1, q v r2⟩
end

/-! ### walks -/
section
variable {P : Program} {w : World} {K : PySem.W.Frag} {tg : Expr} {d : Addr} {o : Obj} {xs : List NX} {es : Array DictEntry} {ep : Nat}
/-- the keys of the frozen dict at d -/
def ItN (B : Bx) (d : Addr) (o : Obj) (xs : List NX) : It :=
  ⟨fun i H => H d = some (.frz o (DNo B d xs)) ∧ i < xs.length, fun i H x H' => H' = H ∧ ∃ z, xs[i]? = some z ∧ x = .ref z.2.1, fun i H => H d = some (.frz o (DNo B d xs)) ∧ xs.length ≤ i⟩
theorem turn_keysN (it : Addr) (hod : o.data = .dict es ep) : Turn P w K tg (ItN ⟨P, w, K⟩ d o xs) [it] it (fun i h => h.IsKeyIter it d i xs.length ep) where
  mem := by simp
  obj := fun i h st b hb => by
    have e : b = it := by simpa using hb
    subst e
    obtain ⟨q, e, _, dd⟩ := st
    exact ⟨q, e, fun v z => by rw [dd] at z; cases z⟩
  keep := fun i h h' st k => st.at fun q e => k it (by simp) q e
  item := by
    intro X hP hw hK hc i pins s σ H E I hf st hg
    subst hP hw hK
    obtain ⟨hd, hi⟩ := hg
    obtain ⟨f0, f1, _, f3, f4, f5⟩ := hf it (by simp)
    obtain ⟨_, hgd, _, _, es', ep', hdt, hsz, ent⟩ := frzN I hd
    obtain ⟨rfl, rfl⟩ := dict_ep hod hdt
    have hx : xs[i]? = some xs[i] := List.getElem?_eq_getElem hi
    obtain ⟨en, u, hen, hkey, _, _⟩ := ent i _ hx
    refine next_key_item st hgd hdt hsz hen fun h' st' sb => ?_
    have I1 : Inv X pins σ H { s with heap := h' } := I.turned (t' := s.toks) (fun b q hb e => (sb.2 b hb).trans e) f0 f1 f3 f4 f5
    obtain ⟨q, e, cc, dd⟩ := id st'
    refine ⟨en.key, rfl, go_of (s := { s with heap := h' }) e cc dd (by decide) ?_⟩
    exact ⟨.ref xs[i].2.1, H, I1, hkey, ⟨rfl, xs[i], hx, rfl⟩, st', fun b hb => (hf b hb).1⟩
  done := by
    intro X hP hw hK hc i pins s σ H E I hf st hg
    subst hP hw hK
    obtain ⟨hd, hi⟩ := hg
    obtain ⟨f0, f1, _, f3, f4, f5⟩ := hf it (by simp)
    obtain ⟨_, hgd, _, _, es', ep', hdt, hsz, _⟩ := frzN I hd
    obtain ⟨rfl, rfl⟩ := dict_ep hod hdt
    exact next_key_end (I.ok.hd hc) st hgd hdt hsz hi fun h' eb => ⟨rfl, I.turned (t' := s.toks) (fun b q hb e => eb b q hb e) f0 f1 f3 f4 f5⟩
  self := fun A i s Q E st h => wpAny_pyIter_slot st.typeIs F.slot_dict_keyiterator_iter (wpAny_call_entry F.slot_dict_keyiterator_iter st.typeIs F.entry_dict_keyiterator_iter (by
    show wpAny _ _ (ret (.ref it)) _ _ s
    exact wpAny_pure ⟨_, rfl, "dict_keyiterator", _, st.typeIs, F.slot_dict_keyiterator_next.lookup, h⟩) (F.args_dict_keyiterator_iter_1 _))
def iKeysN (B : Bx) (td : TE) : TI := fun σ H R => td σ H fun x H1 => ∃ d o xs, x = .ref d ∧ H1 d = some (.frz o (DNo B d xs)) ∧ R (ItN B d o xs) H1
theorem pi_keysN {X : Cx} {e : Expr} {td : TE} (he : PE X e td) : PI X tg e (iKeysN (bx X) td) := by
  refine ⟨fun pins s σ H R I (h : td σ H _) => thn (he.run pins s σ H _ I h) fun u s1 ⟨x, H1, I1, rx, d, o, xs, ex, hd, q⟩ => ?_⟩
  subst ex
  obtain rfl : u = Value.ref d := rx
  obtain ⟨hs, hgd, hx, _, es, ep, hdt, hsz, _⟩ := frzN I1 hd
  refine iter_keys hs hgd hx hdt (pi_one (tk := s1.toks) I1 _ (turn_keysN _ hdt) ⟨_, Heap.get?_push_size _ rfl, rfl, ?_⟩ q)
  rw [hsz]
  rfl
/-- the pairs, each a new tuple -/
def ItNi (B : Bx) (d : Addr) (o : Obj) (xs : List NX) : It :=
  ⟨fun i H => H d = some (.frz o (DNo B d xs)) ∧ i < xs.length, fun i H x H' => ∃ T z, xs[i]? = some z ∧ x = .ref T ∧ H T = none ∧ H' = upd H T (.tup [.ref z.2.1, z.2.2]), fun i H => H d = some (.frz o (DNo B d xs)) ∧ xs.length ≤ i⟩
end
end Dl
/-! part dl8 -/
set_option Elab.async false
set_option linter.all false
set_option maxRecDepth 100000
set_option maxHeartbeats 4000000
set_option autoImplicit false
/-! Dl8: dicts whose keys are tuples: pairs walked, comprehensions, freezing. -/
namespace Dl
open PySem PySem.Spec PyProof.Rows L2

section
variable {P : Program} {w : World} {K : PySem.W.Frag} {d : Addr} {o : Obj} {xs : List NX} {es : Array DictEntry} {ep : Nat}
theorem turn_itemsN {elts : List Expr} {kk : Nat} {tpos : Pos} (it : Addr) (hod : o.data = .dict es ep) :
    Turn P w K (.Tuple elts kk tpos) (ItNi ⟨P, w, K⟩ d o xs) [it] it (fun i h => ∃ ok ov, IsItemIter h it d i xs.length ep ok ov) where
  mem := by simp
  obj := fun i h st b hb => by
    have e : b = it := by simpa using hb
    subst e
    obtain ⟨_, _, e⟩ := st
    exact ⟨_, e, fun v z => nomatch z⟩
  keep := fun i h h' st k => let ⟨ok, ov, e⟩ := st; ⟨ok, ov, k it (by simp) _ e⟩
  item := by
    intro X hP hw hK hc i pins s σ H E I hf st hg
    subst hP hw hK
    obtain ⟨hd, hi⟩ := hg
    obtain ⟨_, hgd, hx, _, es', ep', hdt, hsz, ent⟩ := frzN I hd
    obtain ⟨rfl, rfl⟩ := dict_ep hod hdt
    have hx0 : xs[i]? = some xs[i] := List.getElem?_eq_getElem hi
    obtain ⟨en, u, hen, hkey, hval, ru⟩ := ent i _ hx0
    obtain ⟨ok, ov, he⟩ := st
    rw [← hsz] at he
    have hlt : it < s.heap.objs.size := Heap.lt_size he
    have hi' : i < es'.size := by omega
    have een : es'[i] = en := by
      rw [Array.getElem?_eq_getElem hi'] at hen
      exact Option.some.inj hen
    refine wpAny_pyNext_items_item_raw he ⟨o, hgd, hx, hod⟩ hi' fun h' ho hT hz hk => ?_
    refine ⟨_, rfl, wpAny_letOwnedTupleGo_items (s := { s with heap := h' }) ho fun h'' he' sb => ?_⟩
    have hT2 : h''.get? s.heap.objs.size = some { cls := .type "tuple", data := .seq #[es'[i].key, es'[i].val] } := (sb.2 _ (Nat.ne_of_gt hlt)).trans hT
    have new : ObjOk X.prog X.w (upd H s.heap.objs.size (.tup [.ref xs[i].2.1, xs[i].2.2])) h'' s.heap.objs.size (.tup [.ref xs[i].2.1, xs[i].2.2]) := by
      refine ⟨by show 2 ≤ sizeLine; decide, [es'[i].key, es'[i].val], .cons ?_ (.cons ?_ .nil), ⟨_, hT2, rfl, _, rfl⟩⟩
      · rw [een]; exact hkey
      · rw [een, hval]; exact ru
    have I1 : Inv X pins σ (upd H s.heap.objs.size (.tup [.ref xs[i].2.1, xs[i].2.2])) { s with heap := h'' } :=
      I.turnedNew (t' := s.toks) (ch := [it]) (fun b q hb e => (sb.2 b (by simpa using hb)).trans (hk b q (by simpa using hb) e)) hf (Nat.le_refl _) new
    refine ⟨.ref s.heap.objs.size, _, I1, rfl, ⟨_, xs[i], hx0, rfl, I.hok.fresh (Nat.le_refl _), rfl⟩, ⟨_, _, by rw [← hsz]; exact he'⟩, fun b hb => ?_⟩
    have e : b = it := by simpa using hb
    rw [e, upd_ne (Nat.ne_of_lt hlt)]
    exact (hf it (by simp)).1
  done := by
    intro X hP hw hK hc i pins s σ H E I hf st hg
    subst hP hw hK
    obtain ⟨hd, hi⟩ := hg
    obtain ⟨f0, f1, _, f3, f4, f5⟩ := hf it (by simp)
    obtain ⟨_, hgd, hx, _, es', ep', hdt, hsz, _⟩ := frzN I hd
    obtain ⟨rfl, rfl⟩ := dict_ep hod hdt
    obtain ⟨ok, ov, he⟩ := st
    rw [← hsz] at he
    exact wpAny_pyNext_items_end_raw (I.ok.hd hc) he ⟨o, hgd, hx, hod⟩ (by omega) fun h' eb => ⟨rfl, I.turned (t' := s.toks) (fun b q hb e => eb b q hb e) f0 f1 f3 f4 f5⟩
  self := fun A i s Q E st h => let ⟨_, _, e⟩ := st; wpAny_pyIter_itemiter e h
def iItemsN (B : Bx) (td : TE) : TI := fun σ H R => td σ H fun x H1 => ∃ d o xs, x = .ref d ∧ H1 d = some (.frz o (DNo B d xs)) ∧ R (ItNi B d o xs) H1
theorem pi_itemsN {X : Cx} {e : Expr} {td : TE} {apos cpos : Pos} {elts : List Expr} {kk : Nat} {tpos : Pos} (he : PE X e td) (hbase : attributeBase e "items" X.env (eval e X.env) = eval e X.env := by rfl) (hline : (apos.endLine == cpos.line) = true := by rfl) :
    PI X (.Tuple elts kk tpos) (.Call (.Attribute e "items" apos) [] [] cpos) (iItemsN (bx X) td) := by
  refine ⟨fun pins s σ H R I (h : td σ H _) => ?_⟩
  refine wpAny_Call_method (T := "dict") (id := "dict.items") hbase rfl hline F.plainAttrs_dict F.slot_dict_items F.type_dict_items (thn (he.run pins s σ H _ I h) fun u s1 ⟨x, H1, I1, rx, d, o, xs, ex, hd, q⟩ => ?_)
  subst ex
  obtain rfl : u = Value.ref d := rx
  obtain ⟨hs, hgd, hx, _, es, ep, hdt, hsz, _⟩ := frzN I1 hd
  have raw : s1.heap.DictRaw d es ep := ⟨o, hgd, hx, hdt⟩
  refine ⟨raw.typeIs, fun a e => by cases e; exact ⟨o, hgd, hx.2.1⟩, ?_⟩
  have I2 : Inv X pins σ H1 { s1 with heap := s1.heap.push { cls := .type "dict_items", data := .fields #[.ref d] } } := I1.kept (t' := s1.toks) fun b q e => Heap.get?_push_of_some _ e
  have raw2 : (s1.heap.push { cls := .type "dict_items", data := .fields #[.ref d] }).DictRaw d es ep := raw.at fun _ e => Heap.get?_push_of_some _ e
  have fin : wpAny (model X.prog X.w) X.A (pyIter (.ref s1.heap.objs.size)) (PIE X pins σ (.Tuple elts kk tpos) R) X.xe { s1 with heap := s1.heap.push { cls := .type "dict_items", data := .fields #[.ref d] } } := by
    refine wpAny_pyIter_items_raw (d := d) ⟨_, Heap.get?_push_size _ rfl, rfl, rfl⟩ raw2 (pi_one (tk := s1.toks) I2 _ (turn_itemsN _ hdt) ⟨.none, .none, ?_⟩ q)
    rw [hsz]
    exact Heap.get?_push_size _ rfl
  exact method_meetsIn F.slot_dict_items F.entry_dict_items rfl (PySem.evalArgs_none ⟨rfl, raw.typeIs, F.args_dict_items_1 _, _, meets_dict_items_raw d hs, ⟨es, ep, raw⟩, fin⟩)
end

/-! ### freezing -/
/-- the object that has come is not changed any more -/
def tFz (t : TE) : TE := fun σ H Q => t σ H fun v H' => ∃ d u, v = .ref d ∧ H' d = some u ∧ Mut (some u) ∧ ∀ o, Q v (upd H' d (.frz o u))
theorem pe_fz {X : Cx} {e : Expr} {t : TE} (h : PE X e t) : PE X e (tFz t) := ⟨fun pins s σ H Q I (hw : t σ H _) =>
  thn (h.run pins s σ H _ I hw) fun v s1 ⟨x, H1, I1, r, d, u, ex, hd, mu, q⟩ => by
    obtain ⟨o, I2⟩ := I1.lock hd mu
    exact ⟨x, _, I2, r, q o⟩⟩

/-! ### dict comprehensions, keys tuples -/
section
variable {X : Cx}
/-- {k: v for target in iter if ..}: D the new dict -/
def tDcN (X : Cx) (wi : TI) (g : TG) (tt : TT) (tk tv : TE) (vs : List Nat) : TE := fun σ H Q => wi σ H fun J H1 => ∀ D, H1 D = none → ∃ W : Nat → Nat → Hp → Prop, (∃ m, W 0 m (upd H1 D (DNo (bx X) D []))) ∧ ∀ i m H, W i m H →
  (J.stop i H ∧ Q (.ref D) H) ∨ (J.go i H ∧ ∃ Nx : Hp → Prop, (∀ H', Nx H' → ∃ m', m' < m ∧ W (i + 1) m' H') ∧ ∀ x H', J.yld i H x H' → g x (wipe σ vs) H' fun σ2 H2 => wipe σ2 vs = wipe σ vs ∧ tt σ2 H2 fun b H3 =>
    if b = true then tk σ2 H3 fun y H4 => tv σ2 H4 fun z H5 => ∃ (G : Hp) (b : Addr) (xs : List NX) (kvs : List (NestedKey × PyData)) (k : NestedKey), y = .ref b ∧ H5 D = some (DNo (bx X) D xs) ∧ Same G H5 ∧ NkOk X.K G xs kvs ∧ Rp X.K G (.ref b) k.data ∧ k.depth ≤ 8 ∧
      xs.length < sizeLine ∧ Nx (upd H5 D (DNo (bx X) D (putX xs k b z))) else Nx H3)
theorem dn_dictSet {pins : List (Addr × Obj)} {σ : L2.St} {H G : Hp} {s : Shared} {E : Value → Shared → Prop} {D b : Addr} {xs : List NX} {kvs : List (NestedKey × PyData)} {k : NestedKey} {v : V} {u r : Value} {Q : Unit → Shared → Prop} {k0 : Nat} (hr : Room k0 X.A)
    (I : Inv X pins σ H s) (hD : H D = some (DNo (bx X) D xs)) (sub : Same G H) (nk : NkOk X.K G xs kvs) (hk : Rp X.K G (.ref b) k.data) (hd : k.depth ≤ 8) (hz : xs.length < sizeLine)
    (ry : RelV (.ref b) u) (rv : RelV v r) (h : ∀ s', Inv X pins σ (upd H D (DNo (bx X) D (putX xs k b v))) s' → Q () s') : wpAny (model X.prog X.w) X.A (dictSet D u r) Q E s := by
  obtain ⟨_, hs, ys, pr, hm⟩ := dn_of I sub (raw_at I (.inl hD)) nk
  cases ry
  exact wpAny_dictSet_heap (roomN0 hr) (dn_key I sub hk hd) hm (fun h' hm' sb => h _ (dn_write I hD hz hs pr rv hm' sb)) (hsz := by rw [← paired_len pr]; omega)
theorem dn_empty {P : Program} {w : World} {K : PySem.W.Frag} {H : Hp} (h : Heap) (hb : sysModules < h.objs.size) : ObjOk P w H (h.push { cls := .type "dict", data := .dict #[] }) h.objs.size (DNo ⟨P, w, K⟩ h.objs.size []) :=
  dn_ok ⟨Nat.zero_le _, by simpa using Nat.ne_of_gt hb, List.nodup_nil, [], .nil, _, #[], 0, Heap.get?_push_size _ rfl, ⟨rfl, rfl, rfl⟩, rfl, rfl⟩
end
end Dl
/-! part dl9 -/
set_option Elab.async false
set_option linter.all false
set_option maxRecDepth 100000
set_option maxHeartbeats 4000000
set_option autoImplicit false
/-! Dl9: dict comprehensions whose keys are tuples: the machine's run. -/
namespace Dl
open PySem PySem.Spec PyProof.Rows L2
section
variable {X : Cx}
theorem dcn_run {pins : List (Addr × Obj)} {s : Shared} {σ : L2.St} {H : Hp} {Q : VK} {kx vx tg iter : Expr} {ifs : List Expr} {scope : Scope} {own : List (Str × Nat)} {pos pos' : Pos} {wi : TI} {g : TG} {tt : TT} {tk tv : TE} {Qf : Value → Shared → Prop} {use : Option (Value → Sem Unit)} {k0 : Nat} (hr : Room k0 X.A)
    (hc : X.calm = true) (hN : X.N.Nodup) (I : Inv X pins σ H s) (hi : PI X tg iter wi) (ok : BlkOk X.N X.env.scope scope own)
    (hg : Blk X scope fun X' => PG X' tg g) (ht : Blk X scope fun X' => PTs X' ifs tt) (hk : Blk X scope fun X' => PE X' kx tk) (he : Blk X scope fun X' => PE X' vx tv) (hs : ∀ x, foldedSetIterable iter X.env x = pure x)
    (h : tDcN X wi g tt tk tv (own.map (·.2)) σ H Q)
    (fin : ∀ D C s' m H', Inv X pins σ H' s' → Q (.ref D) H' → s'.heap.Ns C m → FpOk X pins H' C → compPost (model X.prog X.w) X.A X.xe use Qf (.ref D) C (.ok .next) s') :
    wpAny (model X.prog X.w) X.A (comprehension (.DictComp kx vx [⟨tg, iter, ifs, 0⟩] scope pos) scope X.env pos' newDict false (eval iter X.env) use) Qf X.xe s := by
  have cells : ∀ y ∈ scope.names, y.2 = .free → ∃ a, X.env.cells.lookup y.1 = some a := fun y hy e => (ok.free y hy e).elim (fun q => I.ok.has _ (.inl q)) fun q => I.ok.has _ (.inr q)
  refine wpAny_comprehension_free (use := use) rfl hs (closure_ok cells) ok.kind (fun y hy e => (ok.uniq y hy).trans (congrArg some e)) (thn (hi.run pins s σ H _ I h) fun xv s1 hx => thn hx fun itv s2 hcome => ?_)
  obtain ⟨it, fp, tn, J, H2, eit, I2, T, t2, f2, q⟩ := hcome
  subst eit
  refine wpAny_newObj_type (newEnv_comp ?_)
  generalize hD : s2.heap.objs.size = D
  have freeD : H2 D = none := I2.hok.fresh (Nat.le_of_eq hD)
  obtain ⟨W, ⟨m0, w0⟩, turn⟩ := q D freeD
  generalize es3 : ({ s2 with heap := s2.heap.push { cls := .type "dict", data := .dict #[] } } : Shared) = s3
  have I3 : Inv X pins σ (upd H2 D (DNo (bx X) D [])) s3 := by
    subst es3 hD
    exact I2.laid (t' := s2.toks) (fun b o e => Heap.get?_push_of_some _ e) (Nat.le_refl _) (dn_empty s2.heap I2.big)
  have heq3 : s3.heap = s2.heap.push { cls := .type "dict", data := .dict #[] } := by rw [← es3]
  have low : ∀ b ∈ fp, b < s2.heap.objs.size := fun b hb => let ⟨_, e, _⟩ := T.obj _ _ t2 b hb; Heap.lt_size e
  have f3 : ∀ b ∈ fp, FpOk X pins (upd H2 D (DNo (bx X) D [])) b ∧ b < s3.heap.objs.size := fun b hb => ⟨⟨by
      rw [upd_ne (by rw [← hD]; exact Nat.ne_of_lt (low b hb))]
      exact (f2 b hb).1, (f2 b hb).2⟩, by rw [heq3, Heap.size_push]; exact Nat.lt_succ_of_lt (low b hb)⟩
  have t3 : tn 0 s3.heap := T.keep _ _ _ t2 fun b _ o e => by rw [heq3]; exact Heap.get?_push_of_some _ e
  have I4 := block_start I3 ok hN f3
  generalize ecl : cellsFrom (s3.heap.objs.size + 1) scope.names (cloFrom X.env.cells scope.names []) = cl at I4 ⊢
  have rg := hg s3 (upd H2 D (DNo (bx X) D [])) s3.heap.objs.size cl fp
  have rt := ht s3 (upd H2 D (DNo (bx X) D [])) s3.heap.objs.size cl fp
  have rk := hk s3 (upd H2 D (DNo (bx X) D [])) s3.heap.objs.size cl fp
  have re := he s3 (upd H2 D (DNo (bx X) D [])) s3.heap.objs.size cl fp
  show codeAny _ _ (.compStart (.DictComp kx vx [⟨tg, iter, ifs, 0⟩] scope pos) 0 (.ref it) (.ref D) (compEnvC scope cl s3.heap.objs.size X.env)) (compPost (model X.prog X.w) X.A X.xe use Qf (.ref D) s3.heap.objs.size) { s3 with heap := pushCells (s3.heap.push { cls := .type "dict", data := .dict #[] }) scope.names }
  have none3 : ∀ b ∈ fp, (upd H2 D (DNo (bx X) D [])) b = none := fun b hb => (f3 b hb).1.1
  generalize ece : compEnvC scope cl s3.heap.objs.size X.env = ce at I4 rg rt rk re ⊢
  have cL : ce.locals = s3.heap.objs.size := by rw [← ece]; rfl
  generalize eH3 : upd H2 D (DNo (bx X) D []) = H3 at I3 I4 rg rt rk re w0 none3 f3
  generalize es4 : ({ s3 with heap := pushCells (s3.heap.push { cls := .type "dict", data := .dict #[] }) scope.names } : Shared) = s4 at I4 ⊢
  have t4 : tn 0 s4.heap := T.keep _ _ _ t3 fun b _ o e => by rw [← es4]; exact pushCells_keeps _ _ _ _ (Heap.get?_push_of_some _ e)
  have apart : ∀ {σ' : L2.St} {H' : Hp} {s' : Shared}, Inv (X.blk s3 H3 scope ce fp) [] σ' H' s' → (∀ b ∈ fp, H' b = none) → ∀ b ∈ fp, FpOk (X.blk s3 H3 scope ce fp) [] H' b := fun {σ' H' s'} J' hn b hb =>
    ⟨hn b hb, (J'.ok.exf b hb).1, J'.ok.exfs b hb, .inl hb, fun x c e => (J'.ok.exf b hb).2 x c e, fun p hp => by cases (show p ∈ ([] : List (Addr × Obj)) ++ [] from hp)⟩
  have walked : codeAny (model X.prog X.w) X.A (.compLoop (.DictComp kx vx [⟨tg, iter, ifs, 0⟩] scope pos) 0 (.ref it) (.ref D) ce) (compPost (model X.prog X.w) X.A X.xe use Qf (.ref D) s3.heap.objs.size) s4 := by
    refine compLoop_anyD (fun n s' => ∃ i H', Inv (X.blk s3 H3 scope ce fp) [] (wipe σ (own.map (·.2))) H' s' ∧ tn i s'.heap ∧ (∀ b ∈ fp, H' b = none) ∧ W i n H') ?_ m0 ⟨0, H3, I4, t4, none3, w0⟩
    rintro n s5 ⟨i, H5, I5, t5, n5, w5⟩
    rcases turn i n H5 w5 with ⟨stop, atEnd⟩ | ⟨go, Nx, hNx, step⟩
    · refine thnF (T.done (X.blk s3 H3 scope ce fp) rfl rfl rfl hc i [] s5 _ H5 (fun _ _ => False) I5 (apart I5 n5) t5 stop) fun r s6 ⟨hrn, I6⟩ => ?_
      subst hrn
      have I7 : Inv X pins σ H5 s6 := I3.call' (ch := fp) I6.os I6.base I6.hok I6.bare fun b hb => let z := (f3 b hb).1; ⟨z.2.2.2.1, z.2.1, z.2.2.2.2.1, z.2.2.2.2.2⟩
      have nC : H5 s3.heap.objs.size = none := cL ▸ (show H5 ce.locals = none from I6.free)
      obtain ⟨m, hn, _⟩ := I6.loc
      exact fin D s3.heap.objs.size s6 m H5 I7 atEnd (cL ▸ (show s6.heap.Ns ce.locals m from hn)) (I3.fpOk (Nat.le_refl _) nC)
    · refine thnF (T.item (X.blk s3 H3 scope ce fp) rfl rfl rfl hc i [] s5 _ H5 (fun _ _ => False) I5 (apart I5 n5) t5 go) fun r s6 ⟨u, hru, h6⟩ => ?_
      subst hru
      refine thnF h6 fun _ s7 ⟨x, H7, I7, r7, y7, t7, n7⟩ => ?_
      have I7p := I7.pinned (apart I7 n7) (T.obj _ _ t7)
      refine thnF (rg.run _ s7 _ H7 x u _ I7p r7 (step x H7 y7)) fun _ s8 ⟨σ8, H8, I8, hw8, q8⟩ => ?_
      refine thnF (rt.run _ s8 σ8 H8 _ I8 q8) fun b s9 ⟨H9, I9, q9⟩ => ?_
      have again : ∀ {s' : Shared} {H' : Hp}, Inv (X.blk s3 H3 scope ce fp) ([] ++ pinsAt fp s7.heap) σ8 H' s' → Nx H' → ∃ m, m < n ∧ ∃ i H', Inv (X.blk s3 H3 scope ce fp) [] (wipe σ (own.map (·.2))) H' s' ∧ tn i s'.heap ∧ (∀ b ∈ fp, H' b = none) ∧ W i m H' := fun {s' H'} J' nx => by
        obtain ⟨m', hm, w'⟩ := hNx H' nx
        have pinned : ∀ b ∈ fp, ∀ o, s7.heap.get? b = some o → s'.heap.get? b = some o ∧ H' b = none := fun b hb o e =>
          (fun z => ⟨z.1, z.2.1⟩) (J'.pin (b, o) (List.mem_append_right _ (List.mem_append_right _ (mem_pinsAt hb e))))
        refine ⟨m', hm, i + 1, H', (J'.unpinned (pins := [])).weak (by rw [← hw8, wipe_length]) (fun j v e => ?_), T.keep _ _ _ t7 fun b hb o e => (pinned b hb o e).1, fun b hb => ?_, w'⟩
        · rw [← hw8] at e
          exact (wipe_some e).1
        · obtain ⟨o, e, _⟩ := T.obj _ _ t7 b hb
          exact (pinned b hb o e).2
      cases b with
      | false =>
        have q9' : Nx H9 := q9
        exact again I9 q9'
      | true =>
        refine thnF (rk.run _ s9 σ8 H9 _ I9 q9) fun z s10 ⟨yk, H10, I10, r10, q10⟩ => ?_
        refine thnF (re.run _ s10 σ8 H10 _ I10 q10) fun z2 s11 ⟨yv, H11, I11, r11, G, b, xs, kvs, k, eb, hD11, sub, nk, hkk, hdd, hz11, nx⟩ => ?_
        subst eb
        exact dn_dictSet (X := X.blk s3 H3 scope ce fp) hr I11 hD11 sub nk hkk hdd hz11 r10 r11 fun s12 I12 => again I12 nx
  exact codeAny_compStart_dict walked (T.self X.A 0 _ _ _ t4 walked)
theorem pe_dcN {kx vx tg iter : Expr} {ifs : List Expr} {scope : Scope} {own : List (Str × Nat)} {pos : Pos} {wi : TI} {g : TG} {tt : TT} {tk tv : TE} {k0 : Nat} (hr : Room k0 X.A) (hc : X.calm = true) (hN : X.N.Nodup) (hi : PI X tg iter wi) (ok : BlkOk X.N X.env.scope scope own)
    (hg : Blk X scope fun X' => PG X' tg g) (ht : Blk X scope fun X' => PTs X' ifs tt) (hk : Blk X scope fun X' => PE X' kx tk) (he : Blk X scope fun X' => PE X' vx tv) (hs : ∀ x, foldedSetIterable iter X.env x = pure x := by intro _; rfl) :
    PE X (.DictComp kx vx [⟨tg, iter, ifs, 0⟩] scope pos) (tDcN X wi g tt tk tv (own.map (·.2))) := by
  refine ⟨fun pins s σ H Q I h => ?_⟩
  rw [arm_eval_DictComp]
  refine dcn_run hr hc hN I hi ok hg ht hk he hs h fun D C s' m H' J' q hn f => ⟨m, hn, fun h'' sb => ?_⟩
  obtain ⟨f0, f1, _, f3, f4, f5⟩ := f
  exact ⟨.ref D, H', J'.turned (t' := s'.toks) (fun b o hb e => (sb.2 b hb).trans e) f0 f1 f3 f4 f5, rfl, q⟩
end
end Dl
/-! part dl10 -/
set_option Elab.async false
set_option linter.all false
set_option maxRecDepth 100000
set_option maxHeartbeats 4000000
set_option autoImplicit false
/-! Dl10: dicts with text keys. -/
namespace Dl
open PySem PySem.Spec PyProof.Rows L2
def getS (kvs : List (Str × PyData)) (k : Str) : Option PyData := (kvs.find? fun p => decide (p.1 = k)).map (·.2)
theorem kv_val {K : PySem.W.Frag} {H : Hp} : ∀ {vs : List (Key × V)} {kvs : List (Str × PyData)}, KvOk K H vs kvs → ∀ k : Str, (valV vs (.inr k) = none ∧ getS kvs k = none) ∨ ∃ v d, valV vs (.inr k) = some v ∧ getS kvs k = some d ∧ Rp K H v d
  | _, _, .nil, k => .inl ⟨rfl, rfl⟩
  | _, _, .cons (a := a) (b := b) (l₁ := r) (l₂ := r') h t, k => by
    by_cases e : b.1 = k
    · exact .inr ⟨a.2, b.2, valV_pos (h.1.trans (congrArg _ e)), by simp [getS, e], h.2⟩
    · have e' : ¬ a.1 = .inr k := fun z => e (Sum.inr.inj (h.1.symm.trans z))
      have e2 : getS (b :: r') k = getS r' k := by simp [getS, e]
      rw [valV_neg e', e2]
      exact kv_val t k
theorem kv_len {K : PySem.W.Frag} {H : Hp} {vs : List (Key × V)} {kvs : List (Str × PyData)} (h : KvOk K H vs kvs) : vs.length = kvs.length := paired_len h
theorem kv_app {K : PySem.W.Frag} {H : Hp} {vs : List (Key × V)} {kvs : List (Str × PyData)} {k : Str} {v : V} {d : PyData} (h : KvOk K H vs kvs) (r : Rp K H v d) : KvOk K H (vs ++ [(.inr k, v)]) (kvs ++ [(k, d)]) := paired_app h (.cons ⟨rfl, r⟩ .nil)
section
variable {X : Cx} {c : Cc} {ρ : En} {δ : List Int} {Z : ZE} {pos p : Pos} {a b e f : Expr} {x : Str} {kk : Nat}
theorem cut_cons {H : Hp} {E ps : List Addr} {p : Addr} {o : HO} (hp : H p = none) : Same (cut H (E ++ ps)) (cut (upd H p o) (E ++ p :: ps)) := cut_same (fun a u n q => by rw [upd_ne (ne_of_none q hp)]; exact q) fun a q => by
  rcases List.mem_append.mp q with q | q
  · exact .inl (List.mem_append_left _ q)
  · rcases List.mem_cons.mp q with q | q
    · subst q; exact .inr hp
    · exact .inl (List.mem_append_right _ q)
/-- a new object, ours -/
theorem new_ow {B : Bx} {ps : List Addr} {δ' : List Int} {σ : L2.St} {H H1 : Hp} {p : Addr} {o : HO} (g : Gd B c ps ρ δ σ H) (x : Xt c δ' H H1) (hp : H1 p = none) : H p = none ∧ Xt c δ' H (upd H1 p o) := by
  refine ⟨?_, x.trans (Xt.upd (g.ext x) hp)⟩
  cases q : H p with
  | none => rfl
  | some o => exact absurd hp (x.there (by rw [q]; exact fun z => nomatch z))
/-- {} with text keys -/
theorem en_dk0 {Z : Wd → List Int → Prop} (hz : Z (.dk []) δ) : EN X c (.Dict [] [] pos) ρ δ Z :=
  PE.le pe_dnewK fun σ H Q ⟨ps, g, k⟩ => fun p hp => k p (.dk []) δ _ hz hp (Xt.upd g hp) ⟨[], upd_same, .nil⟩
/-- dict(d) -/
theorem en_dictD {Z : Wd → List Int → Prop} (hm : X.mg "dict" = none) (h : EE X c e ρ δ fun a δ1 => onDk a fun kvs => Z (.dk kvs) δ1) (hg : Gl X "dict" := by rfl)
    (hs : starEach [e] X.env = (false, eval e X.env) :: starEach [] X.env := by rfl) : EN X c (.Call (.Name "dict" p) [e] [] pos) ρ δ Z :=
  PE.le (pe_callTy call_dictD hg hm (by first | exact PyProof.Rows.boot_dict | rfl | decide +kernel) (ea_one (Z := fun as δ1 => ∃ a, as = [a] ∧ onDk a fun kvs => Z (.dk kvs) δ1) (ee_imp h fun a δ1 hz => ⟨a, rfl, hz⟩) hs) (he := hs)) fun σ H Q ⟨ps, g, k⟩ =>
    ⟨ps, g, fun vs as δ1 H1 _ ⟨a, ea, hq⟩ x1 r1 => by
      subst ea
      obtain ⟨v, rfl, ra⟩ := paired_one r1
      revert ra
      refine onDk_elim (P := fun a1 => RepA (bx X) c.pd (cut H1 (c.xs ++ ps)) H1 v a1 → _) hq fun kvs hz ra => ?_
      obtain ⟨q, us, ev, h1, h2⟩ := ra
      refine ⟨q, us, by rw [ev], .inl (cut_le _ _ h1), fun l hl => ?_⟩
      obtain ⟨n0, xx⟩ := new_ow (o := .dK us) g x1 hl
      exact k l (.dk kvs) δ1 _ hz n0 xx ⟨us, upd_same, kv_mono (cut_cons hl) h2⟩⟩
/-- d[k] -/
theorem ee_dget (hr : Room kk X.A) (h : EE X c a ρ δ fun a1 δ1 => onDk a1 fun kvs => EE X c b ρ δ1 fun a2 δ2 => onStr a2 fun k => ∃ d, getS kvs k = some d ∧ Z (.v (.d d)) δ2) (hs : NoSl b := by exact fun _ _ => rfl) : EE X c (.Subscript a b pos) ρ δ Z :=
  PE.le (pe_dget (by have := hr.units; omega) h pe_any hs) fun σ H Q ⟨ps, g, k⟩ => ⟨ps, g, fun v a1 δ1 H1 hz x1 r1 => by
    revert r1
    refine onDk_elim (P := fun a1 => RepA (bx X) c.pd (cut H1 (c.xs ++ ps)) H1 v a1 → _) hz fun kvs hb r1 => ?_
    have g1 := g.ext x1
    refine ⟨_, hb, ps, g1, fun u a2 δ2 H2 hz2 x2 r2 => ?_⟩
    revert r2
    refine onStr_elim (P := fun a2 => RepA (bx X) c.pd (cut H2 (c.xs ++ ps)) H2 u a2 → _) hz2 fun kx ⟨d, hd, hz3⟩ r2 => ?_
    obtain ⟨p, vs, e1, h1, h2⟩ := g1.repA x2 r1
    rcases kv_val h2 kx with ⟨_, n⟩ | ⟨v', d', q1, q2, q3⟩
    · rw [n] at hd; cases hd
    · rw [q2] at hd
      cases hd
      exact ⟨p, v', e1, .inl ⟨vs, .inr kx, .inl (cut_le _ _ h1), rep_str r2, q1.symm⟩, k v' (.v (.d d)) δ2 H2 hz3 (x1.trans x2) q3⟩⟩
/-- k in d -/
theorem et_inDk {Zt : Bool → List Int → Prop} (hr : Room kk X.A) (h : EE X c a ρ δ fun a1 δ1 => onStr a1 fun k => EE X c b ρ δ1 fun a2 δ2 => onDk a2 fun kvs => Zt (getS kvs k).isSome δ2) (hm : behindInMarks .In b = false := by rfl) : ET X c (.Compare a [.In] [b] pos) ρ δ Zt :=
  PT.le (pt_cmp (pc_din (by have := hr.units; omega) h pe_any) hm) fun σ H Q ⟨ps, g, k⟩ => ⟨ps, g, fun v a1 δ1 H1 hz x1 r1 => by
    revert r1
    refine onStr_elim (P := fun a1 => RepA (bx X) c.pd (cut H1 (c.xs ++ ps)) H1 v a1 → _) hz fun kx hb r1 => ?_
    have g1 := g.ext x1
    refine ⟨_, hb, ps, g1, fun u a2 δ2 H2 hz2 x2 r2 => ?_⟩
    revert r2
    refine onDk_elim (P := fun a2 => RepA (bx X) c.pd (cut H2 (c.xs ++ ps)) H2 u a2 → _) hz2 fun kvs hz3 r2 => ?_
    obtain ⟨p, vs, e1, h1, h2⟩ := r2
    rcases kv_val h2 kx with ⟨q1, q2⟩ | ⟨v', d', q1, q2, q3⟩
    · rw [q2] at hz3
      exact ⟨p, none, e1, .inl ⟨vs, .inr kx, .inl (cut_le _ _ h1), rep_str r1, q1.symm⟩, _, rfl, k false δ2 H2 hz3 (x1.trans x2)⟩
    · rw [q2] at hz3
      exact ⟨p, some v', e1, .inl ⟨vs, .inr kx, .inl (cut_le _ _ h1), rep_str r1, q1.symm⟩, _, rfl, k true δ2 H2 hz3 (x1.trans x2)⟩⟩

/-! ### expressions that change what is ours -/
def tM (B : Bx) (c : Cc) (ρ : En) (δ : List Int) (Z : Arg → En → List Int → Prop) : TE := fun σ H Q => ∃ ps, Gd B c ps ρ δ σ H ∧ ∀ v a ρ' δ' H', Z a ρ' δ' → Gd B c ps ρ' δ' σ H' → Stp ps H ps H' → RepA B c.pd (cut H' (c.xs ++ ps)) H' v a → Q v H'
def EM (X : Cx) (c : Cc) (e : Expr) (ρ : En) (δ : List Int) (Z : Arg → En → List Int → Prop) : Prop := PE X e (tM (bx X) c ρ δ Z)
def tMT (B : Bx) (c : Cc) (ρ : En) (δ : List Int) (Z : Bool → En → List Int → Prop) : TT := fun σ H Q => ∃ ps, Gd B c ps ρ δ σ H ∧ ∀ b ρ' δ' H', Z b ρ' δ' → Gd B c ps ρ' δ' σ H' → Stp ps H ps H' → Q b H'
def EMT (X : Cx) (c : Cc) (e : Expr) (ρ : En) (δ : List Int) (Z : Bool → En → List Int → Prop) : Prop := PT X e (tMT (bx X) c ρ δ Z)
theorem emt_ne {Z : Bool → En → List Int → Prop} (hr : Room kk X.A) (h : EM X c a ρ δ fun a1 ρ1 δ1 => onD a1 fun d => EE X c b ρ1 δ1 fun a2 δ2 => onD a2 fun e => okD d ∧ okD e ∧ Z (!PyData.eqv d e) ρ1 δ2) : EMT X c (.Compare a [.NotEq] [b] pos) ρ δ Z :=
  PT.le (pt_cmpR (op_neP hr.units) h pe_any (nomark _)) fun σ H Q ⟨ps, g, k⟩ => ⟨ps, g, fun v a1 ρ1 δ1 H1 hz g1 s1 r1 => by
    revert r1
    refine onD_elim (P := fun a1 => RepA (bx X) c.pd (cut H1 (c.xs ++ ps)) H1 v a1 → _) hz fun d hb r1 => ?_
    refine ⟨_, hb, ps, g1, fun u a2 δ2 H2 hz2 x2 r2 => ?_⟩
    revert r2
    refine onD_elim (P := fun a2 => RepA (bx X) c.pd (cut H2 (c.xs ++ ps)) H2 u a2 → _) hz2 fun e ⟨o1, o2, hz3⟩ r2 => ?_
    exact ⟨d, e, dp_up (g1.repA x2 r1), dp_up r2, o1, o2, _, rfl, k _ ρ1 δ2 H2 hz3 (g1.ext x2) (s1.trans (g1.step x2))⟩⟩
theorem emt_and {Z : Bool → En → List Int → Prop} (h : ET X c a ρ δ fun k δ1 => if k = true then EMT X c b ρ δ1 Z else Z false ρ δ1) : EMT X c (.BoolOp .And [a, b] pos) ρ δ Z :=
  PW.pt (PW.le (pw_and h (pw_and1 pt_any)) fun σ H Q ⟨ps, g, k⟩ => ⟨ps, g, fun kk δ1 H1 hz x1 => by
    have g1 := g.ext x1
    cases kk with
    | true => exact ⟨_, hz, ps, g1, fun k2 ρ2 δ2 H2 hz2 g2 s2 => k k2 ρ2 δ2 H2 hz2 g2 ((g.step x1).trans s2)⟩
    | false => exact k false ρ δ1 H1 hz g1 (g.step x1)⟩)
theorem se_ifM {as bs : List Stmt} {Z : Ot → Prop} (h : EMT X c e ρ δ fun k ρ1 δ1 => if k = true then SS X c as ρ1 δ1 Z else SS X c bs ρ1 δ1 Z) : SE X c (.If e as bs pos) ρ δ Z :=
  PS.le (ps_if h pss_any pss_any) fun D σ H ⟨ps, g, h1, h2, h3, h4⟩ => ⟨ps, g, fun k ρ1 δ1 H1 hz g1 st1 => by
    have go : ∀ {l : List Stmt}, SS X c l ρ1 δ1 Z → aSs X l D σ H1 := fun {l} hl => ⟨_, hl, ps, g1, fun ρ2 δ2 σ2 H2 ps2 hz2 g2 st2 => h1 ρ2 δ2 σ2 H2 ps2 hz2 g2 (st1.trans st2), fun v w δ2 H2 ps2 hz2 st2 hd r => h2 v w δ2 H2 ps2 hz2 (st1.trans st2) hd r,
      fun ρ2 δ2 σ2 H2 ps2 hz2 g2 st2 => h3 ρ2 δ2 σ2 H2 ps2 hz2 g2 (st1.trans st2), fun ρ2 δ2 σ2 H2 ps2 hz2 g2 st2 => h4 ρ2 δ2 σ2 H2 ps2 hz2 g2 (st1.trans st2)⟩
    cases k with
    | true => exact go hz
    | false => exact go hz⟩
/-- d.setdefault(k, z), d ours -/
theorem em_setdDk (i : Nat) {kvs : List (Str × PyData)} {apos npos : Pos} {Z : Arg → En → List Int → Prop} (hr : ρ[i]? = some (some (.ow (.dk kvs))))
    (h : EE X c e ρ δ fun a1 δ1 => onStr a1 fun k => EE X c f ρ δ1 fun a2 δ2 => onD a2 fun d => kvs.length < sizeLine ∧ (∀ d', getS kvs k = some d' → Z (.v (.d d')) ρ δ2) ∧ (getS kvs k = none → Z (.v (.d d)) (ρ.set i (some (.ow (.dk (kvs ++ [(k, d)]))))) δ2))
    (hN : X.N[i]? = some x := by rfl) (hv : Vis X.env.scope x := by first | exact Or.inl rfl | exact Or.inr (Or.inl rfl) | exact Or.inr (Or.inr rfl)) (hd : (x == ("__debug__" : Str)) = false := by decide) (hcd : (x == ("__classdict__" : Str)) = false := by decide)
    (m : M2 X (.Name x npos) "setdefault" apos e f p := by exact ⟨rfl, rfl, rfl, rfl⟩) : EM X c (.Call (.Attribute (.Name x npos) "setdefault" apos) [e, f] [] p) ρ δ Z :=
  PE.le (pe_dsetd (pe_var hN hv hd hcd) h pe_any m) fun σ H Q ⟨ps, g, k⟩ => by
    obtain ⟨p0, hp0, hin, npd, vs0, hl0, _⟩ := g.own hr
    refine ⟨.ref p0, hp0, p0, rfl, .inl ⟨vs0, .inl hl0⟩, ps, g, fun v a1 δ1 H1 hz x1 r1 => ?_⟩
    revert r1
    refine onStr_elim (P := fun a1 => RepA (bx X) c.pd (cut H1 (c.xs ++ ps)) H1 v a1 → _) hz fun kx hb r1 => ?_
    have g1 := g.ext x1
    refine ⟨_, hb, ps, g1, fun u a2 δ2 H2 hz2 x2 r2 => ?_⟩
    revert r2
    refine onD_elim (P := fun a2 => RepA (bx X) c.pd (cut H2 (c.xs ++ ps)) H2 u a2 → _) hz2 fun d ⟨hlt, hz3, hz4⟩ r2 => ?_
    have g2 := g1.ext x2
    obtain ⟨p1, hp1, _, _, vs, hl, hds⟩ := g2.own hr
    rw [hp0] at hp1
    cases hp1
    have st := (g.step x1).trans (g1.step x2)
    refine ⟨vs, .inr kx, hl, rep_str r1, by rw [kv_len hds]; exact hlt, fun v' hv' => ?_, fun hv' => ?_⟩
    · rcases kv_val hds kx with ⟨q1, _⟩ | ⟨v2, d2, q1, q2, q3⟩
      · rw [q1] at hv'; cases hv'
      · rw [q1] at hv'
        cases hv'
        exact k v' (.v (.d d2)) ρ δ2 H2 (hz3 d2 q2) g2 st q3
    · rcases kv_val hds kx with ⟨_, q2⟩ | ⟨v2, d2, q1, _, _⟩
      · have gc := g2.chg (o := .dK (putK vs (.inr kx) u)) (w' := .dk (kvs ++ [(kx, d)])) hr hp0 ⟨_, upd_same, by rw [putK_new u hv']; exact kv_app hds r2⟩
        refine k u (.v (.d d)) _ δ2 _ (hz4 q2) gc (step_upd st hin) ?_
        have sm : Same (cut H2 (c.xs ++ ps)) (cut (upd H2 p0 (.dK (putK vs (.inr kx) u))) (c.xs ++ ps)) := cut_same (fun a o n q => by
          have ne : a ≠ p0 := fun z => n (by rw [z]; exact List.mem_append_right _ hin)
          rw [upd_ne ne]
          exact q) fun a q => .inl q
        exact rep_mono sm (show RepW (bx X) (cut H2 (c.xs ++ ps)) u (.d d) from r2)
      · rw [q1] at hv'; cases hv'
end
end Dl
/-! part dl11 -/
set_option Elab.async false
set_option linter.all false
set_option maxRecDepth 100000
set_option maxHeartbeats 4000000
set_option autoImplicit false
/-! Dl11: a dict of a tuple of pairs. -/
namespace Dl
open PySem PySem.Spec PyProof.Rows L2
section
variable {X : Cx}
theorem pairs_of2 {pins : List (Addr × Obj)} {σ : L2.St} {H : Hp} {s : Shared} (I : Inv X pins σ H s) : ∀ {ps : List Addr} {kvs : List (Key × V)}, Paired (fun p kv => SqT X.K H p [kV kv.1, kv.2]) ps kvs →
    ∃ (prs : List (Key × Value)) (pvs : List (Value × Value)), KV kvs prs ∧ prs.length = ps.length ∧ pvs.length = ps.length ∧ ∀ (j : Nat) (k v : Value), pvs[j]? = some (k, v) → ∃ (b : Addr) (q : Key), ps[j]? = some b ∧ IsTup s.heap b #[k, v] ∧ prs[j]? = some (q, v) ∧ (mixKind X.prog X.w).is q k = true
  | _, _, .nil => ⟨[], [], .nil, rfl, rfl, fun j k v e => by simp at e⟩
  | _, _, .cons (a := p) (b := kv) h t => by
    obtain ⟨prs, pvs, r, hl, hl2, hp⟩ := pairs_of2 I t
    obtain ⟨its, rv, ht, _⟩ := I.tuple h
    obtain ⟨u, y, ei, ru, ry⟩ := vals2 rv
    subst ei
    refine ⟨(kv.1, y) :: prs, (u, y) :: pvs, .cons ⟨rfl, ry⟩ r, by rw [List.length_cons, List.length_cons, hl], by rw [List.length_cons, List.length_cons, hl2], fun j k v e => ?_⟩
    cases j with
    | zero =>
      have e' : (u, y) = (k, v) := Option.some.inj e
      cases e'
      exact ⟨p, kv.1, rfl, ht, rfl, kV_is (P := X.prog) (w := X.w) ru⟩
    | succ j =>
      obtain ⟨b, q, e1, e2, e3, e4⟩ := hp j k v (by simpa using e)
      exact ⟨b, q, by simpa using e1, e2, by simpa using e3, e4⟩
theorem call_dictPT (hcalm : X.calm = true) : CallR X (.type "dict") (fun xs H Q => ∃ (a : Addr) (o : Obj) (ps : List Addr) (kvs : List (Key × V)), xs = [.ref a] ∧ H a = some (.frz o (.tup (ps.map V.ref))) ∧ o.dict = none ∧ Paired (fun p kv => SqT X.K H p [kV kv.1, kv.2]) ps kvs ∧
    ps.length ≤ sizeLine ∧ ∀ p, H p = none → Q (.ref p) (upd H p (.dK (mergeK [] kvs)))) := by
  intro pins s σ H xs us Q I r q
  obtain ⟨a, o, ps, kvs, ex, ha, hdn, hp, hz, q⟩ := q
  subst ex
  obtain ⟨u, eu, rx⟩ := vals1 r
  subst eu
  cases rx
  obtain ⟨hget, its, rv, ht⟩ : s.heap.get? a = some o ∧ ∃ its, Vals (ps.map V.ref) its ∧ IsTup s.heap a its.toArray := by
    obtain ⟨its, rv, ht, _⟩ := I.tuple (.inl (.inr ⟨o, ha⟩))
    exact ⟨(I.hok a _ ha).1, its, rv, ht⟩
  have ei := refs_at rv
  subst ei
  obtain ⟨prs, pvs, rel, hl, hl2, hpr⟩ := pairs_of2 I hp
  obtain ⟨o', ho', hc', n, hdat⟩ := ht
  rw [hget] at ho'
  cases ho'
  let Ts : Nat → Addr := fun j => (ps[j]?).getD 0
  have hpi : PairItems s.heap ((ps.map Value.ref).toArray) Ts pvs := by
    refine ⟨by simp [hl2], fun j k v e => ?_⟩
    obtain ⟨b, q, e1, e2, _, _⟩ := hpr j k v e
    have eT : Ts j = b := by show (ps[j]?).getD 0 = b; rw [e1]; rfl
    rw [eT]
    exact ⟨by simp [e1], .inl e2⟩
  refine PySem.call_dict_pairs (knd := mixKind X.prog X.w) (kvs := prs) (PairArg.tuple a _ Ts pvs) (I.ok.hd hcalm) ⟨⟨o, n, hget, hc', hdn, hdat⟩, hpi⟩ ⟨by rw [hl, hl2], fun i key v e => ?_⟩ (by rw [hl2]; exact hz) fun h' tk hd' k => ?_
  · obtain ⟨b, q, _, _, e3, e4⟩ := hpr i key v e
    exact ⟨q, e3, e4⟩
  · have hm : (s.heap.objs.size == sysModules) = false := beq_eq_false_iff_ne.mpr (Nat.ne_of_gt I.big)
    have hlen : (mergeK [] kvs).length ≤ sizeLine := by
      refine Nat.le_trans (length_mergeK kvs []) ?_
      rw [List.length_nil, Nat.zero_add, rel.length, hl]
      exact hz
    exact ⟨.ref s.heap.objs.size, upd H s.heap.objs.size (.dK (mergeK [] kvs)), I.laid (t' := tk) (fun b o e => k b o (fun z => nomatch z) e) (Nat.le_refl _) (show ObjOk X.prog X.w _ _ _ (.dK (mergeK [] kvs)) from ⟨hlen, hm, merged [] prs, KV.merge rel .nil, hd'⟩), rfl, q _ (I.hok.fresh (Nat.le_refl _))⟩
theorem merge_new : ∀ (kvs acc : List (Key × V)), ((acc ++ kvs).map (·.1)).Nodup → mergeK acc kvs = acc ++ kvs
  | [], acc, _ => by rw [List.append_nil]; rfl
  | kv :: r, acc, h => by
    have hn : valV acc kv.1 = none := by
      cases q : acc.find? (fun x => decide (x.1 = kv.1)) with
      | none => unfold valV; rw [q]; rfl
      | some y =>
        have hm := List.mem_of_find?_eq_some q
        have he := List.find?_some q
        rw [List.map_append, List.map_cons, List.nodup_append] at h
        exact absurd (of_decide_eq_true he) (h.2.2 y.1 (List.mem_map_of_mem hm) kv.1 List.mem_cons_self)
    have e : mergeK acc (kv :: r) = mergeK (putK acc kv.1 kv.2) r := rfl
    rw [e, putK_new kv.2 hn]
    have h2 : acc ++ kv :: r = (acc ++ [(kv.1, kv.2)]) ++ r := by simp
    rw [h2] at h ⊢
    exact merge_new r _ h
def pairsD (kvs : List (Str × PyData)) : List PyData := kvs.map fun kv => .tuple [.str kv.1, kv.2]
theorem rp_pairs {K : PySem.W.Frag} {H : Hp} : ∀ {kvs : List (Str × PyData)} {vs : List V}, RpAll K H vs (pairsD kvs) → ∃ (ps : List Addr) (us : List (Key × V)), vs = ps.map V.ref ∧ ps.length = kvs.length ∧ Paired (fun p kv => SqT K H p [kV kv.1, kv.2]) ps us ∧ KvOk K H us kvs
  | [], vs, h => by
    cases h
    exact ⟨[], [], rfl, rfl, .nil, .nil⟩
  | kv :: kvs, vs, h => by
    cases h with
    | cons h t =>
      obtain ⟨ps, us, e1, e2, e3, e4⟩ := rp_pairs t
      cases h with
      | @tup a o xs _ h1 h2 h3 =>
        cases h3 with
        | cons r1 t1 =>
          cases t1 with
          | cons r2 t2 =>
            cases t2
            cases r1
            refine ⟨a :: ps, (.inr kv.1, _) :: us, by rw [e1]; rfl, by rw [List.length_cons, List.length_cons, e2], .cons (.inl (.inr ⟨o, h1⟩)) e3, .cons ⟨rfl, r2⟩ e4⟩
theorem kv_keys {K : PySem.W.Frag} {H : Hp} {us : List (Key × V)} {kvs : List (Str × PyData)} (h : KvOk K H us kvs) : us.map (·.1) = (kvs.map (·.1)).map Sum.inr := by
  unfold KvOk at h
  induction h with
  | nil => rfl
  | cons a _ ih => rw [List.map_cons, List.map_cons, List.map_cons, a.1, ih]
variable {c : Cc} {ρ : En} {δ : List Int} {pos p : Pos} {e : Expr}
/-- dict(pairs), pairs a tuple of pairs (text, value), no text twice -/
theorem en_dictT {Z : Wd → List Int → Prop} (hm : X.mg "dict" = none) (h : EE X c e ρ δ fun a δ1 => ∃ kvs : List (Str × PyData), a = .v (.d (.tuple (pairsD kvs))) ∧ (kvs.map (·.1)).Nodup ∧ kvs.length ≤ sizeLine ∧ Z (.dk kvs) δ1) (hg : Gl X "dict" := by rfl)
    (hcalm : X.calm = true := by rfl) (hs : starEach [e] X.env = (false, eval e X.env) :: starEach [] X.env := by rfl) : EN X c (.Call (.Name "dict" p) [e] [] pos) ρ δ Z :=
  PE.le (pe_callTy (call_dictPT hcalm) hg hm (by first | exact PyProof.Rows.boot_dict | rfl | decide +kernel) (ea_one (Z := fun as δ1 => ∃ a, as = [a] ∧ ∃ kvs : List (Str × PyData), a = .v (.d (.tuple (pairsD kvs))) ∧ (kvs.map (·.1)).Nodup ∧ kvs.length ≤ sizeLine ∧ Z (.dk kvs) δ1) (ee_imp h fun a δ1 hz => ⟨a, rfl, hz⟩) hs) (he := hs)) fun σ H Q ⟨ps, g, k⟩ =>
    ⟨ps, g, fun vs as δ1 H1 _ ⟨a, ea, kvs, ek, nd, hz, hq⟩ x1 r1 => by
      subst ea ek
      obtain ⟨v, rfl, ra⟩ := paired_one r1
      obtain ⟨q, o, ys, ev, h1, h2, h3⟩ := rep_tup ra
      obtain ⟨qs, us, e1, e2, e3, e4⟩ := rp_pairs h3
      subst e1
      refine ⟨q, o, qs, us, by rw [ev], cut_le _ _ h1, h2, paired_imp (fun _ _ z => sqT_up z) e3, by rw [e2]; exact hz, fun l hl => ?_⟩
      have em : mergeK [] us = us := by
        have := merge_new us [] (by
          rw [List.nil_append, kv_keys e4]
          exact List.Pairwise.map _ (fun a b hab e => hab (Sum.inr.inj e)) nd)
        exact this
      rw [em]
      obtain ⟨n0, xx⟩ := new_ow (o := .dK us) g x1 hl
      exact k l (.dk kvs) δ1 _ hq n0 xx ⟨us, upd_same, kv_mono (cut_cons hl) e4⟩⟩
end
end Dl
/-! part dl12 -/
set_option Elab.async false
set_option linter.all false
set_option maxRecDepth 100000
set_option maxHeartbeats 4000000
set_option autoImplicit false
/-! Dl12: lists of dicts, made here. -/
namespace Dl
open PySem PySem.Spec PyProof.Rows L2
section
variable {X : Cx} {c : Cc} {ρ : En} {δ : List Int} {pos p : Pos} {e : Expr}
theorem en_ldk0 {Z : Wd → List Int → Prop} (hz : Z (.ldk []) δ) : EN X c (.List [] pos) ρ δ Z :=
  PE.le (pe_lst (ea_nil (Z := fun as δ' => as = [] ∧ Z (.ldk []) δ') ⟨rfl, hz⟩)) fun σ H Q ⟨ps, g, k⟩ => ⟨ps, g, fun vs as δ1 H1 hn ⟨e, hz⟩ x1 r1 => by
    subst e
    cases r1
    refine ⟨Nat.zero_le _, fun p hp => ?_⟩
    obtain ⟨n0, xx⟩ := new_ow (o := .lst []) g x1 hp
    exact k p (.ldk []) δ1 _ hz n0 xx ⟨[], upd_same, .nil⟩⟩
theorem en_ldk1 {Z : Wd → List Int → Prop} (h : EE X c e ρ δ fun a δ1 => onDk a fun kvs => Z (.ldk [kvs]) δ1) (hs : starEach [e] X.env = (false, eval e X.env) :: starEach [] X.env := by rfl) : EN X c (.List [e] pos) ρ δ Z :=
  PE.le (pe_lst (ea_one (Z := fun as δ1 => ∃ a, as = [a] ∧ onDk a fun kvs => Z (.ldk [kvs]) δ1) (ee_imp h fun a δ1 hz => ⟨a, rfl, hz⟩) hs)) fun σ H Q ⟨ps, g, k⟩ => ⟨ps, g, fun vs as δ1 H1 hn ⟨a, ea, hq⟩ x1 r1 => by
    subst ea
    obtain ⟨v, rfl, ra⟩ := paired_one r1
    revert ra
    refine onDk_elim (P := fun a1 => RepA (bx X) c.pd (cut H1 (c.xs ++ ps)) H1 v a1 → _) hq fun kvs hz ra => ?_
    refine ⟨by rw [sizeLine_eq]; exact Nat.le_of_lt (by show 1 < _; omega), fun p hp => ?_⟩
    obtain ⟨n0, xx⟩ := new_ow (o := .lst [v]) g x1 hp
    exact k p (.ldk [kvs]) δ1 _ hz n0 xx ⟨[v], upd_same, .cons (repDk_mono (cut_cons hp) ra) .nil⟩⟩
end
end Dl
/-! part dl13 -/
set_option Elab.async false
set_option linter.all false
set_option maxRecDepth 100000
set_option maxHeartbeats 4000000
set_option autoImplicit false
/-! Dl13: sorted(xs, key=f), f a def of the text: some rearrangement of xs. -/
namespace Dl
open PySem PySem.Spec PyProof.Rows L2 PySem.W
/-- the values that read so can be sorted -/
def KeysOk (P : Program) (w : World) (kz : List PyData) : Prop := ∀ (A : Around) (s : Shared) (vs : List Value), A.units + 64 < cLine → EachIs (fun v d => ∃ as, Reads s.heap v d as) vs kz → ∃ κ, SortsAt P w A s κ vs
/-- one object, to the bit -/
def exO (a : Addr) (o : Obj) : HO := .ext fun h => h.get? a = some o
theorem exO_ok {P : Program} {w : World} {H : Hp} {h : Heap} {a : Addr} {o : Obj} (e : h.get? a = some o) : ObjOk P w H h a (exO a o) := ⟨e, ⟨o, e⟩, fun _ _ q k => k _ q⟩
theorem exO_at {P : Program} {w : World} {H : Hp} {h : Heap} {a : Addr} {o : Obj} (hok : HOk P w H h) (e : H a = some (exO a o)) : h.get? a = some o := (hok a _ e).1
theorem upd_upd {H : Hp} {a : Addr} {o u : HO} : upd (upd H a o) a u = upd H a u := L2.upd_upd
section
variable {X : Cx} {pins : List (Addr × Obj)} {σ : L2.St} {H : Hp} {s : Shared}
theorem ex_laid {a : Addr} {o : Obj} {h' : Heap} {t : Nat} (I : Inv X pins σ H s) (k : ∀ b u, s.heap.get? b = some u → h'.get? b = some u) (ha : s.heap.objs.size ≤ a) (e : h'.get? a = some o) : Inv X pins σ (upd H a (exO a o)) { s with heap := h', toks := t } := I.laid k ha (exO_ok e)
theorem ex_write {a : Addr} {o o' : Obj} {h' : Heap} {t : Nat} (I : Inv X pins σ H s) (ha : H a = some (exO a o)) (sb : Heap.SameBut a s.heap h') (e : h'.get? a = some o') : Inv X pins σ (upd H a (exO a o')) { s with heap := h', toks := t } :=
  I.write (e := a) (by rw [ha]; trivial) (.inl rfl) (fun b u hb q => (sb.2 b hb).trans q) ⟨_, e⟩ (exO_ok e)
theorem perm_both {K : PySem.W.Frag} {G : Hp} {out its : List Value} (p : out.Perm its) : ∀ {xs : List V} {ds : List PyData}, Vals xs its → RpAll K G xs ds → ∃ xs' ds', Vals xs' out ∧ RpAll K G xs' ds' ∧ ds'.Perm ds := by
  induction p with
  | nil =>
    intro xs ds r q
    exact ⟨xs, ds, r, q, List.Perm.refl _⟩
  | cons x _ ih =>
    intro xs ds r q
    cases r with
    | cons r1 r2 => cases q with
      | cons q1 q2 =>
        obtain ⟨xs', ds', h1, h2, h3⟩ := ih r2 q2
        exact ⟨_ :: xs', _ :: ds', .cons r1 h1, .cons q1 h2, h3.cons _⟩
  | swap x y l =>
    intro xs ds r q
    cases r with
    | cons r1 r2 => cases r2 with
      | cons r2 r3 => cases q with
        | cons q1 q2 => cases q2 with
          | cons q2 q3 => exact ⟨_, _, .cons r2 (.cons r1 r3), .cons q2 (.cons q1 q3), List.Perm.swap ..⟩
  | trans _ _ ih1 ih2 =>
    intro xs ds r q
    obtain ⟨xs', ds', h1, h2, h3⟩ := ih2 r q
    obtain ⟨xs2, ds2, g1, g2, g3⟩ := ih1 h1 h2
    exact ⟨xs2, ds2, g1, g2, g3.trans h3⟩
theorem vals_snoc : ∀ {xs : List V} {us : List Value} {v : V} {u : Value}, Vals xs us → RelV v u → Vals (xs ++ [v]) (us ++ [u])
  | _, _, _, _, .nil, h => .cons h .nil
  | _, _, _, _, .cons a t, h => .cons a (vals_snoc t h)
theorem rpAll_snoc {K : PySem.W.Frag} {G : Hp} {xs : List V} {ds : List PyData} {v : V} {d : PyData} (h : RpAll K G xs ds) (r : Rp K G v d) : RpAll K G (xs ++ [v]) (ds ++ [d]) := dpAll_app h (.cons r .nil)
theorem each_rp (I : Inv X pins σ H s) : ∀ {vs : List V} {us : List Value} {ds : List PyData}, Vals vs us → RpAll X.K H vs ds → EachIs (fun u d => ∃ as, Reads s.heap u d as) us ds
  | _, _, _, .nil, .nil => .nil
  | _, _, _, .cons r t, .cons q u => .cons (Dp.reads I _ _ _ q.dp r) (each_rp I t u)
theorem sort_perm {κ : PyProof.Rows.KeyKind} {keys : List Value} {vs : List Value} (h : keys.length = vs.length) : (sortVals κ false keys vs).Perm vs := by
  unfold sortVals
  have e : (keys.zip vs).map Prod.snd = vs := by rw [List.map_snd_zip (Nat.le_of_eq h.symm)]
  have p := (List.mergeSort_perm (keys.zip vs) (sortLe κ.toKeyOrd false fun p : Keyed => keyD κ p.1)).map Prod.snd
  rw [e] at p
  exact p
/-- one call of the key's def -/
theorem key_call {x : Str} {k : Nat} {G : GD} {f : Addr} {fd : FuncData} {ps : List Str} {A : Around} (F : FnOk X.prog X.w X.K X.mg X.base CX0 k f fd ps (spD (bx X) 1 G)) (hb : Binds X.K fd ps []) (hr : Room k A) (hA : Env0 X.prog X.w X.K X.mg X.base A X.stack s H)
    (I : Inv X pins σ H s) {E : List Addr} {v : V} {u : Value} {d d' : PyData} (live : ∀ a ∈ E, H a ≠ none) (r : RelV v u) (q : Rp X.K (cut H E) v d) (hG : ∀ Z' : Wd → Prop, Z' (.d d') → G [.v (.d d)] [] fun w _ => Z' w) {R : Except Value Value → Shared → Prop}
    (h : ∀ (u' : Value) (v' : V) (H' : Hp) (s' : Shared), Inv X pins σ H' s' → Same H H' → RelV v' u' → Rp X.K (cut H' E) v' d' → R (.ok u') s') :
    wpAny (model X.prog X.w) A (call (.ref f) [u]).attempt R (fun _ _ => False) s := by
  have arg : ∀ {Q1 : VK}, (∀ v' w δ' H', w = Wd.d d' → Xt ⟨none, E⟩ δ' H H' → RepW (bx X) (cut H' (E ++ (none : Option Addr).toList)) v' w → Q1 v' H') → spD (bx X) 1 G [v] H Q1 E0 := fun {Q1} hq => by
    refine ⟨⟨none, E⟩, [.v (.d d)], [], fun w _ => w = .d d', ⟨fun a ha => live a (by simpa using ha), (fun p hp => nomatch hp), .cons (show RepW _ _ _ (.d d) from ?_) .nil, rfl, rfl⟩, hG _ rfl, hq⟩
    exact dp_mono (cut_same (fun _ _ _ e => e) fun a ha => .inl (by simpa using ha)) q
  have hl : ([u] ++ ([] : List Value)).length = ps.length := by
    rw [← F.len [v] H (fun _ _ => True) E0 (arg fun _ _ _ _ _ _ _ => trivial)]
    rfl
  refine wpAny_attempt (wpAny_call (codeAny_mono (F.run A X.stack s H ⟨[u], []⟩ [u] [v] (fun v' H' => Same H H' ∧ Rp X.K (cut H' E) v' d') E0 hr hA (hb s [u] I.kIn hl) (.cons r .nil) (arg fun v' w δ' H' hz xt rr => ?_)) fun fl s' hq => ?_))
  · subst hz
    exact ⟨fun a o e => xt.1 a o (fun z => nomatch z) e, dp_mono (cut_same (fun _ _ _ e => e) fun a ha => .inl (by simpa using ha)) (show Rp X.K _ v' d' from rr)⟩
  · cases fl with
    | error e => exact False.elim hq
    | ok fl =>
      cases fl with
      | ret u' =>
        obtain ⟨v', H', I', rv, sm, rp⟩ := I.after hq
        exact h u' v' H' s' I' sm rv rp
      | next => exact False.elim hq
      | brk => exact False.elim hq
      | cont => exact False.elim hq
end
end Dl
/-! part dl14 -/
set_option Elab.async false
set_option linter.all false
set_option maxRecDepth 100000
set_option maxHeartbeats 4000000
set_option autoImplicit false
/-! Dl14: sorted(xs, key=f): the machine's run. -/
namespace Dl
open PySem PySem.Spec PyProof.Rows L2 PySem.W
section
variable {X : Cx} {pins : List (Addr × Obj)} {σ : L2.St} {H : Hp} {s : Shared}
/-- the end: the sorted values go back into the list -/
theorem sk_tail {A : Around} {a kS : Addr} {keys : Array Value} {e e1 : Nat} {st : SortSt} {out : List Value} {R : PySem.Fin → Shared → Prop} {E' : Value → Shared → Prop} (I : L2.Inv X pins σ H s) (ha : H a = some (exO a (seqObj "list" #[] e1))) (hk : H kS = some (exO kS (seqObj "list" keys e))) (hka : kS ≠ a)
    (hsz : keys.size ≤ sizeLine) (hz : out.length ≤ sizeLine) (hf : failedOf st = none) (ho : (arrOf st).map (·.2) = out.toArray)
    (h : ∀ c c' s', L2.Inv X pins σ (upd (upd H kS (exO kS (seqObj "list" #[] c))) a (exO a (seqObj "list" out.toArray c'))) s' → R (.done (.ret .none)) s') :
    wpAny (model X.prog X.w) A (ksk_tail a false e1 (.ref kS) st) R E' s := by
  have na := exO_at I.hok ha
  have nk := exO_at I.hok hk
  have sb1 := Heap.SameBut.update s.heap kS (Obj.mapSeq fun _ => (#[] : Array Value))
  have k1 := get?_update_seq nk fun _ => (#[] : Array Value)
  have a1 : (s.heap.update kS (Obj.mapSeq fun _ => (#[] : Array Value))).get? a = some (seqObj "list" #[] e1) := (sb1.2 a (Ne.symm hka)).trans na
  have sb2 := Heap.SameBut.update (s.heap.update kS (Obj.mapSeq fun _ => (#[] : Array Value))) a (Obj.mapSeq fun _ => out.toArray)
  have a2 := get?_update_seq a1 fun _ => out.toArray
  have I1 := ex_write (t := s.toks) I hk sb1 k1
  have ha1 : (upd H kS (exO kS (seqObj "list" #[] (if (#[] : Array Value).size == keys.size then e else e + 1)))) a = some (exO a (seqObj "list" #[] e1)) := (upd_ne (Ne.symm hka)).trans ha
  have I2 := ex_write (t := s.toks) I1 ha1 sb2 a2
  have hz2 : out.toArray.size ≤ sizeLine + 1 := Nat.le_succ_of_le (by rw [List.size_toArray]; exact hz)
  unfold ksk_tail
  simp only [Bool.false_eq_true, if_false]
  rw [ho]
  refine wpAny_bind (listUpdate_at nk rfl (wpAny_bind (wpAny_letGo (wpAny_bind (seqEpoch_at a1 rfl (wpAny_bind (listUpdate_at a1 rfl ?_ (Nat.zero_le _) hz2)))))) hsz (Nat.zero_le _))
  rw [hf]
  simp only [bne_self_eq_false, Bool.false_eq_true, if_false]
  exact wpAny_pure (h _ _ _ I2)
/-- the keys stand: the sort -/
theorem sk_end {A : Around} {a kS : Addr} {keys : Array Value} {e e1 : Nat} {vs : List Value} {kvs : List V} {kz : List PyData} {G : Hp} {R : PySem.Fin → Shared → Prop} {E' : Value → Shared → Prop} (I : L2.Inv X pins σ H s) (ha : H a = some (exO a (seqObj "list" #[] e1))) (hk : H kS = some (exO kS (seqObj "list" keys e))) (hka : kS ≠ a)
    (hu : A.units + 64 < cLine) (sub : Same G H) (rv : Vals kvs keys.toList) (rp : RpAll X.K G kvs kz) (hS : 2 ≤ kz.length → KeysOk X.prog X.w kz) (hlen : kz.length = vs.length) (hZ : vs.length ≤ sizeLine)
    (h : ∀ (out : List Value) c c' s', out.Perm vs → L2.Inv X pins σ (upd (upd H kS (exO kS (seqObj "list" #[] c))) a (exO a (seqObj "list" out.toArray c'))) s' → R (.done (.ret .none)) s') :
    wpAny (model X.prog X.w) A (ksk_end a false vs.toArray e1 (.ref kS) keys) R E' s := by
  have hkl : keys.toList.length = vs.length := by rw [← rv.length, dpAll_len rp, hlen]
  have hks : keys.size = vs.length := by rw [← Array.length_toList]; exact hkl
  have hsz : keys.size ≤ sizeLine := by rw [hks]; exact hZ
  unfold ksk_end
  simp only [Bool.false_eq_true, if_false]
  by_cases h2 : vs.toArray.size < 2
  · rw [if_pos h2, if_pos h2]
    refine wpAny_bind (wpAny_pure ?_)
    rw [StateT.run_pure]
    refine wpAny_bind (wpAny_pure ?_)
    refine sk_tail (st := SortSt.mk' general' (keys.zip vs.toArray) #[] 7 none) (out := vs) I ha hk hka hsz hZ rfl ?_ fun c c' s' I' => h vs c c' s' (List.Perm.refl _) I'
    have e2 : ((keys.zip vs.toArray).map (·.2)).toList = vs := by
      rw [Array.toList_map, ksk_zip]
      exact List.map_snd_zip (Nat.le_of_eq hkl.symm)
    have e3 := congrArg List.toArray e2
    rw [Array.toArray_toList] at e3
    exact e3
  · rw [if_neg h2, if_neg h2]
    rw [List.size_toArray] at h2
    obtain ⟨κ, S⟩ := hS (by omega) A s keys.toList hu (each_rp I rv (dpAll_mono sub rp))
    obtain ⟨kd, q1, q2⟩ := S.kind
    have hK : PyProof.Rows.KeysOf κ (keys.zip vs.toArray) := keysOf_zip S.keys
    have hz : (keys.zip vs.toArray).size = vs.length := by rw [Array.size_zip, hks, List.size_toArray, Nat.min_self]
    have back : keys.toList.toArray = keys := Array.toArray_toList
    have q3 := q2 (by omega)
    rw [back] at q3
    refine wpAny_bind (q3 _ ?_)
    refine wpAny_bind (wpAny_mono (PyProof.Rows.H.wpS_sortRunsSt (κ := κ) (kd := kd) (a₀ := keys.zip vs.toArray) (st := SortSt.mk' kd (keys.zip vs.toArray) #[] 7 none) (Q := fun _ st' => (arrOf st').Perm (keys.zip vs.toArray) ∧ failedOf st' = none)
      q1 hK ⟨Array.Perm.refl _, rfl, rfl⟩ rfl (Stable.refl _) (by rw [hz]; omega) fun st' p1 p2 _ _ => ⟨p1, p2⟩) ?_ fun _ _ x => x)
    rintro ⟨⟨⟩, st'⟩ s' ⟨rfl, hp, hf⟩
    have p2 : (((arrOf st').map (·.2)).toList).Perm vs := by
      have p3 := (Array.perm_iff_toList_perm.mp hp).map Prod.snd
      rw [ksk_zip, List.map_snd_zip (Nat.le_of_eq hkl.symm)] at p3
      rw [Array.toList_map]
      exact p3
    refine sk_tail (st := st') (out := ((arrOf st').map (·.2)).toList) I ha hk hka hsz (by rw [p2.length_eq]; exact hZ) hf (by rw [Array.toArray_toList]) fun c c' s' I' => h _ c c' s' p2 I'
end
end Dl
/-! part dl15 -/
set_option Elab.async false
set_option linter.all false
set_option maxRecDepth 100000
set_option maxHeartbeats 4000000
set_option autoImplicit false
/-! Dl15: sorted(xs, key=f): the calls of f, the whole. -/
namespace Dl
open PySem PySem.Spec PyProof.Rows L2 PySem.W
section
variable {X : Cx} {pins : List (Addr × Obj)} {σ : L2.St} {H : Hp} {s : Shared}
theorem rp_split {K : PySem.W.Frag} {G : Hp} {xs : List V} {us : List Value} {ds : List PyData} {j : Nat} {u : Value} (r : Vals xs us) (q : RpAll K G xs ds) (e : us[j]? = some u) : ∃ v d, RelV v u ∧ Rp K G v d ∧ ds[j]? = some d := by
  have hj := (List.getElem?_eq_some_iff.mp e).1
  have hx : j < xs.length := by rw [r.length]; exact hj
  obtain ⟨u', e1, e2⟩ := r.get (List.getElem?_eq_getElem hx)
  rw [e] at e1
  cases e1
  obtain ⟨d, e3, e4⟩ := dpAll_get' q (List.getElem?_eq_getElem hx)
  exact ⟨_, d, e2, e4, e3⟩
theorem sk_tree {x : Str} {k : Nat} {G : GD} {f : Addr} {fd : FuncData} {ps : List Str} {A : Around} (F : FnOk X.prog X.w X.K X.mg X.base CX0 k f fd ps (spD (bx X) 1 G)) (hb : Binds X.K fd ps []) (hr : Room k A) (hA : ∀ {s : Shared} {H : Hp}, L2.Inv X pins σ H s → Env0 X.prog X.w X.K X.mg X.base A X.stack s H)
    {a n : Nat} {E : List Addr} {its : List Value} {xs : List V} {ds : List PyData} {key : PyData → PyData} (I : L2.Inv X pins σ H s) (ha : H a = some (exO a (seqObj "list" its.toArray n))) (live : ∀ b ∈ E, H b ≠ none) (hE : a ∈ E)
    (rv : Vals xs its) (rp : RpAll X.K (cut H E) xs ds) (hG : ∀ d ∈ ds, ∀ Z' : Wd → Prop, Z' (.d (key d)) → G [.v (.d d)] [] fun w _ => Z' w) (hS : 2 ≤ ds.length → KeysOk X.prog X.w (ds.map key)) (hZ : its.length ≤ sizeLine)
    {R : PySem.Fin → Shared → Prop} {E' : Value → Shared → Prop}
    (h : ∀ (out : List Value) (c : Nat) (s' : Shared) (H' : Hp), out.Perm its → L2.Inv X pins σ H' s' → H' a = some (exO a (seqObj "list" out.toArray c)) → (∀ b o, b ≠ a → H b = some o → H' b = some o) → R (.done (.ret .none)) s') :
    wpAny (model X.prog X.w) A (ksk_tree a (.ref f) false) R E' s := by
  have na := exO_at I.hok ha
  have sb1 := Heap.SameBut.update s.heap a (Obj.mapSeq fun _ => (#[] : Array Value))
  have a1 := get?_update_seq na fun _ => (#[] : Array Value)
  generalize hce : (if (#[] : Array Value).size == its.toArray.size then n else n + 1) = e1 at a1
  have I1 := ex_write (t := s.toks) I ha sb1 a1
  have hil : xs.length = its.length := rv.length
  have hdl : xs.length = ds.length := dpAll_len rp
  unfold ksk_tree
  refine wpAny_bind (listItems_at na rfl (wpAny_bind (listUpdate_at na rfl (wpAny_bind (seqEpoch_at a1 rfl (wpAny_bind (wpAny_newTuple (wpAny_bind (wpAny_newList (wpAny_holding ?_) (Nat.zero_le _))) ?_)))) (by rw [List.size_toArray]; exact hZ) (Nat.zero_le _))))
  rotate_left
  · show its.length ≤ sizeLine
    exact hZ
  generalize hh1 : s.heap.update a (Obj.mapSeq fun _ => (#[] : Array Value)) = h1 at I1 a1 ⊢
  generalize hh2 : h1.push { cls := .type "tuple", data := .seq its.toArray.toList.toArray } = h2
  have k2 : ∀ b u, h1.get? b = some u → h2.get? b = some u := fun b u e => by rw [← hh2]; exact Heap.get?_push_of_some _ e
  have I2 : L2.Inv X pins σ (upd H a (exO a (seqObj "list" #[] e1))) { s with heap := h2, toks := s.toks } := I1.kept (t' := s.toks) k2
  have k3 : ∀ b u, h2.get? b = some u → (h2.push { cls := .type "list", data := .seq ([] : List Value).toArray }).get? b = some u := fun b u e => Heap.get?_push_of_some _ e
  have I3 : L2.Inv X pins σ (upd (upd H a (exO a (seqObj "list" #[] e1))) h2.objs.size (exO h2.objs.size (seqObj "list" #[] 0))) { s with heap := h2.push { cls := .type "list", data := .seq ([] : List Value).toArray }, toks := s.toks } :=
    ex_laid (s := { s with heap := h2, toks := s.toks }) (t := s.toks) I2 k3 (Nat.le_refl _) (Heap.get?_push_size _ rfl)
  have hne : ∀ b, H b ≠ none → b ≠ h2.objs.size := fun b hb z => by
    have hn : (upd H a (exO a (seqObj "list" #[] e1))) h2.objs.size = none := I2.hok.fresh (Nat.le_refl _)
    rw [← z] at hn
    unfold upd at hn
    split at hn
    · cases hn
    · exact hb hn
  have hka : h2.objs.size ≠ a := Ne.symm (hne a (by rw [ha]; exact fun z => nomatch z))
  generalize h2.objs.size = kS at I3 hne hka ⊢
  have hbase : Same (cut H E) (cut (upd (upd H a (exO a (seqObj "list" #[] e1))) kS (exO kS (seqObj "list" #[] 0))) (kS :: E)) := cut_same (fun b o nb e => by
    rw [upd_ne (hne b (by rw [e]; exact fun z => nomatch z)), upd_ne (fun z => nb (by rw [z]; exact hE))]
    exact e) fun b hb => by
      rcases List.mem_cons.mp hb with hb | hb
      · subst hb
        refine .inr ?_
        cases q : H b with
        | none => rfl
        | some o => exact absurd rfl (hne b (by rw [q]; exact fun z => nomatch z))
      · exact .inl hb
  have keepA : ∀ b o, b ≠ a → H b = some o → (upd (upd H a (exO a (seqObj "list" #[] e1))) kS (exO kS (seqObj "list" #[] 0))) b = some o := fun b o nb e => by
    rw [upd_ne (hne b (by rw [e]; exact fun z => nomatch z)), upd_ne nb]
    exact e
  have rp3 := dpAll_mono hbase rp
  unfold ksk_rest
  refine wpAny_bind (wpAny_rule ?_)
  first
    | rw [List.forIn_toArray]
    | (rw [← Array.forIn_toList]; simp only [List.toList_toArray])
    | rw [← Array.forIn_toList]
  refine wpAny_bind (ksk_fold (fun i s' => ∃ (Hi : Hp) (kA : Array Value) (e : Nat) (kvs : List V), L2.Inv X pins σ Hi s' ∧ Hi a = some (exO a (seqObj "list" #[] e1)) ∧ Hi kS = some (exO kS (seqObj "list" kA e)) ∧ kA.size = i ∧ Vals kvs kA.toList ∧ RpAll X.K (cut Hi (kS :: E)) kvs ((ds.take i).map key) ∧
      (∀ b o, b ≠ a → H b = some o → Hi b = some o) ∧ RpAll X.K (cut Hi (kS :: E)) xs ds) its 0 _ ⟨_, #[], 0, [], I3, by rw [upd_ne (Ne.symm hka), upd_same], upd_same, rfl, .nil, .nil, keepA, rp3⟩ ?step ?done)
  case step =>
    rintro j u s5 hu ⟨Hi, kA, e, kvs, I5, hia, hik, hks, hkv, hkr, hkeep, hxr⟩
    simp only [Nat.zero_add] at hks hkr ⊢
    obtain ⟨v, d, e2, e3, e4⟩ := rp_split rv hxr hu
    have hdm := List.mem_of_getElem? e4
    have hj : j < its.length := (List.getElem?_eq_some_iff.mp hu).1
    refine wpAny_bind (wpAny_mono (key_call (x := x) (d' := key d) F hb hr (hA I5) I5 (E := kS :: E) (fun b hb => ?_) e2 e3 (hG d hdm) (R := fun r s6 => ∃ u' v' H', r = .ok u' ∧ L2.Inv X pins σ H' s6 ∧ Same Hi H' ∧ RelV v' u' ∧ Rp X.K (cut H' (kS :: E)) v' (key d)) fun u' v' H' s' i1 i2 i3 i4 => ⟨u', v', H', rfl, i1, i2, i3, i4⟩) ?_ fun _ _ z => z.elim)
    · rcases List.mem_cons.mp hb with hb | hb
      · rw [hb, hik]; exact fun z => nomatch z
      · by_cases q : b = a
        · rw [q, hia]; exact fun z => nomatch z
        · cases q2 : H b with
          | none => exact absurd q2 (live b hb)
          | some o => rw [hkeep b o q q2]; exact fun z => nomatch z
    · rintro r s6 ⟨u', v', H', rfl, I6, sm, rv6, rp6⟩
      have hk6 := sm _ _ hik
      have nk6 := exO_at I6.hok hk6
      have sb6 := Heap.SameBut.update s6.heap kS (Obj.mapSeq (·.push u'))
      have kk6 := get?_update_seq nk6 (·.push u')
      have I7 := ex_write (t := s6.toks) I6 hk6 sb6 kk6
      have hsz : kA.size ≤ sizeLine := by rw [hks]; omega
      refine wpAny_bind (listUpdate_at nk6 rfl (wpAny_pure ⟨rfl, _, kA.push u', _, kvs ++ [v'], I7, ?_, upd_same, ?_, ?_, ?_, ?_, ?_⟩) hsz (Nat.le_trans (Nat.le_of_eq (Array.size_push ..)) (Nat.succ_le_succ hsz)))
      · rw [upd_ne (Ne.symm hka)]
        exact sm _ _ hia
      · rw [Array.size_push, hks]
      · rw [Array.toList_push]
        exact vals_snoc hkv rv6
      · have smc : Same (cut H' (kS :: E)) (cut (upd H' kS (exO kS (seqObj "list" (kA.push u') (if (kA.push u').size == kA.size then e else e + 1)))) (kS :: E)) := cut_same (fun b o nb q => by
          rw [upd_ne (fun z => nb (by rw [z]; exact List.mem_cons_self))]
          exact q) fun b q => .inl q
        have et : (ds.take (j + 1)).map key = (ds.take j).map key ++ [key d] := by
          rw [List.take_add_one, e4, List.map_append]
          rfl
        rw [et]
        exact rpAll_snoc (dpAll_mono smc (dpAll_mono (cut_to sm) hkr)) (dp_mono smc rp6)
      · intro b o nb q
        have hb : b ≠ kS := hne b (by rw [q]; exact fun z => nomatch z)
        rw [upd_ne hb]
        exact sm _ _ (hkeep b o nb q)
      · have smc : Same (cut H' (kS :: E)) (cut (upd H' kS (exO kS (seqObj "list" (kA.push u') (if (kA.push u').size == kA.size then e else e + 1)))) (kS :: E)) := cut_same (fun b o nb q => by
          rw [upd_ne (fun z => nb (by rw [z]; exact List.mem_cons_self))]
          exact q) fun b q => .inl q
        exact dpAll_mono smc (dpAll_mono (cut_to sm) hxr)
  case done =>
    rintro s5 ⟨Hi, kA, e, kvs, I5, hia, hik, hks, hkv, hkr, hkeep, hxr⟩
    simp only [Nat.zero_add] at hks hkr
    have et : ds.take its.length = ds := List.take_of_length_le (by omega)
    rw [et] at hkr
    refine wpAny_bind (listItems_at (exO_at I5.hok hik) rfl (sk_end I5 hia hik hka hr.units (G := cut Hi (kS :: E)) cut_le hkv hkr (fun h2 => hS (by rw [List.length_map] at h2; exact h2)) (by rw [List.length_map, ← hdl, hil]) hZ fun out c c' s' hp I' => h out c' s' _ hp I' upd_same fun b o nb q => ?_))
    have hb : b ≠ kS := hne b (by rw [q]; exact fun z => nomatch z)
    rw [upd_ne nb, upd_ne hb]
    exact hkeep b o nb q
end
end Dl
/-! part dl16 -/
set_option Elab.async false
set_option linter.all false
set_option maxRecDepth 100000
set_option maxHeartbeats 4000000
set_option autoImplicit false
/-! Dl16: sorted(xs, key=f), over data. -/
namespace Dl
open PySem PySem.Spec PyProof.Rows L2 PySem.W
def rSortK (X : Cx) (G : GD) (f : Addr) : List V → List V → Hp → VK → Prop := fun vs zs H Q => ∃ (l : Addr) (E : List Addr) (xs : List V) (ds : List PyData) (key : PyData → PyData), vs = [.ref l] ∧ zs = [.ref f] ∧ SqL X.K H l xs ∧ (∀ b ∈ E, H b ≠ none) ∧ RpAll X.K (cut H E) xs ds ∧
  (∀ d ∈ ds, ∀ Z' : Wd → Prop, Z' (.d (key d)) → G [.v (.d d)] [] fun w _ => Z' w) ∧ (2 ≤ ds.length → KeysOk X.prog X.w (ds.map key)) ∧
  ∀ p xs' ds' H', ds'.Perm ds → H p = none → Same H H' → H' p = some (.lst xs') → RpAll X.K (cut H' (p :: E)) xs' ds' → Q (.ref p) H'
section
variable {X : Cx}
theorem call_sortK {x : Str} {k k' : Nat} {G : GD} {f : Addr} {fd : FuncData} {ps : List Str} (F : FnOk X.prog X.w X.K X.mg X.base CX0 k f fd ps (spD (bx X) 1 G)) (hb : Binds X.K fd ps []) (hr : Room k' X.A) (hk : k + 2 ≤ k') : CallRK X (.builtin "sorted") [Str.ofString "key"] (rSortK X G f) := by
  intro pins s σ H vs zs us ws Q I r1 r2 q
  obtain ⟨l, E, xs, ds, key, rfl, rfl, hl, live, rp, hG, hS, q⟩ := q
  obtain ⟨u, rfl, ru⟩ := vals1 r1
  obtain ⟨z, rfl, rz⟩ := vals1 r2
  cases ru
  cases rz
  obtain ⟨its, rv, ⟨o, n, ho, hc, _, hd⟩, hz⟩ := I.list hl
  have hZ : its.length ≤ sizeLine := by rw [← rv.length]; exact hz
  show wpAny (model X.prog X.w) X.A (call (.builtin "sorted") [.ref l] [(Str.ofString "key", .ref f)]) _ _ s
  refine sorted_of_sort (vs := its) ⟨o, ho, hc, n, hd⟩ hZ (ksk_s1 _ _) (fun _ => ksk_l1 _ _) fun E' => ?_
  rw [ksk_t1]
  have a0 := copyHeap_at s.heap its
  have I1 := ex_laid (t := s.toks) I (fun b w e => copyHeap_old (vs := its) e) (a := s.heap.objs.size + 1) (Nat.le_add_right _ 1) a0
  have hn : H (s.heap.objs.size + 1) = none := I.hok.fresh (Nat.le_add_right _ 1)
  generalize s.heap.objs.size + 1 = a at hn a0 I1 ⊢
  have hna : ∀ b, H b ≠ none → b ≠ a := fun b hb z => hb (by rw [z]; exact hn)
  refine sk_tree (E := a :: E) (pins := pins) (σ := σ) (x := x) F hb ((hr.mono hk).in1.in1) (fun J => J.env0.in1.in1) I1 upd_same (fun b hb => ?_) List.mem_cons_self rv (dpAll_mono ?_ rp) hG hS hZ fun out c s' H' hp I' ha' keep => ⟨rfl, ?_⟩
  · rcases List.mem_cons.mp hb with hb | hb
    · rw [hb, upd_same]; exact fun z => nomatch z
    · rw [upd_ne (hna b (live b hb))]
      exact live b hb
  · exact cut_same (fun b w nb e => by
      rw [upd_ne (hna b (by rw [e]; exact fun z => nomatch z))]
      exact e) fun b hb => (List.mem_cons.mp hb).elim (fun z => .inr (by rw [z]; exact hn)) .inl
  · obtain ⟨xs', ds', v1, v2, v3⟩ := perm_both hp rv rp
    have g' := exO_at I'.hok ha'
    have ok' : ObjOk X.prog X.w (upd H' a (.lst xs')) s'.heap a (.lst xs') := by
      refine ⟨?_, out, c, v1, g'⟩
      rw [v1.length, hp.length_eq]
      exact hZ
    have I2 : L2.Inv X pins σ (upd H' a (.lst xs')) { s' with heap := s'.heap, toks := s'.toks } := I'.write (e := a) (by rw [ha']; trivial) (.inl rfl) (fun b w _ e => e) ⟨_, g'⟩ ok'
    have sm : Same H (upd H' a (.lst xs')) := fun b w e => by
      have nb := hna b (by rw [e]; exact fun z => nomatch z)
      rw [upd_ne nb]
      refine keep b w nb ?_
      rw [upd_ne nb]
      exact e
    exact ⟨.ref a, _, I2, rfl, q a xs' ds' _ v3 hn sm upd_same (dpAll_mono (cut_same (fun b w _ e => sm b w e) fun b hb => (List.mem_cons.mp hb).elim (fun z => .inr (by rw [z]; exact hn)) .inl) v2)⟩
variable {c : Cc} {ρ : En} {δ : List Int} {pos p p2 p3 : Pos} {e : Expr}
theorem en_sortK {x : Str} {k k' : Nat} {G : GD} {Z : Wd → List Int → Prop} (D : Df X.prog X.w X.K X.mg X.base k x 1 G) (hr : Room k' X.A) (hm : X.mg "sorted" = none)
    (h : EE X c e ρ δ fun a δ1 => onL a fun ds => (∃ key : PyData → PyData, (∀ d ∈ ds, ∀ Z' : Wd → Prop, Z' (.d (key d)) → G [.v (.d d)] [] fun w _ => Z' w) ∧ (2 ≤ ds.length → KeysOk X.prog X.w (ds.map key))) ∧ ∀ ds', ds'.Perm ds → Z (.d (.list ds')) δ1)
    (hk : k + 2 ≤ k' := by decide) (hg : Gl X "sorted" := by rfl) (hgx : Gl X x := by rfl) (hdb : (x == ("__debug__" : Str)) = false := by decide) (hs : starEach [e] X.env = (false, eval e X.env) :: starEach [] X.env := by rfl)
    (he : backTo pos (starEach [e] X.env) = (false, eval e X.env) :: backTo pos (starEach [] X.env) := by rfl) (hpl : (backTo pos (starEach [e] X.env)).any (·.1) = false := by rfl) :
    EN X c (.Call (.Name "sorted" p) [e] [⟨some "key", .Name x p2, p3⟩] pos) ρ δ Z := by
  obtain ⟨f, fd, ps, F, hmx, hkp, hb⟩ := D
  refine PE.le (pe_callBK (call_sortK (x := x) F hb hr hk) hg hm (by first | rfl | decide +kernel) (ea_one (Z := fun as δ1 => ∃ a, as = [a] ∧ onL a fun ds => (∃ key : PyData → PyData, (∀ d ∈ ds, ∀ Z' : Wd → Prop, Z' (.d (key d)) → G [.v (.d d)] [] fun w _ => Z' w) ∧ (2 ≤ ds.length → KeysOk X.prog X.w (ds.map key))) ∧ ∀ ds', ds'.Perm ds → Z (.d (.list ds')) δ1) (ee_imp h fun a δ1 hz => ⟨a, rfl, hz⟩) hs)
    (pk_cons (pe_glob (v := .ref f) hgx hmx rfl hdb) pk_nil) (he := he) (hpl := hpl)) fun σ H Q ⟨ps, g, q⟩ => ⟨ps, g, fun vs as δ1 H1 _ ⟨a, ea, hq⟩ x1 r1 => ?_⟩
  subst ea
  obtain ⟨v, rfl, ra⟩ := paired_one r1
  revert ra
  refine onL_elim (P := fun a1 => RepA (bx X) c.pd (cut H1 (c.xs ++ ps)) H1 v a1 → _) hq fun ds hz ra => ?_
  obtain ⟨⟨key, hG, hS⟩, hz⟩ := hz
  obtain ⟨l, us, ev, h1, h2⟩ := rep_lst ra
  refine ⟨l, c.xs ++ ps, us, ds, key, by rw [ev], rfl, sqL_up h1, (g.ext x1).live, h2, hG, hS, fun p xs' ds' H' pm hp sm hl rr => ?_⟩
  have g1 := g.ext x1
  have hp0 : H p = none := by
    cases q0 : H p with
    | none => rfl
    | some o => exact absurd hp (x1.there (by rw [q0]; exact fun z => nomatch z))
  refine q p (.d (.list ds')) δ1 H' (hz ds' pm) hp0 (x1.trans (Xt.same g1 sm)) ⟨xs', hl, dpAll_mono (cut_same (fun _ _ _ e => e) fun b hb => .inl ?_) rr⟩
  rcases List.mem_append.mp hb with hb | hb
  · exact List.mem_cons_of_mem _ (List.mem_append_left _ hb)
  · rcases List.mem_cons.mp hb with hb | hb
    · rw [hb]; exact List.mem_cons_self
    · exact List.mem_cons_of_mem _ (List.mem_append_right _ hb)
end
end Dl
/-! part dl17 -/
set_option Elab.async false
set_option linter.all false
set_option maxRecDepth 100000
set_option maxHeartbeats 4000000
set_option autoImplicit false
/-! Dl17: sorted(d), the keys of a dict with text keys; sorted(xs), texts. -/
namespace Dl
open PySem PySem.Spec PyProof.Rows L2
section
variable {X : Cx} {c : Cc} {ρ : En} {δ : List Int} {pos p : Pos} {e : Expr}
theorem rp_strs {K : PySem.W.Frag} {H : Hp} : ∀ ys : List Str, RpAll K H (ys.map V.str) (ys.map PyData.str)
  | [] => .nil
  | y :: ys => .cons (.str y) (rp_strs ys)
theorem en_sortedDk {Z : Wd → List Int → Prop} (hm : X.mg "sorted" = none) (h : EE X c e ρ δ fun a δ1 => onDk a fun kvs => kvs.length < 64 ∧ ∀ ys : List Str, ys.Perm (kvs.map (·.1)) → Z (.d (.list (ys.map PyData.str))) δ1) (hg : Gl X "sorted" := by rfl) (hcalm : X.calm = true := by rfl)
    (hs : starEach [e] X.env = (false, eval e X.env) :: starEach [] X.env := by rfl) : EN X c (.Call (.Name "sorted" p) [e] [] pos) ρ δ Z :=
  PE.le (pe_callB (call_sortedD hcalm) hg hm (by first | rfl | decide +kernel) (ea_one (Z := fun as δ1 => ∃ a, as = [a] ∧ onDk a fun kvs => kvs.length < 64 ∧ ∀ ys : List Str, ys.Perm (kvs.map (·.1)) → Z (.d (.list (ys.map PyData.str))) δ1) (ee_imp h fun a δ1 hz => ⟨a, rfl, hz⟩) hs) (he := hs)) fun σ H Q ⟨ps, g, k⟩ =>
    ⟨ps, g, fun vs as δ1 H1 _ ⟨a, ea, hq⟩ x1 r1 => by
      subst ea
      obtain ⟨v, rfl, ra⟩ := paired_one r1
      revert ra
      refine onDk_elim (P := fun a1 => RepA (bx X) c.pd (cut H1 (c.xs ++ ps)) H1 v a1 → _) hq fun kvs hz ra => ?_
      obtain ⟨q, us, ev, h1, h2⟩ := ra
      refine ⟨q, us, kvs.map (·.1), by rw [ev], .inl (cut_le _ _ h1), kv_keys h2, by rw [List.length_map]; exact hz.1, fun ys l hp _ hl => ?_⟩
      obtain ⟨n0, xx, o⟩ := own_new g x1 hl (rp_strs ys)
      exact k l _ δ1 _ (hz.2 ys hp) n0 xx o⟩
theorem rp_strs' {K : PySem.W.Frag} {H : Hp} : ∀ {ys : List Str} {vs : List V}, RpAll K H vs (ys.map PyData.str) → vs = ys.map V.str
  | [], vs, h => by
    cases h
    rfl
  | y :: ys, vs, h => by
    cases h with
    | cons h t =>
      cases h
      rw [rp_strs' t]
      rfl
theorem en_sortedS {Z : Wd → List Int → Prop} (hm : X.mg "sorted" = none) (h : EE X c e ρ δ fun a δ1 => ∃ xs : List Str, a = .v (.d (.list (xs.map PyData.str))) ∧ xs.length < 64 ∧ ∀ ys : List Str, ys.Perm xs → Z (.d (.list (ys.map PyData.str))) δ1) (hg : Gl X "sorted" := by rfl)
    (hs : starEach [e] X.env = (false, eval e X.env) :: starEach [] X.env := by rfl) : EN X c (.Call (.Name "sorted" p) [e] [] pos) ρ δ Z :=
  PE.le (pe_callB cr_sortedS hg hm (by first | rfl | decide +kernel) (ea_one (Z := fun as δ1 => ∃ a, as = [a] ∧ ∃ xs : List Str, a = .v (.d (.list (xs.map PyData.str))) ∧ xs.length < 64 ∧ ∀ ys : List Str, ys.Perm xs → Z (.d (.list (ys.map PyData.str))) δ1) (ee_imp h fun a δ1 hz => ⟨a, rfl, hz⟩) hs) (he := hs)) fun σ H Q ⟨ps, g, k⟩ =>
    ⟨ps, g, fun vs as δ1 H1 _ ⟨a, ea, xs, ex, h64, hz⟩ x1 r1 => by
      subst ea ex
      obtain ⟨v, rfl, ra⟩ := paired_one r1
      obtain ⟨q, us, ev, h1, h2⟩ := rep_lst ra
      rw [rp_strs' h2] at h1
      refine ⟨q, xs, by rw [ev], sqL_up h1, h64, fun ys l hp _ hl => ?_⟩
      obtain ⟨n0, xx, o⟩ := own_new g x1 hl (rp_strs ys)
      exact k l _ δ1 _ (hz ys hp) n0 xx o⟩
end
end Dl
/-! part dl18 -/
set_option Elab.async false
set_option linter.all false
set_option maxRecDepth 100000
set_option maxHeartbeats 4000000
set_option autoImplicit false
/-! Dl18: sorted(xs, key=f), the items of a Lean type. -/
namespace Dl
open PySem PySem.Spec PyProof.Rows L2
theorem perm_of_map {α β : Type} {f : α → β} {l m : List β} (p : l.Perm m) : ∀ {xs : List α}, m = xs.map f → ∃ ys : List α, ys.Perm xs ∧ l = ys.map f := by
  induction p with
  | nil =>
    intro xs e
    exact ⟨xs, List.Perm.refl _, e⟩
  | cons x _ ih =>
    intro xs e
    cases xs with
    | nil => cases e
    | cons a xs =>
      rw [List.map_cons] at e
      obtain ⟨e1, e2⟩ := List.cons.inj e
      obtain ⟨ys, p1, e3⟩ := ih e2
      exact ⟨a :: ys, p1.cons a, by rw [List.map_cons, e1, e3]⟩
  | swap x y l =>
    intro xs e
    cases xs with
    | nil => cases e
    | cons a xs =>
      cases xs with
      | nil => cases e
      | cons b xs =>
        rw [List.map_cons, List.map_cons] at e
        obtain ⟨e1, e2⟩ := List.cons.inj e
        obtain ⟨e2, e3⟩ := List.cons.inj e2
        exact ⟨b :: a :: xs, List.Perm.swap .., by rw [List.map_cons, List.map_cons, e1, e2, e3]⟩
  | trans _ _ ih1 ih2 =>
    intro xs e
    obtain ⟨ys, p1, e1⟩ := ih2 e
    obtain ⟨zs, p2, e2⟩ := ih1 e1
    exact ⟨zs, p2.trans p1, e2⟩
section
variable {X : Cx} {c : Cc} {ρ : En} {δ : List Int} {pos p p2 p3 : Pos} {e : Expr}
theorem en_sortKM {x : Str} {k k' : Nat} {G : GD} {α : Type} (enc : α → PyData) (kf : α → PyData) {Z : Wd → List Int → Prop} (D : Df X.prog X.w X.K X.mg X.base k x 1 G) (hr : Room k' X.A) (hm : X.mg "sorted" = none)
    (h : EE X c e ρ δ fun a δ1 => ∃ xs : List α, a = .v (.d (.list (xs.map enc))) ∧ (∀ x ∈ xs, ∀ Z' : Wd → Prop, Z' (.d (kf x)) → G [.v (.d (enc x))] [] fun w _ => Z' w) ∧ (2 ≤ xs.length → ∀ ks : List PyData, (∀ k ∈ ks, ∃ x ∈ xs, k = kf x) → KeysOk X.prog X.w ks) ∧ ∀ ys : List α, ys.Perm xs → Z (.d (.list (ys.map enc))) δ1)
    (hk : k + 2 ≤ k' := by decide) (hg : Gl X "sorted" := by rfl) (hgx : Gl X x := by rfl) (hdb : (x == ("__debug__" : Str)) = false := by decide) (hs : starEach [e] X.env = (false, eval e X.env) :: starEach [] X.env := by rfl)
    (he : backTo pos (starEach [e] X.env) = (false, eval e X.env) :: backTo pos (starEach [] X.env) := by rfl) (hpl : (backTo pos (starEach [e] X.env)).any (·.1) = false := by rfl) :
    EN X c (.Call (.Name "sorted" p) [e] [⟨some "key", .Name x p2, p3⟩] pos) ρ δ Z := by
  refine en_sortK D hr hm (ee_imp h fun a δ1 ⟨xs, ea, h1, h2, h3⟩ => ?_) hk hg hgx hdb hs he hpl
  subst ea
  classical
  refine ⟨⟨fun d => if q : ∃ x, x ∈ xs ∧ enc x = d then kf q.choose else d, fun d hd Z' hZ => ?_, fun hl => h2 (by rw [List.length_map] at hl; exact hl) _ fun k hk => ?_⟩, fun ds' hp => ?_⟩
  · obtain ⟨x, hx, e⟩ := List.mem_map.mp hd
    have q : ∃ x, x ∈ xs ∧ enc x = d := ⟨x, hx, e⟩
    simp only [dif_pos q] at hZ
    have := h1 q.choose q.choose_spec.1 Z' hZ
    rw [q.choose_spec.2] at this
    exact this
  · obtain ⟨d, hd, rfl⟩ := List.mem_map.mp hk
    obtain ⟨x, hx, e⟩ := List.mem_map.mp hd
    have q : ∃ x, x ∈ xs ∧ enc x = d := ⟨x, hx, e⟩
    exact ⟨q.choose, q.choose_spec.1, dif_pos q⟩
  · obtain ⟨ys, p1, rfl⟩ := perm_of_map hp rfl
    exact h3 ys p1
end
end Dl
/-! part dl19 -/
set_option Elab.async false
set_option linter.all false
set_option maxRecDepth 100000
set_option maxHeartbeats 4000000
set_option autoImplicit false
/-! Dl19: dict comprehensions whose keys are tuples, over data. -/
namespace Dl
open PySem PySem.Spec PyProof.Rows L2
section
variable {X : Cx}
theorem ps_setDcN {i : Nat} {y : Str} {py : Pos} {kx vx tg iter : Expr} {ifs : List Expr} {scope : Scope} {own : List (Str × Nat)} {pos spos : Pos} {wi : TI} {g : TG} {tt : TT} {tk tv : TE} {k0 : Nat} (hr : Room k0 X.A) (hc : X.calm = true) (hN : X.N.Nodup) (hy : X.N[i]? = some y) (hyl : X.env.scope.names.lookup y = some .local)
    (hsw : swapsWith (.DictComp kx vx [⟨tg, iter, ifs, 0⟩] scope pos) (some (.Name y py)) spos.line X.env = pure true) (hi : PI X tg iter wi) (ok : BlkOk X.N X.env.scope scope own)
    (hg : Blk X scope fun X' => PG X' tg g) (ht : Blk X scope fun X' => PTs X' ifs tt) (hk : Blk X scope fun X' => PE X' kx tk) (he : Blk X scope fun X' => PE X' vx tv) (hs : ∀ x, foldedSetIterable iter X.env x = pure x := by intro _; rfl) :
    PS X (.Assign [.Name y py] (.DictComp kx vx [⟨tg, iter, ifs, 0⟩] scope pos) spos) (tAsg (tDcN X wi g tt tk tv (own.map (·.2))) (gName i)) := by
  refine ⟨fun pins s σ H D I h => ?_⟩
  rw [exec_Assign_Name_used _ _ _ _ hsw]
  refine wpAny_bind (wpAny_standAt (wpAny_bind ?_))
  show wpAny _ X.A (do let _ ← comprehension (.DictComp kx vx [⟨tg, iter, ifs, 0⟩] scope pos) scope X.env (firstIterPos [⟨tg, iter, ifs, 0⟩] pos) newDict false (eval iter X.env) (some (assign (.Name y py) X.env))) _ _ s
  have h' : tDcN X wi g tt tk tv (own.map (·.2)) σ H (fun x H1 => gName i x σ H1 D.nx) := h
  refine wpAny_bind (thn (dcn_run (Qf := fun _ s' => SP X pins D .next s') hr hc hN I hi ok hg ht hk he hs h' fun L C s' m H' I' q hn f => ?_) fun _ s' hq => wpAny_pure (wpAny_pure hq))
  show wpAny _ _ (assign (.Name y py) X.env (.ref L)) _ _ _
  refine wpAny_assign_Name (store_ok2 (v := V.ref L) I' hN hy (.inl hyl) rfl (fun s2 I2 ⟨a, sb, ha⟩ => ?_) (.inr hyl))
  obtain ⟨f0, f1, f2, f3, f4, f5⟩ := f
  have away : C ≠ a := by
    rcases ha with z | z
    · rw [z]; exact f1
    · exact fun e => f4 y a z e.symm
  exact ⟨m, hn.sameBut sb away, fun h3 sb3 => ⟨_, H', I2.turned (t' := s2.toks) (fun b o hb e => (sb3.2 b hb).trans e) f0 f1 f3 f4 f5, q⟩⟩
theorem sw_trueD {kx vx : Expr} {gs : List Comprehension} {scope : Scope} {pos py : Pos} {y : Str} {l : Nat} {env : Env} (hk : env.scope.kind = .function) (hy : env.scope.names.lookup y = some .local) (hl : (py.line == pos.line) = true)
    (ha : (scope.names.any fun (n, k) => n == y && (k == .local || k == .cell)) = false) : swapsWith (.DictComp kx vx gs scope pos) (some (.Name y py)) l env = pure true := by
  have ky : env.kindOf y = some .local := hy
  have hb : env.blockKind = .function := by unfold Env.blockKind; rw [hk]; rfl
  unfold swapsWith
  simp only [hb, ky, ha, Expr.pos, hl]
  rfl
variable {c : Cc} {scope : Scope} {tg kx vx iter : Expr} {ifs : List Expr} {ρ : En} {δ : List Int} {vs : List Nat} {own : List (Str × Nat)} {pos spos py : Pos} {x : Str} {kk : Nat}
/-- what a walk must come to: acc the dict so far -/
def DcZ (X : Cx) (c : Cc) (scope : Scope) (tg kx vx : Expr) (ifs : List Expr) (ρ : En) (vs : List Nat) (Z : Wd → List Int → Prop) : List IW → List Int → Prop := fun ys δ1 => ys.length < sizeLine ∧
  ∃ I : Nat → List (NestedKey × PyData) → List Int → Prop, I 0 [] δ1 ∧
    (∀ (i : Nat) (y : IW) acc δi, ys[i]? = some y → I i acc δi → ∃ R Zt, (Blk X scope fun X' => EG X' c tg y (wipeE ρ vs) δi vs fun ρ2 => ρ2 = R) ∧ (Blk X scope fun X' => ETs X' c ifs R δi Zt) ∧
      (∀ δ2, Zt true δ2 → Blk X scope fun X' => EE X' c kx R δ2 fun a δ3 => ∃ ks : List NestedKey, a = .v (.d (.tuple (NestedKey.datas ks))) ∧ (NestedKey.tup ks).depth ≤ 8 ∧ Blk X scope fun X' => EE X' c vx R δ3 fun a δ4 => onD a fun d => I (i + 1) (putN acc (.tup ks) d) δ4) ∧
      ∀ δ2, Zt false δ2 → I (i + 1) acc δ2) ∧
    ∀ acc δ', I ys.length acc δ' → Z (.dn acc) δ'
theorem dc_le {Z : Wd → List Int → Prop} (σ : L2.St) (H : Hp) (Q : VK) (h : tN (bx X) c ρ δ Z σ H Q) : tDcN X (tIc (bx X) c ρ δ (DcZ X c scope tg kx vx ifs ρ vs Z)) (gB X c scope tg) (tBs X c scope ifs) (eB X c scope kx) (eB X c scope vx) vs σ H Q := by
  obtain ⟨ps, g, k⟩ := h
  refine ⟨ps, g, fun J ys δ1 H1 ⟨hlen, I, i0, it, ie⟩ x1 wk D hD => ?_⟩
  have g1 := g.ext x1
  have h0 : H D = none := by
    cases q : H D with
    | none => rfl
    | some o => exact absurd hD (x1.there (by rw [q]; exact fun z => nomatch z))
  have nD : D ∉ c.xs ++ ps := g1.fresh hD
  have npd : c.pd ≠ some D := fun e => nD (List.mem_append_right _ (g1.dr D e).1)
  have hown : ∀ (i : Nat) (w : Wd), (wipeE ρ vs)[i]? = some (some (.ow w)) → (wipe σ vs)[i]? ≠ some (some (.ref D)) := fun i w e z => by
    obtain ⟨v, h1, _, h3⟩ := (g1.wiped vs).sl i _ e
    rw [z] at h1
    cases h1
    exact nD (List.mem_append_right _ (h3 D rfl))
  obtain ⟨gm, sm0⟩ := (g1.wiped vs).more (o := DNo (bx X) D []) hD
  refine ⟨fun i m H2 => m = ys.length - i ∧ i ≤ ys.length ∧ ∃ acc δi xs, I i acc δi ∧ acc.length ≤ i ∧ Gd (bx X) c (D :: ps) (wipeE ρ vs) δi (wipe σ vs) H2 ∧ H2 D = some (DNo (bx X) D xs) ∧ NkOk X.K (cut H2 (c.xs ++ D :: ps)) xs acc ∧
      (∀ a o, c.pd ≠ some a → H1 a = some o → H2 a = some o), ⟨_, rfl, Nat.zero_le _, [], δ1, [], i0, Nat.le_refl _, gm, upd_same, .nil, fun a o _ e => by rw [upd_ne (ne_of_none e hD)]; exact e⟩, ?_⟩
  rintro i m H2 ⟨rfl, hi, acc, δi, xs, inv, hacc, g2, hl, nk, kp⟩
  obtain ⟨wg, ws⟩ := wk H2 kp
  by_cases hlt : i < ys.length
  · obtain ⟨gi, yi⟩ := wg i ys[i] (List.getElem?_eq_getElem hlt)
    refine .inr ⟨gi, fun H3 => ∃ acc δ3 xs, I (i + 1) acc δ3 ∧ acc.length ≤ i + 1 ∧ Gd (bx X) c (D :: ps) (wipeE ρ vs) δ3 (wipe σ vs) H3 ∧ H3 D = some (DNo (bx X) D xs) ∧ NkOk X.K (cut H3 (c.xs ++ D :: ps)) xs acc ∧
      (∀ a o, c.pd ≠ some a → H1 a = some o → H3 a = some o), fun H3 q => ⟨_, by omega, rfl, hlt, q⟩, fun x H' hy => ?_⟩
    have sm : Same (cut H1 (c.xs ++ ps)) (cut H2 (c.xs ++ D :: ps)) := cut_same (fun a o n e => kp a o (g1.pdIn n) e) fun a ha => by
      rcases List.mem_append.mp ha with ha | ha
      · exact .inl (List.mem_append_left _ ha)
      · rcases List.mem_cons.mp ha with ha | ha
        · rw [ha]; exact .inr hD
        · exact .inl (List.mem_append_right _ ha)
    obtain ⟨xt, lr⟩ := yrep_l g2 sm (yi x H' hy)
    obtain ⟨R, Zt, hg, ht, he, hn⟩ := it i ys[i] acc δi (List.getElem?_eq_getElem hlt) inv
    have g3 := g2.ext xt
    refine ⟨_, _, _, _, _, hg, D :: ps, g3, lr, fun ρ2 σ2 er g4 hl4 hj4 => ?_⟩
    subst er
    refine ⟨by rw [wipe_same hl4 hj4, wipe_wipe], _, _, _, ht, D :: ps, g4, fun b δ2 H5 hz x5 => ?_⟩
    have done : ∀ {δ3 : List Int} {H6 : Hp}, Xt c δ3 H2 H6 → Gd (bx X) c (D :: ps) (wipeE ρ vs) δ3 (wipe σ vs) H6 ∧ H6 D = some (DNo (bx X) D xs) ∧ NkOk X.K (cut H6 (c.xs ++ D :: ps)) xs acc ∧ (∀ a o, c.pd ≠ some a → H1 a = some o → H6 a = some o) := fun {δ3 H6} xx =>
      ⟨g2.ext xx, xx.1 D _ npd hl, nk_mono (g2.same xx) nk, fun a o n e => xx.1 a o n (kp a o n e)⟩
    cases b with
    | false =>
      show ∃ acc δ3 xs, _
      obtain ⟨d1, d2, d3, d4⟩ := done (xt.trans x5)
      exact ⟨acc, δ2, xs, hn δ2 hz, by omega, d1, d2, d3, d4⟩
    | true =>
      have g5 := g4.ext x5
      refine ⟨_, _, _, he δ2 hz, D :: ps, g5, fun y a δ3 H6 ⟨ks, ea, hdp, hv⟩ x6 r6 => ?_⟩
      subst ea
      obtain ⟨b, ob, us, ey, hb1, hb2, hb3⟩ := rep_tup r6
      refine ⟨_, _, _, hv, D :: ps, g5.ext x6, fun z a2 δ4 H7 hz7 x7 r7 => ?_⟩
      revert r7
      refine onD_elim (P := fun a => RepA (bx X) c.pd (cut H7 (c.xs ++ D :: ps)) H7 z a → _) hz7 fun d hz4 r7 => ?_
      obtain ⟨d1, d2, d3, d4⟩ := done (((xt.trans x5).trans x6).trans x7)
      have rk : Rp X.K (cut H7 (c.xs ++ D :: ps)) (.ref b) (NestedKey.tup ks).data := by
        have q := dp_mono ((g5.ext x6).same x7) (show Rp X.K (cut H6 (c.xs ++ D :: ps)) y (.tuple (NestedKey.datas ks)) from r6)
        rw [ey] at q
        have e : (NestedKey.tup ks).data = .tuple (NestedKey.datas ks) := by first | rfl | rw [NestedKey.data]
        rw [e]
        exact q
      obtain ⟨u1, ec⟩ := d1.upd0 (o' := DNo (bx X) D (putX xs (.tup ks) b z)) List.mem_cons_self d2 npd hown
      have hpl : (putN acc (.tup ks) d).length ≤ acc.length + 1 := storeG_length ..
      refine ⟨cut H7 (c.xs ++ D :: ps), b, xs, acc, .tup ks, ey, d2, cut_le, d3, rk, hdp, by rw [paired_len d3]; omega, putN acc (.tup ks) d, δ4, putX xs (.tup ks) b z, hz4, by omega, u1, upd_same, by rw [ec]; exact putX_nk d3 rk hdp r7, fun a o n e => ?_⟩
      rw [upd_ne (ne_of_none e hD)]
      exact d4 a o n e
  · have e : i = ys.length := by omega
    subst e
    exact .inl ⟨ws _ (Nat.le_refl _), k D (.dn acc) δi H2 (ie acc δi inv) h0 (x1.trans ⟨kp, fun p e => (g2.dr p e).2⟩) ⟨xs, hl, nk⟩⟩
theorem en_dc {Z : Wd → List Int → Prop} (hr : Room kk X.A) (hi : EIc X c tg iter ρ δ (DcZ X c scope tg kx vx ifs ρ vs Z)) (hN : X.N.Nodup) (ok : BlkOk X.N X.env.scope scope own) (hvs : own.map (·.2) = vs := by rfl) (hc : X.calm = true := by rfl)
    (hs : ∀ x, foldedSetIterable iter X.env x = pure x := by intro _; rfl) : EN X c (.DictComp kx vx [⟨tg, iter, ifs, 0⟩] scope pos) ρ δ Z := by
  subst hvs
  exact PE.le (pe_dcN hr hc hN hi ok pg_blk pts_blk pe_blk pe_blk hs) fun σ H Q h => dc_le σ H Q h
theorem se_setDcN (i : Nat) {Z : Ot → Prop} (hr : Room kk X.A) (hi : EIc X c tg iter ρ δ (DcZ X c scope tg kx vx ifs ρ vs fun w δ1 => Z (.nx (ρ.set i (some (.ow w))) δ1))) (hN : X.N.Nodup) (ok : BlkOk X.N X.env.scope scope own)
    (hsw : swapsWith (.DictComp kx vx [⟨tg, iter, ifs, 0⟩] scope pos) (some (.Name x py)) spos.line X.env = pure true) (hy : X.N[i]? = some x := by rfl) (hyl : X.env.scope.names.lookup x = some .local := by rfl)
    (hvs : own.map (·.2) = vs := by rfl) (hc : X.calm = true := by rfl) (hs : ∀ x, foldedSetIterable iter X.env x = pure x := by intro _; rfl) : SE X c (.Assign [.Name x py] (.DictComp kx vx [⟨tg, iter, ifs, 0⟩] scope pos) spos) ρ δ Z := by
  subst hvs
  refine PS.le (ps_setDcN hr hc hN hy hyl hsw hi ok pg_blk pts_blk pe_blk pe_blk hs) fun D σ H ⟨ps, g, h1, _⟩ => dc_le σ H _ ⟨ps, g, fun p w δ1 H1 hz hp x1 o => ?_⟩
  exact h1 _ δ1 _ H1 (p :: ps) hz (g.putN hp x1 o i) ⟨fun a u n q => x1.1 a u (fun z => n (g.dr a z).1) q, fun a q => (List.mem_cons.mp q).elim (fun z => by rw [z]; exact .inr hp) .inl⟩
variable {Z : ZE} {e a b : Expr} {p : Pos}
/-- a new dict with tuple keys, frozen at once -/
theorem ee_newN (h : EN X c e ρ δ fun w δ1 => ∃ kvs, w = .dn kvs ∧ Z (.v (.dn kvs)) δ1) : EE X c e ρ δ Z :=
  PE.le (pe_fz h) fun σ H Q ⟨ps, g, k⟩ => ⟨ps, g, fun p w δ1 H1 ⟨kvs, ew, hz⟩ h0 x1 o => by
    subst ew
    obtain ⟨xs, hp, nk⟩ := o
    have np : p ∉ c.xs ++ ps := g.fresh h0
    have xf : ∀ ob, Xt c δ1 H (upd H1 p (.frz ob (DNo (bx X) p xs))) := fun ob => ⟨fun a u n q => by
      rw [upd_ne (ne_of_none q h0)]
      exact x1.1 a u n q, fun q e => by
      rw [upd_ne (fun z => np (List.mem_append_right _ (by rw [← z]; exact (g.dr q e).1)))]
      exact x1.2 q e⟩
    refine ⟨p, _, rfl, hp, trivial, fun ob => k (.ref p) (.v (.dn kvs)) δ1 _ hz (xf ob) ⟨p, ob, xs, rfl, by rw [cut_out np, upd_same], nk_mono (cut_same (fun a u n q => ?_) fun a q => ?_) nk⟩⟩
    · rw [upd_ne (fun z => n (by rw [z]; exact List.mem_append_right _ List.mem_cons_self))]
      exact q
    · rcases List.mem_append.mp q with q | q
      · exact .inl (List.mem_append_left _ q)
      · exact .inl (List.mem_append_right _ (List.mem_cons_of_mem _ q))⟩
/-- what a dict with tuple keys is at -/
theorem rep_dn {B : Bx} {pd : Option Addr} {E : List Addr} {H : Hp} {v : V} {kvs : List (NestedKey × PyData)} (r : RepA B pd (cut H E) H v (.v (.dn kvs))) : ∃ p o xs, v = .ref p ∧ p ∉ E ∧ H p = some (.frz o (DNo B p xs)) ∧ NkOk B.K (cut H E) xs kvs := by
  obtain ⟨p, o, xs, e, h1, h2⟩ := r
  obtain ⟨n, q⟩ := cut_some h1
  exact ⟨p, o, xs, e, n, q, h2⟩
theorem rep_key {B : Bx} {pd : Option Addr} {G H : Hp} {v : V} {ks : List NestedKey} (r : RepA B pd G H v (.v (.d (.tuple (NestedKey.datas ks))))) : ∃ b, v = .ref b ∧ Rp B.K G (.ref b) (NestedKey.tup ks).data := by
  obtain ⟨b, ob, us, ey, _, _, _⟩ := rep_tup r
  refine ⟨b, ey, ?_⟩
  have e : (NestedKey.tup ks).data = .tuple (NestedKey.datas ks) := by first | rfl | rw [NestedKey.data]
  rw [e, ← ey]
  exact r
/-- d[k] -/
theorem ee_dnget (hr : Room kk X.A) (h : EE X c a ρ δ fun a1 δ1 => onDn a1 fun kvs => EE X c b ρ δ1 fun a2 δ2 => ∃ ks : List NestedKey, a2 = .v (.d (.tuple (NestedKey.datas ks))) ∧ (NestedKey.tup ks).depth ≤ 8 ∧ ∃ d, lookN kvs (.tup ks) = some d ∧ Z (.v (.d d)) δ2) (hs : NoSl b := by exact fun _ _ => rfl) : EE X c (.Subscript a b pos) ρ δ Z :=
  PE.le (pe_getN hr h pe_any hs) fun σ H Q ⟨ps, g, k⟩ => ⟨ps, g, fun v a1 δ1 H1 hz x1 r1 => by
    revert r1
    refine onDn_elim (P := fun a1 => RepA (bx X) c.pd (cut H1 (c.xs ++ ps)) H1 v a1 → _) hz fun kvs hb r1 => ?_
    have g1 := g.ext x1
    refine ⟨_, hb, ps, g1, fun u a2 δ2 H2 ⟨ks, ea, hd, d, hl, hz3⟩ x2 r2 => ?_⟩
    subst ea
    obtain ⟨p, o, xs, e1, _, h1, h2⟩ := rep_dn (g1.repA x2 r1)
    obtain ⟨b, e2, h3⟩ := rep_key r2
    exact ⟨cut H2 (c.xs ++ ps), b, p, xs, kvs, .tup ks, d, e2, e1, .inr ⟨o, h1⟩, cut_le, h2, h3, hd, hl, fun v' hv' => k v' (.v (.d d)) δ2 H2 hz3 (x1.trans x2) hv'⟩⟩
/-- k in d -/
theorem et_inDn {Zt : Bool → List Int → Prop} (hr : Room kk X.A) (h : EE X c a ρ δ fun a1 δ1 => ∃ ks : List NestedKey, a1 = .v (.d (.tuple (NestedKey.datas ks))) ∧ (NestedKey.tup ks).depth ≤ 8 ∧ EE X c b ρ δ1 fun a2 δ2 => onDn a2 fun kvs => Zt (lookN kvs (.tup ks)).isSome δ2) (hm : behindInMarks .In b = false := by rfl) : ET X c (.Compare a [.In] [b] pos) ρ δ Zt :=
  PT.le (pt_cmpR (op_inN hr) h pe_any hm) fun σ H Q ⟨ps, g, k⟩ => ⟨ps, g, fun v a1 δ1 H1 ⟨ks, ea, hd, hb⟩ x1 r1 => by
    subst ea
    have g1 := g.ext x1
    refine ⟨_, hb, ps, g1, fun u a2 δ2 H2 hz2 x2 r2 => ?_⟩
    revert r2
    refine onDn_elim (P := fun a2 => RepA (bx X) c.pd (cut H2 (c.xs ++ ps)) H2 u a2 → _) hz2 fun kvs hz3 r2 => ?_
    obtain ⟨p, o, xs, e1, _, h1, h2⟩ := rep_dn r2
    obtain ⟨b, e2, h3⟩ := rep_key (g1.repA x2 r1)
    exact ⟨cut H2 (c.xs ++ ps), b, p, xs, kvs, .tup ks, e2, e1, .inr ⟨o, h1⟩, cut_le, h2, h3, hd, _, rfl, k _ δ2 H2 hz3 (x1.trans x2)⟩⟩
/-- a walk over the keys -/
theorem ei_dn {tg : Expr} {Z : List IW → List Int → Prop} (h : EE X c e ρ δ fun a δ1 => onDn a fun kvs => Z (kvs.map fun kv => .one (.d kv.1.data)) δ1) : EI X c tg e ρ δ Z :=
  PI.le (pi_keysN h) fun σ H R ⟨ps, g, k⟩ => ⟨ps, g, fun v a1 δ1 H1 hz x1 r => by
    revert r
    refine onDn_elim (P := fun a1 => RepA (bx X) c.pd (cut H1 (c.xs ++ ps)) H1 v a1 → _) hz fun kvs hz r => ?_
    obtain ⟨p, o, xs, e1, np, h1, h2⟩ := rep_dn r
    refine ⟨p, o, xs, e1, h1, k _ _ δ1 H1 hz x1 fun H hH => ⟨fun i y hy => ?_, fun i hi => ⟨hH _ _ np h1, by rw [List.length_map] at hi; rw [paired_len h2]; exact hi⟩⟩⟩
    rw [List.getElem?_map] at hy
    cases q : kvs[i]? with
    | none => rw [q] at hy; cases hy
    | some kv =>
      rw [q] at hy
      cases hy
      obtain ⟨z, hz1, hz2⟩ := paired_at h2 q
      refine ⟨⟨hH _ _ np h1, (List.getElem?_eq_some_iff.mp hz1).1⟩, fun x H' ⟨eH, w, hw, ex⟩ => ?_⟩
      rw [hz1] at hw
      cases hw
      subst ex
      exact ⟨eH, hz2.2.1⟩⟩
end
end Dl
/-! part dl20 -/
set_option Elab.async false
set_option linter.all false
set_option maxRecDepth 100000
set_option maxHeartbeats 4000000
set_option autoImplicit false
/-! Dl20: list(d), {k: v}, [.. for .. for ..]. -/
namespace Dl
open PySem PySem.Spec PyProof.Rows L2
section
variable {X : Cx}
theorem call_listN (hcalm : X.calm = true) : CallR X (.type "list") (fun xs H Q => ∃ (a : Addr) (nxs : List NX), xs = [.ref a] ∧ H a = some (DNo (bx X) a nxs) ∧ ∀ p, H p = none → Q (.ref p) (upd H p (.lst (nxs.map fun x => .ref x.2.1)))) := by
  intro pins s σ H xs us Q I r q
  obtain ⟨a, nxs, ex, hd, q⟩ := q
  subst ex
  obtain ⟨u, eu, rx⟩ := vals1 r
  subst eu
  cases rx
  obtain ⟨hz, hs, _, ys, pr, o, es, ep, e1, e2, e3, e4⟩ := (I.hok a _ hd).1
  have hn : es.size = nxs.length := by rw [size_of_entries e4, ← paired_len pr]
  refine PySem.W.kdl_call (KdlSrc.rawDict (es := es) (ep := ep) hs) (I.ok.hd hcalm) ⟨o, e1, e2, e3⟩ (by rw [hn]; exact hz) fun h' tk acc c' hk hD hacc => ?_
  have hv : Vals (nxs.map fun x => V.ref x.2.1) acc.toList := by
    have el : acc.toList = nxs.map fun x => Value.ref x.2.1 := by
      refine List.ext_getElem? fun i => ?_
      have hl : acc.toList.length = nxs.length := by rw [Array.length_toList, hacc.1, hn]
      by_cases hi : i < nxs.length
      · have hx : nxs[i]? = some nxs[i] := List.getElem?_eq_getElem hi
        obtain ⟨y, hy, r⟩ := paired_get pr hx
        have q := entry_at e4 i
        rw [hy] at q
        obtain ⟨v, hv⟩ : ∃ v, acc.toList[i]? = some v := ⟨_, List.getElem?_eq_getElem (by rw [hl]; exact hi)⟩
        obtain ⟨hi2, ev⟩ := hacc.2 i v (by rw [← Array.getElem?_toList]; exact hv)
        rw [hv, List.getElem?_map, hx]
        have q2 : es[i]? = some es[i] := Array.getElem?_eq_getElem hi2
        rw [q2] at q
        have q3 := congrArg DictEntry.key (Option.some.inj q)
        rw [ev, q3, Option.map_some, r.2.1]
        rfl
      · rw [List.getElem?_eq_none (by rw [hl]; omega), List.getElem?_eq_none (by rw [List.length_map]; omega)]
    rw [el]
    have gen : ∀ l : List NX, Vals (l.map fun x => V.ref x.2.1) (l.map fun x => Value.ref x.2.1) := fun l => by
      induction l with
      | nil => exact .nil
      | cons x l ih => exact .cons rfl ih
    exact gen nxs
  refine ⟨.ref s.heap.objs.size, upd H s.heap.objs.size (.lst (nxs.map fun x => .ref x.2.1)), I.laid (t' := tk) hk (Nat.le_refl _)
    (show ObjOk X.prog X.w _ _ _ (.lst (nxs.map fun x => V.ref x.2.1)) from ⟨by rw [List.length_map]; exact hz, acc.toList, c', hv, by rw [Array.toArray_toList]; exact hD⟩), rfl, q _ (I.hok.fresh (Nat.le_refl _))⟩
variable {c : Cc} {ρ : En} {δ : List Int} {pos p : Pos} {e kx vx : Expr} {kk : Nat}
/-- list(d), d ours, its keys tuples -/
theorem en_listN {Z : Wd → List Int → Prop} (hm : X.mg "list" = none) (h : EE X c e ρ δ fun a δ1 => ∃ kvs, a = .ow (.dn kvs) ∧ Z (.d (.list (kvs.map fun kv => kv.1.data))) δ1) (hg : Gl X "list" := by rfl) (hcalm : X.calm = true := by rfl)
    (hs : starEach [e] X.env = (false, eval e X.env) :: starEach [] X.env := by rfl) : EN X c (.Call (.Name "list" p) [e] [] pos) ρ δ Z :=
  PE.le (pe_callTy (call_listN hcalm) hg hm PyProof.Rows.boot_list (ea_one (Z := fun as δ1 => ∃ a, as = [a] ∧ ∃ kvs, a = .ow (.dn kvs) ∧ Z (.d (.list (kvs.map fun kv => kv.1.data))) δ1) (ee_imp h fun a δ1 hz => ⟨a, rfl, hz⟩) hs) (he := hs)) fun σ H Q ⟨ps, g, k⟩ =>
    ⟨ps, g, fun vs as δ1 H1 _ ⟨a, ea, kvs, ek, hz⟩ x1 r1 => by
      subst ea ek
      obtain ⟨v, rfl, q, ev, _, xs, h1, h2⟩ := paired_one r1
      refine ⟨q, xs, by rw [ev], h1, fun l hl => ?_⟩
      have rr : RpAll X.K (cut H1 (c.xs ++ ps)) (xs.map fun x => V.ref x.2.1) (kvs.map fun kv => kv.1.data) := by
        have gen : ∀ {xs : List NX} {kvs : List (NestedKey × PyData)}, NkOk X.K (cut H1 (c.xs ++ ps)) xs kvs → RpAll X.K (cut H1 (c.xs ++ ps)) (xs.map fun x => V.ref x.2.1) (kvs.map fun kv => kv.1.data) := fun {xs kvs} h3 => by
          unfold NkOk at h3
          induction h3 with
          | nil => exact .nil
          | cons r _ ih => exact .cons r.2.1 ih
        exact gen h2
      obtain ⟨n0, xx, o⟩ := own_new g x1 hl rr
      exact k l _ δ1 _ hz n0 xx o⟩
/-- {k: v} -/
def tDn1 (X : Cx) (tk tv : TE) : TE := fun σ H Q => ∀ D, H D = none → tk σ (upd H D (DNo (bx X) D [])) fun y H1 => tv σ H1 fun z H2 => ∃ (G : Hp) (b : Addr) (k : NestedKey), y = .ref b ∧ Same G H2 ∧ Rp X.K G (.ref b) k.data ∧ k.depth ≤ 8 ∧ H2 D = some (DNo (bx X) D []) ∧ Q (.ref D) (upd H2 D (DNo (bx X) D [(k, b, z)]))
theorem pe_dn1 {tk tv : TE} (hr : Room kk X.A) (hk : PE X kx tk) (hv : PE X vx tv) : PE X (.Dict [some kx] [vx] pos) (tDn1 X tk tv) := by
  refine ⟨fun pins s σ H Q I (q : ∀ D, H D = none → _) => ?_⟩
  have hn := I.hok.fresh (Nat.le_refl s.heap.objs.size)
  have I1 := I.laid (a := s.heap.objs.size) (o := DNo (bx X) s.heap.objs.size []) (h' := s.heap.push { cls := .type "dict", data := .dict #[] }) (t' := s.toks) (fun _ _ q => Heap.get?_push_of_some _ q) (Nat.le_refl _) (dn_empty s.heap I.big)
  have q1 := q _ hn
  generalize hD : s.heap.objs.size = D at I1 q1
  have shape := zip_pairTrees [some kx] [vx] X.env pos rfl rfl
  have hlen : (pairTrees [some kx] [vx] X.env pos).length = 1 := pairTrees_length [some kx] [vx] X.env pos rfl rfl
  rw [arm_eval_Dict, shape, dictDisplay_pairs _ (fun z => by rw [z] at hlen; cases hlen) (by omega)]
  refine wpAny_bind (wpAny_standAt (wpAny_bind (wpAny_subDictH (knd := nestedKind X.prog X.w) (roomN0 hr) (by omega) ?_)))
  refine pairTrees_cons_walk (thn (hk.run pins _ σ _ _ I1 q1) fun u s1 ⟨y, H2, I2, ry, q2⟩ => thn (hv.run pins s1 σ H2 _ I2 q2) fun w2 s2 ⟨z, H3, I3, rz, G, b, k, ey, sub, rk, kd, hD3, q3⟩ => pairTrees_nil_walk ?_)
  subst ey
  cases ry
  obtain ⟨_, hs, ys, pr, hm⟩ := dn_of (kvs := []) I3 sub (raw_at I3 (.inl hD3)) .nil
  cases pr
  refine ⟨[(k, b, w2)], ⟨rfl, rfl, dn_key I3 sub rk kd, trivial⟩, by rw [hD]; exact hm, fun h' tk hm' sb => ?_⟩
  rw [hD] at hm' sb ⊢
  refine wpAny_pure ⟨.ref D, _, dn_write (xs := []) (a := b) (k := k) (v := z) I3 hD3 (by rw [sizeLine_eq]; show 0 < _; omega) hs .nil rz hm' sb, rfl, q3⟩
theorem en_dn1 {Z : Wd → List Int → Prop} (hr : Room kk X.A) (h : EE X c kx ρ δ fun a δ1 => ∃ ks : List NestedKey, a = .v (.d (.tuple (NestedKey.datas ks))) ∧ (NestedKey.tup ks).depth ≤ 8 ∧ EE X c vx ρ δ1 fun a2 δ2 => onD a2 fun d => Z (.dn [(.tup ks, d)]) δ2) : EN X c (.Dict [some kx] [vx] pos) ρ δ Z :=
  PE.le (pe_dn1 hr h pe_any) fun σ H Q ⟨ps, g, k⟩ => fun D hD => by
    obtain ⟨gm, sm0⟩ := g.more (o := DNo (bx X) D []) hD
    have nD : D ∉ c.xs ++ ps := g.fresh hD
    have npd : c.pd ≠ some D := fun e => nD (List.mem_append_right _ (g.dr D e).1)
    refine ⟨D :: ps, gm, fun y a δ1 H1 ⟨ks, ea, hd, hb⟩ x1 r1 => ?_⟩
    subst ea
    have g1 := gm.ext x1
    refine ⟨_, hb, D :: ps, g1, fun z a2 δ2 H2 hz2 x2 r2 => ?_⟩
    revert r2
    refine onD_elim (P := fun a => RepA (bx X) c.pd (cut H2 (c.xs ++ D :: ps)) H2 z a → _) hz2 fun d hz3 r2 => ?_
    obtain ⟨b, e2, h3⟩ := rep_key (g1.repA x2 r1)
    have x12 := x1.trans x2
    have d2 : H2 D = some (DNo (bx X) D []) := x12.1 D _ npd upd_same
    have xf : Xt c δ2 H (upd H2 D (DNo (bx X) D [(.tup ks, b, z)])) := ⟨fun a u n q => by
      have ne : a ≠ D := fun z => by rw [z] at q; rw [hD] at q; cases q
      rw [upd_ne ne]
      exact x12.1 a u n (by rw [upd_ne ne]; exact q), fun p e => by
      rw [upd_ne (fun z => npd (by rw [← z]; exact e))]
      exact x12.2 p e⟩
    refine ⟨cut H2 (c.xs ++ D :: ps), b, .tup ks, e2, cut_le, h3, hd, d2, k D (.dn [(.tup ks, d)]) δ2 _ hz3 hD xf ⟨_, upd_same, ?_⟩⟩
    have sm : Same (cut H2 (c.xs ++ D :: ps)) (cut (upd H2 D (DNo (bx X) D [(.tup ks, b, z)])) (c.xs ++ D :: ps)) := cut_same (fun a u n q => by
      rw [upd_ne (fun z => n (by rw [z]; exact List.mem_append_right _ List.mem_cons_self))]
      exact q) fun a q => .inl q
    exact nk_mono sm (.cons ⟨rfl, h3, hd, show Rp _ _ z d from r2⟩ .nil)
end
end Dl
/-! part dl21 -/
set_option Elab.async false
set_option linter.all false
set_option maxRecDepth 100000
set_option maxHeartbeats 4000000
set_option autoImplicit false
/-! Dl21: [e for x in xs for y in f(x)], nothing drawn. -/
namespace Dl
open PySem PySem.Spec PyProof.Rows L2
section
variable {X : Cx} {c : Cc} {scope : Scope} {tg tg1 elt iter iter1 : Expr} {ρ : En} {δ : List Int} {vs vs1 : List Nat} {own : List (Str × Nat)} {pos : Pos}
def iB (X : Cx) (c : Cc) (scope : Scope) (tg e : Expr) : TI := fun σ H R => ∃ ρ δ Zi, (Blk X scope fun X' => EI X' c tg e ρ δ Zi) ∧ tI (bx X) c ρ δ Zi σ H R
theorem pi_blk {tg e : Expr} (s : Shared) (H : Hp) (C : Addr) (cl : List (Str × Addr)) (fp : List Addr) : PI (X.blk s H scope (compEnvC scope cl C X.env) fp) tg e (iB X c scope tg e) :=
  ⟨fun pins s1 σ H1 R I ⟨ρ, δ, Zi, h, q⟩ => (h s H C cl fp).run pins s1 σ H1 R I q⟩
@[reducible] def ownS : Option Arg → Bool | some (.ow _) => true | _ => false
def noOw (R : En) : Bool := R.all fun a => !ownS a
/-- F i: what the turn i of the outer walk gives -/
def Lc2Z (X : Cx) (c : Cc) (scope : Scope) (tg tg1 iter1 elt : Expr) (ρ : En) (vs vs1 : List Nat) (Z : Wd → List Int → Prop) : List IW → List Int → Prop := fun ys δ1 => ∃ F : Nat → List PyData, (((List.range ys.length).flatMap F).length < sizeLine) ∧
  (∀ (i : Nat) (y : IW), ys[i]? = some y → ∃ R, (Blk X scope fun X' => EG X' c tg y (wipeE ρ vs) δ1 vs fun ρ2 => ρ2 = R) ∧ noOw R = true ∧ ∃ ys1 : List IW, (Blk X scope fun X' => EI X' c tg1 iter1 R δ1 fun ys' δ' => ys' = ys1 ∧ δ' = δ1) ∧ (F i).length = ys1.length ∧
    ∀ (j : Nat) (y1 : IW), ys1[j]? = some y1 → ∃ R1, (Blk X scope fun X' => EG X' c tg1 y1 (wipeE R vs1) δ1 vs1 fun ρ2 => ρ2 = R1) ∧ ∃ d, (F i)[j]? = some d ∧ Blk X scope fun X' => EE X' c elt R1 δ1 fun a δ' => δ' = δ1 ∧ a = .v (.d d)) ∧
  Z (.d (.list ((List.range ys.length).flatMap F))) δ1
theorem range_flat_succ {β : Type} (F : Nat → List β) (i : Nat) : (List.range (i + 1)).flatMap F = (List.range i).flatMap F ++ F i := by
  rw [List.range_succ, List.flatMap_append]
  simp
theorem range_flat_le {β : Type} (F : Nat → List β) {i n : Nat} (h : i < n) : ((List.range i).flatMap F).length + (F i).length ≤ ((List.range n).flatMap F).length := by
  induction n with
  | zero => omega
  | succ n ih =>
    rw [range_flat_succ, List.length_append]
    rcases Nat.lt_succ_iff_lt_or_eq.mp h with h | h
    · have := ih h
      omega
    · subst h
      omega
theorem lc2_le {Z : Wd → List Int → Prop} (hv : ∀ i ∈ vs1, i ∈ vs) (σ : L2.St) (H : Hp) (Q : VK) (h : tN (bx X) c ρ δ Z σ H Q) :
    tLc2 (tIc (bx X) c ρ δ (Lc2Z X c scope tg tg1 iter1 elt ρ vs vs1 Z)) (gB X c scope tg) (tBs X c scope []) (iB X c scope tg1 iter1) (gB X c scope tg1) (tBs X c scope []) (eB X c scope elt) vs vs1 σ H Q := by
  obtain ⟨ps, g, k⟩ := h
  refine ⟨ps, g, fun J ys δ1 H1 ⟨F, hlen, it, ie⟩ x1 wk D hD => ?_⟩
  have g1 := g.ext x1
  have h0 : H D = none := by
    cases q : H D with
    | none => rfl
    | some o => exact absurd hD (x1.there (by rw [q]; exact fun z => nomatch z))
  have nD : D ∉ c.xs ++ ps := g1.fresh hD
  have npd : c.pd ≠ some D := fun e => nD (List.mem_append_right _ (g1.dr D e).1)
  have hown : ∀ (i : Nat) (w : Wd), (wipeE ρ vs)[i]? = some (some (.ow w)) → (wipe σ vs)[i]? ≠ some (some (.ref D)) := fun i w e z => by
    obtain ⟨v, h1, _, h3⟩ := (g1.wiped vs).sl i _ e
    rw [z] at h1
    cases h1
    exact nD (List.mem_append_right _ (h3 D rfl))
  obtain ⟨gm, sm0⟩ := (g1.wiped vs).more (o := .lst []) hD
  refine ⟨fun i m H2 => m = ys.length - i ∧ i ≤ ys.length ∧ ∃ av, Gd (bx X) c (D :: ps) (wipeE ρ vs) δ1 (wipe σ vs) H2 ∧ H2 D = some (.lst av) ∧ RpAll X.K (cut H2 (c.xs ++ D :: ps)) av ((List.range i).flatMap F) ∧
      (∀ a o, c.pd ≠ some a → H1 a = some o → H2 a = some o), ⟨_, rfl, Nat.zero_le _, [], gm, upd_same, .nil, fun a o _ e => by rw [upd_ne (ne_of_none e hD)]; exact e⟩, ?_⟩
  rintro i m H2 ⟨rfl, hi, av, g2, hl, rp, kp⟩
  obtain ⟨wg, ws⟩ := wk H2 kp
  by_cases hlt : i < ys.length
  · obtain ⟨gi, yi⟩ := wg i ys[i] (List.getElem?_eq_getElem hlt)
    refine .inr ⟨gi, fun H3 => ∃ av, Gd (bx X) c (D :: ps) (wipeE ρ vs) δ1 (wipe σ vs) H3 ∧ H3 D = some (.lst av) ∧ RpAll X.K (cut H3 (c.xs ++ D :: ps)) av ((List.range (i + 1)).flatMap F) ∧
      (∀ a o, c.pd ≠ some a → H1 a = some o → H3 a = some o), fun H3 q => ⟨_, by omega, rfl, hlt, q⟩, fun x H' hy => ?_⟩
    have sm : Same (cut H1 (c.xs ++ ps)) (cut H2 (c.xs ++ D :: ps)) := cut_same (fun a o n e => kp a o (g1.pdIn n) e) fun a ha => by
      rcases List.mem_append.mp ha with ha | ha
      · exact .inl (List.mem_append_left _ ha)
      · rcases List.mem_cons.mp ha with ha | ha
        · rw [ha]; exact .inr hD
        · exact .inl (List.mem_append_right _ ha)
    obtain ⟨xt, lr⟩ := yrep_l g2 sm (yi x H' hy)
    obtain ⟨R, hg, hno, ys1, hi1, hF, turn⟩ := it i ys[i] (List.getElem?_eq_getElem hlt)
    have g3 := g2.ext xt
    refine ⟨_, _, _, _, _, hg, D :: ps, g3, lr, fun ρ2 σ2 er g4 hl4 hj4 => ?_⟩
    subst er
    refine ⟨by rw [wipe_same hl4 hj4, wipe_wipe], _, _, fun b δ' => b = true ∧ δ' = δ1, fun s H C cl fp => ets_nil ⟨rfl, rfl⟩, D :: ps, g4, fun b δ2 H5 hb x5 => ?_⟩
    obtain ⟨hb, hd⟩ := hb
    subst hb hd
    have g5 := g4.ext x5
    refine ⟨_, _, _, hi1, D :: ps, g5, fun J1 ys' δ3 H6 hz6 x6 wk1 => ?_⟩
    obtain ⟨e1, e2⟩ := hz6
    subst e1 e2
    have g6 := g5.ext x6
    have x16 := (xt.trans x5).trans x6
    have go6 := g2.ext x16
    have own2 : ∀ (i : Nat) (w : Wd), (wipeE ρ2 vs1)[i]? = some (some (.ow w)) → (wipe σ2 vs1)[i]? ≠ some (some (.ref D)) := fun i w e z => by
      rw [wipeE_get] at e
      have e2 : ρ2[i]? = some (some (.ow w)) := by
        by_cases hm : i ∈ vs1
        · rw [if_pos hm] at e
          cases q : ρ2[i]? with
          | none => rw [q] at e; cases e
          | some _ => rw [q] at e; cases e
        · rw [if_neg hm] at e
          exact e
      have := List.all_eq_true.mp hno _ (List.mem_of_getElem? e2)
      cases this
    refine ⟨fun j n H7 => n = ys'.length - j ∧ j ≤ ys'.length ∧ ∃ av, Gd (bx X) c (D :: ps) (wipeE ρ vs) δ3 (wipe σ vs) H7 ∧ Gd (bx X) c (D :: ps) (wipeE ρ2 vs1) δ3 (wipe σ2 vs1) H7 ∧ H7 D = some (.lst av) ∧ RpAll X.K (cut H7 (c.xs ++ D :: ps)) av ((List.range i).flatMap F ++ (F i).take j) ∧
      (∀ a o, c.pd ≠ some a → H1 a = some o → H7 a = some o) ∧ (∀ a o, a ∉ c.xs ++ D :: ps → H6 a = some o → H7 a = some o), ⟨_, rfl, Nat.zero_le _, av, go6, g6.wiped vs1, x16.1 D _ npd hl, by rw [List.take_zero, List.append_nil]; exact dpAll_mono (g2.same x16) rp, fun a o n e => x16.1 a o n (kp a o n e), fun a o _ e => e⟩, ?_⟩
    rintro j n H7 ⟨rfl, hj, av7, gO, gI, hl7, rp7, kp7, kq7⟩
    obtain ⟨wg1, ws1⟩ := wk1 H7 kq7
    by_cases hlt1 : j < ys'.length
    · obtain ⟨gi1, yi1⟩ := wg1 j ys'[j] (List.getElem?_eq_getElem hlt1)
      refine .inr ⟨gi1, fun H8 => ∃ av, Gd (bx X) c (D :: ps) (wipeE ρ vs) δ3 (wipe σ vs) H8 ∧ Gd (bx X) c (D :: ps) (wipeE ρ2 vs1) δ3 (wipe σ2 vs1) H8 ∧ H8 D = some (.lst av) ∧ RpAll X.K (cut H8 (c.xs ++ D :: ps)) av ((List.range i).flatMap F ++ (F i).take (j + 1)) ∧
        (∀ a o, c.pd ≠ some a → H1 a = some o → H8 a = some o) ∧ (∀ a o, a ∉ c.xs ++ D :: ps → H6 a = some o → H8 a = some o), fun H8 q => ⟨_, by omega, rfl, hlt1, q⟩, fun x1 H8 hy1 => ?_⟩
      have sm1 : Same (cut H6 (c.xs ++ D :: ps)) (cut H7 (c.xs ++ D :: ps)) := cut_same (fun a o n e => kq7 a o n e) fun a ha => .inl ha
      obtain ⟨xt1, lr1⟩ := yrep_l gI sm1 (yi1 x1 H8 hy1)
      obtain ⟨R1, hg1, d, hFd, he⟩ := turn j ys'[j] (List.getElem?_eq_getElem hlt1)
      have g8 := gI.ext xt1
      refine ⟨_, _, _, _, _, hg1, D :: ps, g8, lr1, fun ρ9 σ9 er g9 hl9 hj9 => ?_⟩
      subst er
      refine ⟨by rw [wipe_same hl9 hj9, wipe_wipe], _, _, fun b δ' => b = true ∧ δ' = δ3, fun s H C cl fp => ets_nil ⟨rfl, rfl⟩, D :: ps, g9, fun b δ4 H10 hb x10 => ?_⟩
      obtain ⟨hb, hd⟩ := hb
      subst hb hd
      refine ⟨_, _, _, he, D :: ps, g9.ext x10, fun v a δ5 H11 hz11 x11 r => ?_⟩
      obtain ⟨e1, e2⟩ := hz11
      subst e1 e2
      have xx := (xt1.trans x10).trans x11
      obtain ⟨u1, ec⟩ := (gO.ext xx).upd0 (o' := .lst (av7 ++ [v])) List.mem_cons_self (xx.1 D _ npd hl7) npd hown
      obtain ⟨u2, _⟩ := (gI.ext xx).upd0 (o' := .lst (av7 ++ [v])) List.mem_cons_self (xx.1 D _ npd hl7) npd own2
      have hFl := range_flat_le F hlt
      have hjl : j < (F i).length := (List.getElem?_eq_some_iff.mp hFd).1
      refine ⟨av7, xx.1 D _ npd hl7, ?_, av7 ++ [v], u1, u2, upd_same, ?_, fun a o n e => ?_, fun a o n e => ?_⟩
      · rw [dpAll_len rp7, List.length_append, List.length_take]
        omega
      · rw [ec, List.take_add_one, hFd, ← List.append_assoc]
        exact dpAll_app (dpAll_mono (gO.same xx) rp7) (.cons r .nil)
      · rw [upd_ne (ne_of_none e hD)]
        exact xx.1 a o n (kp7 a o n e)
      · rw [upd_ne (fun z => n (by rw [z]; exact List.mem_append_right _ List.mem_cons_self))]
        exact xx.1 a o (gO.pdIn n) (kq7 a o n e)
    · have e : j = ys'.length := by omega
      subst e
      refine .inl ⟨ws1 _ (Nat.le_refl _), av7, gO, hl7, ?_, kp7⟩
      rw [range_flat_succ]
      rw [List.take_of_length_le (Nat.le_of_eq hF)] at rp7
      exact rp7
  · have e : i = ys.length := by omega
    subst e
    exact .inl ⟨ws _ (Nat.le_refl _), k D (.d (.list _)) δ1 H2 ie h0 (x1.trans ⟨kp, fun p e => (g2.dr p e).2⟩) ⟨av, hl, rp⟩⟩
theorem en_lc2 {Z : Wd → List Int → Prop} (hi : EIc X c tg iter ρ δ (Lc2Z X c scope tg tg1 iter1 elt ρ vs vs1 Z)) (hN : X.N.Nodup) (ok : BlkOk X.N X.env.scope scope own) (hv : ∀ i ∈ vs1, i ∈ vs) (hvs : own.map (·.2) = vs := by rfl) (hc : X.calm = true := by rfl)
    (hs : ∀ x, foldedSetIterable iter X.env x = pure x := by intro _; rfl) (hs1 : ∀ env x, foldedSetIterable iter1 env x = pure x := by intro _ _; rfl) : EN X c (.ListComp elt [⟨tg, iter, [], 0⟩, ⟨tg1, iter1, [], 0⟩] scope pos) ρ δ Z := by
  subst hvs
  exact PE.le (pe_lc2 hc hN hi ok hv pg_blk pts_blk pi_blk pg_blk pts_blk pe_blk hs hs1) fun σ H Q h => lc2_le hv σ H Q h
end
end Dl
/-! part dl22 -/
set_option Elab.async false
set_option linter.all false
set_option maxRecDepth 100000
set_option maxHeartbeats 4000000
set_option autoImplicit false
/-! Dl22: enumerate over a tuple. -/
namespace Dl
open PySem PySem.Spec PyProof.Rows L2
abbrev itTup (t : Addr) : Obj := { cls := .type "tuple_iterator", data := .fields #[.ref t, .int 0 0] }
abbrev enO (i : Addr) : Obj := { cls := .type "enumerate", data := .fields #[.none, .bool false, .ref i, rawInt 0, .none, .none] }
theorem meets_enT (t : Addr) (items : Array Value) : Meets (Builtin.«enumerate.__new__» ⟨[.type "enumerate", .ref t], []⟩) (fun _ R s => s.heap.IsTuple t items ∧ R (.ok (.ret (.ref (s.heap.push (itTup t)).objs.size))) { s with heap := (s.heap.push (itTup t)).push (enO s.heap.objs.size) }) :=
  .of_wp fun prog w A R s hh => by
    obtain ⟨hp, g, d, tk, os⟩ := s; obtain ⟨h1, h⟩ := hh
    have hsub := sub_enumerate
    have q1 : ∀ {A' : Around} {E' : Value → Shared → Prop} {Q : Value → Shared → Prop}, Q (.ref hp.objs.size) ⟨hp.push (itTup t), g, d, tk, os⟩ → wpAny (model prog w) A' (pyIter (.ref t)) Q E' ⟨hp, g, d, tk, os⟩ := fun q => (begins_tuple t items).iter prog w _ _ ⟨hp, g, d, tk, os⟩ _ h1 q
    wp_walk using q1
    refine wpAny_stack_any fun st => wpAny_pure ?_
    split
    · rename_i c _ _ _ _ _
      cases (c == Value.type "enumerate") <;> (wp_walk using q1; exact ⟨_, rfl, h⟩)
    · wp_walk using q1
      exact ⟨_, rfl, h⟩
section
variable {prog : Program} {w : World} {A : Around} {E : Value → Shared → Prop} {s : Shared}
theorem call_enT {l : Addr} {items : Array Value} {Q : Value → Shared → Prop} (hL : s.heap.IsTuple l items)
    (h : ∀ h', IsEnum h' (s.heap.objs.size + 1) s.heap.objs.size 0 .none → h'.IsTupleIter s.heap.objs.size l 0 → (∀ b o, s.heap.get? b = some o → h'.get? b = some o) → Q (.ref (s.heap.objs.size + 1)) { s with heap := h' }) :
    wpAny (model prog w) A (call (.type "enumerate") [.ref l]) Q E s := by
  refine callType_new F.called_enumerate (by decide) (F.typeCall_enumerate_1 _) (F.newCall_enumerate_1 _) (fun obj => F.args_object_init_2 obj _) F.entry_enumerate_new (meets_enT l items) ⟨hL, ?_⟩
  have hz : (s.heap.push (itTup l)).objs.size = s.heap.objs.size + 1 := Heap.size_push ..
  show _ ∧ _
  rw [hz]
  have he : ((s.heap.push (itTup l)).push (enO s.heap.objs.size)).get? (s.heap.objs.size + 1) = some (enO s.heap.objs.size) := by
    rw [← hz]
    exact Heap.get?_push_size _ rfl
  have hi : ((s.heap.push (itTup l)).push (enO s.heap.objs.size)).get? s.heap.objs.size = some (itTup l) := Heap.get?_push_of_some _ (Heap.get?_push_size _ rfl)
  exact ⟨⟨_, he, rfl⟩, h _ he ⟨_, hi, rfl, rfl⟩ fun b o x => Heap.get?_push_of_some _ (Heap.get?_push_of_some _ x)⟩
theorem endT (hh : A.handled = none) (it t : Addr) (items : Array Value) (n : Nat) (hn : items[n]? = none) : Draws prog w A it [it, t] n (fun _ _ => False) (fun j h => j = n ∧ h.IsTupleIter it t n ∧ h.IsTuple t items) where
  live := fun _ _ st => let ⟨o, ho, _⟩ := st.2.1; ⟨o, ho⟩
  frame := fun _ _ _ st hk => ⟨st.1, st.2.1.at fun o e => hk it (by simp) o e, st.2.2.at fun o e => hk t (by simp) o e⟩
  item := fun i s Q E hi st _ => absurd st.1 (Nat.ne_of_lt hi)
  done := fun s Q E st hE => wpAny_nextOf_tuple_end hh st.2.1 st.2.2 hn hE
end
/-- the items of the frozen tuple at a, with their numbers, in new pairs -/
def ItT (a : Addr) (o : Obj) (xs : List V) : It :=
  ⟨fun i H => H a = some (.frz o (.tup xs)) ∧ i < xs.length, fun i H v H' => ∃ T x, v = .ref T ∧ H T = none ∧ H' = upd H T (.tup [.int (i : Nat), x]) ∧ xs[i]? = some x, fun i H => H a = some (.frz o (.tup xs)) ∧ xs.length ≤ i⟩
theorem tup_frz {X : Cx} {pins : List (Addr × Obj)} {s : Shared} {σ : L2.St} {H : Hp} {a : Addr} {o : Obj} {xs : List V} (I : Inv X pins σ H s) (h : H a = some (.frz o (.tup xs))) : ∃ its : List Value, Vals xs its ∧ s.heap.IsTuple a its.toArray := by
  have q := (I.hok a _ h).2
  obtain ⟨its, r, ht⟩ := q.2
  exact ⟨its, r, ht⟩
theorem turn_enT {P : Program} {w : World} {K : PySem.W.Frag} {elts : List Expr} {kk : Nat} {tpos : Pos} (a e it : Addr) (o : Obj) (xs : List V) :
    Turn P w K (.Tuple elts kk tpos) (ItT a o xs) [e, it] e (fun i h => (∃ old, IsEnum h e it ((i : Nat) : Int) old) ∧ h.IsTupleIter it a i ∧ e ≠ it ∧ e ≠ a ∧ a ≠ it) where
  mem := by simp
  obj := fun i h st b hb => by
    obtain ⟨⟨old, he⟩, ⟨ob, ho, hc, hd⟩, _⟩ := st
    rcases (show b = e ∨ b = it by simpa using hb) with z | z
    · subst z
      exact ⟨_, he, fun v q => nomatch q⟩
    · subst z
      exact ⟨ob, ho, fun v q => by rw [hd] at q; cases q⟩
  keep := fun i h h' st k => let ⟨⟨old, he⟩, hi, hne⟩ := st; ⟨⟨old, k e (by simp) _ he⟩, hi.at fun ob q => k it (by simp) ob q, hne⟩
  item := by
    intro X hP hw hK hc i pins s σ H E I hf st hg
    subst hP hw hK
    obtain ⟨⟨old, he⟩, hit, hne, hea, hai⟩ := st
    obtain ⟨hq, hlt⟩ := hg
    obtain ⟨its, rv, ht⟩ := tup_frz I hq
    have hx : xs[i]? = some xs[i] := List.getElem?_eq_getElem hlt
    generalize xs[i] = x at hx
    obtain ⟨u, hu, ru⟩ := rv.get hx
    have hel : e < s.heap.objs.size := Heap.lt_size he
    have hil : it < s.heap.objs.size := by obtain ⟨_, q, _⟩ := hit; exact Heap.lt_size q
    have hin : i < its.toArray.size := by rw [List.size_toArray, ← rv.length]; exact hlt
    refine wpAny_pyNext_enum_itemD (Draws.tuple (A := X.A.in1) (I.ok.hd hc) it a hai its.toArray) he ⟨hit, ht⟩ hin hne (by simp [hne, hea]) fun u' h' tk hu' ho hst hT hsz hk => ?_
    obtain ⟨hit', _⟩ := hst
    have eu : u' = u := by
      have e2 : its.toArray[i]? = some u := by rw [List.getElem?_toArray]; exact hu
      rw [e2] at hu'
      exact (Option.some.inj hu').symm
    subst eu
    refine ⟨_, rfl, wpAny_letOwnedTupleGo_enum (s := { s with heap := h', toks := tk + 1 }) ho fun h'' he' sb => ?_⟩
    have hT2 : h''.get? s.heap.objs.size = some { cls := .type "tuple", data := .seq #[.int i tk, u'] } := (sb.2 _ (Nat.ne_of_gt hel)).trans hT
    have new : ObjOk X.prog X.w (upd H s.heap.objs.size (.tup [.int (i : Nat), x])) h'' s.heap.objs.size (.tup [.int (i : Nat), x]) := ⟨by show 2 ≤ sizeLine; decide, [.int i tk, u'], .cons ⟨_, rfl⟩ (.cons ru .nil), ⟨_, hT2, rfl, _, rfl⟩⟩
    have I1 : Inv X pins σ (upd H s.heap.objs.size (.tup [.int (i : Nat), x])) { s with heap := h'', toks := tk + 1 } :=
      I.turnedNew (ch := [e, it]) (fun b ob hb q => (sb.2 b (fun z => hb (by simp [z]))).trans (hk b ob (fun z => hb (by simp [z])) (fun z => hb (by simp [z])) q)) hf (Nat.le_refl _) new
    refine ⟨.ref s.heap.objs.size, _, I1, rfl, ⟨_, x, rfl, I.hok.fresh (Nat.le_refl _), rfl, hx⟩, ⟨⟨u', ?_⟩, hit'.at fun ob q => (sb.2 it (Ne.symm hne)).trans q, hne, hea, hai⟩, fun b hb => ?_⟩
    · rw [show ((i + 1 : Nat) : Int) = (i : Int) + 1 by omega]
      exact he'
    · have hb' : b < s.heap.objs.size := by
        rcases (show b = e ∨ b = it by simpa using hb) with z | z
        · rw [z]; exact hel
        · rw [z]; exact hil
      rw [upd_ne (Nat.ne_of_lt hb')]
      exact (hf b hb).1
  done := by
    intro X hP hw hK hc i pins s σ H E I hf st hg
    subst hP hw hK
    obtain ⟨⟨old, he⟩, hit, hne, hea, hai⟩ := st
    obtain ⟨hq, hx⟩ := hg
    obtain ⟨its, rv, ht⟩ := tup_frz I hq
    obtain ⟨f0, f1, f2, f3, f4, f5⟩ := hf it (by simp)
    have hn : its.toArray[i]? = none := by
      rw [List.getElem?_toArray]
      exact List.getElem?_eq_none (by rw [← rv.length]; exact hx)
    exact wpAny_pyNext_enum_endD (endT (A := X.A.in1) (I.ok.hd hc) it a its.toArray i hn) he ⟨rfl, hit, ht⟩ fun h' eb => ⟨rfl, I.turned (t' := s.toks) (fun b ob hb q => eb b ob hb q) f0 f1 f3 f4 f5⟩
  self := fun A i s Q E st h => let ⟨⟨_, he⟩, _⟩ := st; wpAny_pyIter_enum he h
def iEnT (ta : TA) : TI := fun σ H R => ta σ H fun vs H1 => ∃ a o xs, vs = [.ref a] ∧ H1 a = some (.frz o (.tup xs)) ∧ R (ItT a o xs) H1
theorem pi_enT {X : Cx} {e : Expr} {ta : TA} {p pos tpos : Pos} {elts : List Expr} {kk : Nat} (hg : Gl X "enumerate") (hm : X.mg "enumerate" = none) (ha : PA X [e] ta) (hs : starEach [e] X.env = [(false, eval e X.env)] := by rfl) :
    PI X (.Tuple elts kk tpos) (.Call (.Name "enumerate" p) [e] [] pos) (iEnT ta) := by
  refine ⟨fun pins s σ H R I h => Call_ (ld_blt I hg hm boot_enumerate (PyProof.Rows.callWith_type1 (thn (ha.run pos pins s σ H _ I h) fun us s1 ⟨vs, H1, I1, r1, a, o, xs, ex, hq, q⟩ => ?_) hs rfl))⟩
  subst ex
  cases r1 with
  | cons r rr =>
    cases rr
    cases r
    obtain ⟨its, rv, ht⟩ := tup_frz I1 hq
    have hal : a < s1.heap.objs.size := by obtain ⟨_, z, _⟩ := ht; exact Heap.lt_size z
    refine call_enT ht fun h' he hit hk => wpAny_pyIter_enum he ?_
    refine ⟨s1.heap.objs.size + 1, [s1.heap.objs.size + 1, s1.heap.objs.size], _, _, H1, rfl, I1.kept (t' := s1.toks) hk, turn_enT a (s1.heap.objs.size + 1) s1.heap.objs.size o xs, ⟨⟨.none, he⟩, hit, Nat.succ_ne_self _, Nat.ne_of_gt (Nat.lt_succ_of_lt hal), Nat.ne_of_lt hal⟩, fun b hb => ?_, q⟩
    have hle : s1.heap.objs.size ≤ b := by
      rcases (show b = s1.heap.objs.size + 1 ∨ b = s1.heap.objs.size by simpa using hb) with z | z
      · exact z ▸ Nat.le_add_right _ _
      · exact z ▸ Nat.le_refl _
    exact I1.fpOk hle (I1.hok.fresh hle)
section
variable {X : Cx} {c : Cc} {ρ : En} {δ : List Int} {e : Expr} {p pos tpos : Pos} {elts : List Expr} {kk : Nat}
theorem ei_enT {Z : List IW → List Int → Prop} (hm : X.mg "enumerate" = none) (h : EE X c e ρ δ fun a δ1 => onT a fun ds => Z ((List.range ds.length).map fun i => .pair [.d (.int (i : Nat)), .d (ds.getD i .none)]) δ1) (hg : Gl X "enumerate" := by rfl)
    (hs : starEach [e] X.env = (false, eval e X.env) :: starEach [] X.env := by rfl) (hs2 : starEach [e] X.env = [(false, eval e X.env)] := by rfl) : EI X c (.Tuple elts kk tpos) (.Call (.Name "enumerate" p) [e] [] pos) ρ δ Z :=
  PI.le (pi_enT hg hm (ea_one (Z := fun as δ1 => ∃ a, as = [a] ∧ onT a fun ds => Z ((List.range ds.length).map fun i => .pair [.d (.int (i : Nat)), .d (ds.getD i .none)]) δ1) (ee_imp h fun a δ1 hz => ⟨a, rfl, hz⟩) hs) hs2) fun σ H R ⟨ps, g, k⟩ =>
    ⟨ps, g, fun vs as δ1 H1 _ ⟨a, ea, hq⟩ x1 r1 => by
      subst ea
      obtain ⟨v, rfl, ra⟩ := paired_one r1
      revert ra
      refine onT_elim (P := fun a1 => RepA (bx X) c.pd (cut H1 (c.xs ++ ps)) H1 v a1 → _) hq fun ds hz ra => ?_
      obtain ⟨q, o, us, ev, h1, _, h2⟩ := rep_tup ra
      obtain ⟨n1, q1⟩ := cut_some h1
      refine ⟨q, o, us, by rw [ev], q1, k _ _ δ1 H1 hz x1 fun H hH => ⟨fun i y hy => ?_, fun i hi => ⟨hH _ _ n1 q1, by rw [List.length_map, List.length_range] at hi; rw [dpAll_len h2]; exact hi⟩⟩⟩
      rw [List.getElem?_map] at hy
      by_cases hl : i < ds.length
      · rw [List.getElem?_range hl] at hy
        cases hy
        have hd : ds[i]? = some (ds.getD i .none) := by rw [List.getD_eq_getElem?_getD, List.getElem?_eq_getElem hl]; rfl
        obtain ⟨z, hz1, hz2⟩ := dpAll_get h2 hd
        refine ⟨⟨hH _ _ n1 q1, by rw [dpAll_len h2]; exact hl⟩, fun x H' ⟨T, w, ex, hT, eH, hw⟩ => ?_⟩
        rw [hz1] at hw
        cases hw
        exact ⟨T, _, ex, hT, eH, .cons (show Rp _ _ _ _ from .int _) (.cons hz2 .nil)⟩
      · rw [List.getElem?_eq_none (by rw [List.length_range]; omega)] at hy
        cases hy⟩
end
end Dl
/-! part dl23 -/
set_option Elab.async false
set_option linter.all false
set_option maxRecDepth 100000
set_option maxHeartbeats 4000000
set_option autoImplicit false
/-! Dl23: d.setdefault(k, z), d ours, its keys tuples; {}. -/
namespace Dl
open PySem PySem.Spec PyProof.Rows L2
/-- the keys alone -/
def KeysN (K : PySem.W.Frag) (G : Hp) (xs : List NX) : Prop := ∀ x ∈ xs, Rp K G (.ref x.2.1) x.1.data ∧ x.1.depth ≤ 8
def lookX (xs : List NX) (k : NestedKey) : Option V := (xs.find? fun x => decide (x.1 = k)).map (·.2.2)
theorem keysN_of {K : PySem.W.Frag} {G : Hp} : ∀ {xs : List NX} {kvs : List (NestedKey × PyData)}, NkOk K G xs kvs → KeysN K G xs
  | _, _, .nil => fun x hx => by cases hx
  | _, _, .cons h t => fun x hx => (List.mem_cons.mp hx).elim (fun e => by subst e; rw [h.1]; exact ⟨h.2.1, h.2.2.1⟩) fun q => keysN_of t x q
theorem look_nk {K : PySem.W.Frag} {G : Hp} {xs : List NX} {kvs : List (NestedKey × PyData)} (nk : NkOk K G xs kvs) (k : NestedKey) : (lookX xs k = none ∧ lookN kvs k = none) ∨ ∃ v d, lookX xs k = some v ∧ lookN kvs k = some d ∧ Rp K G v d := by
  unfold lookX lookN
  rcases find_paired (ka := fun x : NX => x.1) (kb := fun p : NestedKey × PyData => p.1) (fun _ _ q => q.1) k nk with ⟨e3, e4⟩ | ⟨x', q, e3, e4, r'⟩
  · exact .inl ⟨by rw [e3]; rfl, by rw [e4]; rfl⟩
  · exact .inr ⟨x'.2.2, q.2, by rw [e3]; rfl, by rw [e4]; rfl, r'.2.2.2⟩
section
variable {X : Cx} {pins : List (Addr × Obj)} {σ : L2.St} {H G : Hp} {s : Shared} {p : Addr} {xs : List NX}
theorem dn_ofK (I : Inv X pins σ H s) (sub : Same G H) (hr : DNraw X.prog X.w p xs s.heap) (nk : KeysN X.K G xs) : xs.length ≤ sizeLine ∧ (p == sysModules) = false ∧ ∃ ys : List NY, Paired nxy xs ys ∧ s.heap.DictOfH (nestedKind X.prog X.w) p ys := by
  obtain ⟨hz, hs, hn, ys, pr, o, es, ep, e1, e2, e3, e4⟩ := hr
  refine ⟨hz, hs, ys, pr, o, es, ep, e1, e2, e3, e4, fun y hy => ?_, by rw [← nx_nodup pr]; exact hn⟩
  obtain ⟨i, hi⟩ := List.getElem?_of_mem hy
  obtain ⟨x, hx, r1, r2, _⟩ := paired_at pr hi
  obtain ⟨q2, q3⟩ := nk x (List.mem_of_getElem? hx)
  refine ⟨?_, ?_⟩
  · rw [← r1, ← r2]
    exact rp_nested I x.1 _ _ (dp_mono sub q2) rfl
  · rw [← r1]; exact q3
theorem lookX_at {ys : List NY} (pr : Paired nxy xs ys) (k : NestedKey) : (atKey ys k = none ∧ lookX xs k = none) ∨ ∃ b v u, atKey ys k = some (b, u) ∧ lookX xs k = some v ∧ RelV v u := by
  unfold atKey lookX
  rcases find_paired (ka := fun x : NX => x.1) (kb := fun y : NY => y.1) (fun _ _ q => q.1) k pr with ⟨e1, e2⟩ | ⟨x, y, e1, e2, r⟩
  · exact .inl ⟨by rw [e2]; rfl, by rw [e1]; rfl⟩
  · exact .inr ⟨y.2.1, x.2.2, y.2.2, by rw [e2]; rfl, by rw [e1]; rfl, r.2.2⟩
end
section
variable {X : Cx} {o e f : Expr} {td ty tx : TE} {apos cpos pos : Pos} {kk : Nat}
def tSetdN (X : Cx) (td ty tx : TE) : TE := fun σ H Q => td σ H fun x H1 => ∃ p, x = .ref p ∧ (∃ xs0, H1 p = some (DNo (bx X) p xs0)) ∧ ty σ H1 fun y H2 => tx σ H2 fun z H3 => ∃ (G : Hp) (b : Addr) (xs : List NX) (k : NestedKey), y = .ref b ∧ H3 p = some (DNo (bx X) p xs) ∧ Same G H3 ∧ KeysN X.K G xs ∧
  Rp X.K G (.ref b) k.data ∧ k.depth ≤ 8 ∧ xs.length < sizeLine ∧ (∀ v, lookX xs k = some v → Q v H3) ∧ (lookX xs k = none → Q z (upd H3 p (DNo (bx X) p (putX xs k b z))))
theorem pe_setdN (hr : Room kk X.A) (ho : PE X o td) (he : PE X e ty) (hf : PE X f tx) (m : M2 X o "setdefault" apos e f cpos) : PE X (.Call (.Attribute o "setdefault" apos) [e, f] [] cpos) (tSetdN X td ty tx) := by
  refine ⟨fun pins s σ H Q I (h : td σ H _) => ?_⟩
  refine wpAny_Call_method m.base m.few m.line PySem.F.plainAttrs_dict PySem.F.slot_dict_setdefault PySem.F.type_dict_setdefault (thn (ho.run pins s σ H _ I h) fun u s1 ⟨x, H1, I1, rx, p, ex, ⟨xs0, h0⟩, q1⟩ => ?_)
  subst ex
  obtain rfl : u = Value.ref p := rx
  obtain ⟨_, hsm, _, _, _, ob, es, ep, g1, g2, _⟩ := (I1.hok p _ h0).1
  refine ⟨⟨ob, g1, g2.1⟩, fun b eb => by cases eb; exact ⟨ob, g1, g2.2.1⟩, ?_⟩
  rw [m.trees]
  refine Calls.callWith_builtin rfl (Calls.evalArgs_plain (Calls.spliced_cons (thn (he.run pins s1 σ H1 _ I1 q1) fun iv s2 ⟨y, H2, I2, ry, q2⟩ => Calls.spliced_cons (thn (hf.run pins s2 σ H2 _ I2 q2) fun fv s3 ⟨z, H3, I3, rz, G, b, xs, k, ey, hp, sub, nk, hk, hd, hz, q3, q4⟩ => Calls.spliced_nil ?_))))
  subst ey
  cases ry
  obtain ⟨_, _, ys, pr, hm⟩ := dn_ofK I3 sub (raw_at I3 (.inl hp)) nk
  have hlen : ys.length = xs.length := (paired_len pr).symm
  refine call_setdefault_heap (roomN hr) (dn_key I3 sub hk hd) hsm hm (fun pv hv => ?_) (fun hv h' hm' sb => ?_) (by rw [hlen]; exact Nat.le_of_lt hz)
  · rcases lookX_at pr k with ⟨e1, _⟩ | ⟨b', v, w, e1, e2, r⟩
    · rw [e1] at hv; cases hv
    · rw [e1] at hv
      cases hv
      exact ⟨v, H3, I3.tok _, r, q3 v e2⟩
  · rcases lookX_at pr k with ⟨_, e2⟩ | ⟨b', v, w, e1, _, _⟩
    · exact ⟨z, _, dn_write I3 hp hz hsm pr rz hm' sb, rz, q4 e2⟩
    · rw [e1] at hv; cases hv
def tDn0 (X : Cx) : TE := fun _ H Q => ∀ p, H p = none → Q (.ref p) (upd H p (DNo (bx X) p []))
theorem pe_dn0 : PE X (.Dict [] [] pos) (tDn0 X) := ⟨fun pins s σ H Q I h =>
  wpAny_Dict_empty ⟨.ref s.heap.objs.size, _, I.laid (a := s.heap.objs.size) (o := DNo (bx X) s.heap.objs.size []) (t' := s.toks) (fun _ _ q => Heap.get?_push_of_some _ q) (Nat.le_refl _) (dn_empty s.heap I.big), rfl, h _ (I.hok.fresh (Nat.le_refl _))⟩⟩
variable {c : Cc} {ρ : En} {δ : List Int} {x : Str}
theorem en_dn0 {Z : Wd → List Int → Prop} (hz : Z (.dn []) δ) : EN X c (.Dict [] [] pos) ρ δ Z :=
  PE.le pe_dn0 fun σ H Q ⟨ps, g, k⟩ => fun p hp => k p (.dn []) δ _ hz hp (Xt.upd g hp) ⟨[], upd_same, .nil⟩
/-- d.setdefault(k, z), d ours -/
theorem em_setdN (i : Nat) {kvs : List (NestedKey × PyData)} {npos : Pos} {Z : Arg → En → List Int → Prop} (hrm : Room kk X.A) (hr : ρ[i]? = some (some (.ow (.dn kvs))))
    (h : EE X c e ρ δ fun a1 δ1 => ∃ ks : List NestedKey, a1 = .v (.d (.tuple (NestedKey.datas ks))) ∧ (NestedKey.tup ks).depth ≤ 8 ∧ EE X c f ρ δ1 fun a2 δ2 => onD a2 fun d => kvs.length < sizeLine ∧ (∀ d', lookN kvs (.tup ks) = some d' → Z (.v (.d d')) ρ δ2) ∧ (lookN kvs (.tup ks) = none → Z (.v (.d d)) (ρ.set i (some (.ow (.dn (putN kvs (.tup ks) d))))) δ2))
    (hN : X.N[i]? = some x := by rfl) (hv : Vis X.env.scope x := by first | exact Or.inl rfl | exact Or.inr (Or.inl rfl) | exact Or.inr (Or.inr rfl)) (hd : (x == ("__debug__" : Str)) = false := by decide) (hcd : (x == ("__classdict__" : Str)) = false := by decide)
    (m : M2 X (.Name x npos) "setdefault" apos e f cpos := by exact ⟨rfl, rfl, rfl, rfl⟩) : EM X c (.Call (.Attribute (.Name x npos) "setdefault" apos) [e, f] [] cpos) ρ δ Z :=
  PE.le (pe_setdN hrm (pe_var hN hv hd hcd) h pe_any m) fun σ H Q ⟨ps, g, k⟩ => by
    obtain ⟨p0, hp0, hin, npd, xs0, hl0, _⟩ := g.own hr
    refine ⟨.ref p0, hp0, p0, rfl, ⟨xs0, hl0⟩, ps, g, fun v a1 δ1 H1 ⟨ks, ea, hdp, hb⟩ x1 r1 => ?_⟩
    subst ea
    have g1 := g.ext x1
    refine ⟨_, hb, ps, g1, fun u a2 δ2 H2 hz2 x2 r2 => ?_⟩
    revert r2
    refine onD_elim (P := fun a2 => RepA (bx X) c.pd (cut H2 (c.xs ++ ps)) H2 u a2 → _) hz2 fun d ⟨hlt, hz3, hz4⟩ r2 => ?_
    have g2 := g1.ext x2
    obtain ⟨p1, hp1, _, _, xs, hl, hds⟩ := g2.own hr
    rw [hp0] at hp1
    cases hp1
    have st := (g.step x1).trans (g1.step x2)
    obtain ⟨b, e2, h3⟩ := rep_key (g1.repA x2 r1)
    refine ⟨cut H2 (c.xs ++ ps), b, xs, .tup ks, e2, hl, cut_le, keysN_of hds, h3, hdp, by rw [paired_len hds]; exact hlt, fun v' hv' => ?_, fun hv' => ?_⟩
    · rcases look_nk hds (.tup ks) with ⟨q1, _⟩ | ⟨v2, d2, q1, q2, q3⟩
      · rw [q1] at hv'; cases hv'
      · rw [q1] at hv'
        cases hv'
        exact k v' (.v (.d d2)) ρ δ2 H2 (hz3 d2 q2) g2 st q3
    · rcases look_nk hds (.tup ks) with ⟨_, q2⟩ | ⟨v2, d2, q1, _, _⟩
      · have gc := g2.chg (o := DNo (bx X) p0 (putX xs (.tup ks) b u)) (w' := .dn (putN kvs (.tup ks) d)) hr hp0 ⟨_, upd_same, putX_nk hds h3 hdp r2⟩
        refine k u (.v (.d d)) _ δ2 _ (hz4 q2) gc (step_upd st hin) ?_
        have sm : Same (cut H2 (c.xs ++ ps)) (cut (upd H2 p0 (DNo (bx X) p0 (putX xs (.tup ks) b u))) (c.xs ++ ps)) := cut_same (fun a o n q => by
          have ne : a ≠ p0 := fun z => n (by rw [z]; exact List.mem_append_right _ hin)
          rw [upd_ne ne]
          exact q) fun a q => .inl q
        exact rep_mono sm (show RepW (bx X) (cut H2 (c.xs ++ ps)) u (.d d) from r2)
      · rw [q1] at hv'; cases hv'
end
end Dl
/-! part dl24 -/
set_option Elab.async false
set_option linter.all false
set_option maxRecDepth 100000
set_option maxHeartbeats 4000000
set_option autoImplicit false
/-! Dl24: for x in xs: d.setdefault(k(x), []).append(v(x)). -/
namespace Dl
open PySem PySem.Spec PyProof.Rows L2
abbrev Gs := List (NestedKey × List PyData)
def putG (gs : Gs) (k : NestedKey) (d : PyData) : Gs := storeG (·.1) k (fun g => (g.1, g.2 ++ [d])) (k, [d]) gs
def groupsOf (L : List (List NestedKey × PyData)) : Gs := L.foldl (fun gs kd => putG gs (.tup kd.1) kd.2) []
theorem groups_len : ∀ (L : List (List NestedKey × PyData)) (gs : Gs), (L.foldl (fun gs kd => putG gs (.tup kd.1) kd.2) gs).length ≤ gs.length + L.length
  | [], gs => Nat.le_refl _
  | a :: L, gs => by
    rw [List.foldl_cons, List.length_cons]
    have h1 := groups_len L (putG gs (.tup a.1) a.2)
    have h2 : (putG gs (.tup a.1) a.2).length ≤ gs.length + 1 := storeG_length ..
    omega
theorem putG_mem {gs : Gs} {k : NestedKey} {d : PyData} {n : Nat} (h : ∀ g ∈ gs, g.2.length ≤ n) : ∀ g ∈ putG gs k d, g.2.length ≤ n + 1 := fun g hg => by
  unfold putG storeG at hg
  split at hg
  · obtain ⟨g', hg', rfl⟩ := List.mem_map.mp hg
    have := h g' hg'
    split
    · show (g'.2 ++ [d]).length ≤ _
      rw [List.length_append]
      exact Nat.succ_le_succ this
    · omega
  · rcases List.mem_append.mp hg with q | q
    · exact Nat.le_succ_of_le (h g q)
    · rw [List.mem_singleton] at q
      rw [q]
      show 1 ≤ n + 1
      omega
theorem groups_succ {L : List (List NestedKey × PyData)} {j : Nat} {kd : List NestedKey × PyData} (h : L[j]? = some kd) : groupsOf (L.take (j + 1)) = putG (groupsOf (L.take j)) (.tup kd.1) kd.2 := by
  unfold groupsOf
  rw [List.take_add_one, h, List.foldl_append]
  rfl
theorem groups_val (L : List (List NestedKey × PyData)) : ∀ j, ∀ g ∈ groupsOf (L.take j), g.2.length ≤ j
  | 0, g, hg => by cases hg
  | j + 1, g, hg => by
    cases q : L[j]? with
    | none =>
      have e : L.take (j + 1) = L.take j := by rw [List.take_add_one, q]; simp
      rw [e] at hg
      exact Nat.le_succ_of_le (groups_val L j g hg)
    | some kd =>
      rw [groups_succ q] at hg
      exact putG_mem (groups_val L j) g hg
def noOwn (R : En) : Bool := noOw R
theorem Gd.forget {B : Bx} {c : Cc} {ps : List Addr} {ρ : En} {δ : List Int} {σ : L2.St} {H : Hp} (g : Gd B c ps ρ δ σ H) (i : Nat) : Gd B c ps (ρ.set i none) δ σ H := by
  have keep : ∀ (j : Nat) (s : Arg), (ρ.set i none)[j]? = some (some s) → ρ[j]? = some (some s) := fun j s e => by
    by_cases h : i = j
    · subst h
      exact absurd (get_set_self e) (fun z => nomatch z)
    · rwa [List.getElem?_set_ne h] at e
  exact ⟨g.live, g.apart, g.dr, by rw [List.length_set]; exact g.len, fun j s e => g.sl j s (keep j s e), fun a b x y v n e1 e2 => g.dj a b x y v n (keep a _ e1) (keep b _ e2)⟩
/-- dict of lists, all ours -/
structure GrOk (K : PySem.W.Frag) (ps : List Addr) (G H : Hp) (p : Addr) (xs : List NX) (gs : Gs) : Prop where
  rel : Paired (fun (x : NX) (g : NestedKey × List PyData) => x.1 = g.1 ∧ Rp K G (.ref x.2.1) g.1.data ∧ g.1.depth ≤ 8 ∧ ∃ q vs, x.2.2 = .ref q ∧ q ∈ ps ∧ q ≠ p ∧ H q = some (.lst vs) ∧ RpAll K G vs g.2) xs gs
  nd : (xs.map (·.2.2)).Nodup
  ndk : (xs.map (·.1)).Nodup
section
variable {K : PySem.W.Frag} {ps ps' : List Addr} {G G' H H' : Hp} {p : Addr} {xs : List NX} {gs : Gs} {k : NestedKey}
theorem paired_memL {α β : Type} {F : α → β → Prop} : ∀ {l : List α} {m : List β} {a : α}, Paired F l m → a ∈ l → ∃ b, b ∈ m ∧ F a b
  | _, _, _, .nil, h => by cases h
  | _, _, a, .cons h t, hm => (List.mem_cons.mp hm).elim (fun e => by subst e; exact ⟨_, List.mem_cons_self, h⟩) fun q => by
    obtain ⟨b, h1, h2⟩ := paired_memL t q
    exact ⟨b, List.mem_cons_of_mem _ h1, h2⟩
theorem gr_keys (h : GrOk K ps G H p xs gs) : KeysN K G xs := fun x hx => by
  obtain ⟨g, _, r1, r2, r3, _⟩ := paired_memL h.rel hx
  rw [r1]
  exact ⟨r2, r3⟩
/-- the heap goes on: lists of ours stand -/
theorem gr_mono (h : GrOk K ps G H p xs gs) (sg : Same G G') (sp : ∀ a ∈ ps, a ∈ ps') (sh : ∀ q ∈ ps, q ≠ p → (∃ vs, H q = some (.lst vs)) → H' q = H q) : GrOk K ps' G' H' p xs gs :=
  ⟨paired_imp (fun x g ⟨r1, r2, r3, q, vs, r4, r5, r6, r7, r8⟩ => ⟨r1, dp_mono sg r2, r3, q, vs, r4, sp q r5, r6, by rw [sh q r5 r6 ⟨vs, r7⟩]; exact r7, dpAll_mono sg r8⟩) h.rel, h.nd, h.ndk⟩
theorem nodup_inj {α β : Type} {f : α → β} : ∀ {l : List α}, (l.map f).Nodup → ∀ {x y : α}, x ∈ l → y ∈ l → f x = f y → x = y
  | [], _, _, _, hx, _, _ => by cases hx
  | a :: l, h, x, y, hx, hy, e => by
    rw [List.map_cons, List.nodup_cons] at h
    rcases List.mem_cons.mp hx with q | q
    · rcases List.mem_cons.mp hy with r | r
      · rw [q, r]
      · exact absurd (by rw [← q, e]; exact List.mem_map_of_mem r) h.1
    · rcases List.mem_cons.mp hy with r | r
      · exact absurd (by rw [← r, ← e]; exact List.mem_map_of_mem q) h.1
      · exact nodup_inj h.2 q r e
theorem find_gr (h : GrOk K ps G H p xs gs) (k : NestedKey) : (xs.find? (fun x => decide (x.1 = k)) = none ∧ gs.find? (fun g => decide (g.1 = k)) = none) ∨ ∃ x g, xs.find? (fun x => decide (x.1 = k)) = some x ∧ gs.find? (fun g => decide (g.1 = k)) = some g := by
  rcases find_paired (ka := fun x : NX => x.1) (kb := fun g : NestedKey × List PyData => g.1) (fun _ _ q => q.1) k h.rel with z | ⟨a, b, h1, h2, _⟩
  · exact .inl z
  · exact .inr ⟨a, b, h1, h2⟩
/-- the key is there -/
theorem gr_hit {v0 : V} {n : Nat} (h : GrOk K ps G H p xs gs) (hl : lookX xs k = some v0) (hn : ∀ g ∈ gs, g.2.length ≤ n) : ∃ q vs, v0 = .ref q ∧ q ∈ ps ∧ q ≠ p ∧ H q = some (.lst vs) ∧ vs.length ≤ n ∧ ∀ v d, Rp K G v d → GrOk K ps G (upd H q (.lst (vs ++ [v]))) p xs (putG gs k d) := by
  unfold lookX at hl
  rcases find_gr h k with ⟨e1, _⟩ | ⟨x, g, e1, e2⟩
  · rw [e1] at hl; cases hl
  · rw [e1] at hl
    cases hl
    have hx := List.mem_of_find?_eq_some e1
    have hk : x.1 = k := of_decide_eq_true (List.find?_some (p := fun x : NX => decide (x.1 = k)) e1)
    obtain ⟨g0, hg0, _, _, _, q, vs, r4, r5, r6, r7, r8⟩ := paired_memL h.rel hx
    refine ⟨q, vs, r4, r5, r6, r7, by rw [dpAll_len r8]; exact hn g0 hg0, fun v d hv => ⟨?_, h.nd, h.ndk⟩⟩
    have eg : putG gs k d = gs.map fun g => if g.1 = k then (g.1, g.2 ++ [d]) else g := by
      unfold putG storeG
      rw [e2]
      rfl
    rw [eg]
    have same : ∀ y ∈ xs, y.1 = k → y.2.2 = .ref q := fun y hy e => by
      rw [← r4, nodup_inj h.ndk hy hx (e.trans hk.symm)]
    have other : ∀ y ∈ xs, y.1 ≠ k → y.2.2 ≠ .ref q := fun y hy e z => e (by
      rw [nodup_inj h.nd hy hx (z.trans r4.symm)]
      exact hk)
    have gen : ∀ {l : List NX} {m : Gs}, Paired (fun (x : NX) (g : NestedKey × List PyData) => x.1 = g.1 ∧ Rp K G (.ref x.2.1) g.1.data ∧ g.1.depth ≤ 8 ∧ ∃ q vs, x.2.2 = .ref q ∧ q ∈ ps ∧ q ≠ p ∧ H q = some (.lst vs) ∧ RpAll K G vs g.2) l m → (∀ y ∈ l, y ∈ xs) →
        Paired (fun (x : NX) (g : NestedKey × List PyData) => x.1 = g.1 ∧ Rp K G (.ref x.2.1) g.1.data ∧ g.1.depth ≤ 8 ∧ ∃ q' vs', x.2.2 = .ref q' ∧ q' ∈ ps ∧ q' ≠ p ∧ (upd H q (.lst (vs ++ [v]))) q' = some (.lst vs') ∧ RpAll K G vs' g.2) l (m.map fun g => if g.1 = k then (g.1, g.2 ++ [d]) else g) := fun {l m} rel => by
      induction rel with
      | nil => intro _; exact .nil
      | cons r _ ih =>
        intro sub
        refine .cons ?_ (ih fun y hy => sub y (List.mem_cons_of_mem _ hy))
        obtain ⟨s1, s2, s3, q', vs', s4, s5, s6, s7, s8⟩ := r
        rename_i y g' _ _ _
        have hy := sub y List.mem_cons_self
        dsimp only
        by_cases e : g'.1 = k
        · rw [if_pos e]
          have z := same y hy (s1.trans e)
          rw [s4] at z
          cases z
          rw [r7] at s7
          cases s7
          exact ⟨s1, s2, s3, q, vs ++ [v], s4, s5, s6, upd_same, dpAll_app s8 (.cons hv .nil)⟩
        · rw [if_neg e]
          have z := other y hy fun w => e (s1.symm.trans w)
          rw [s4] at z
          exact ⟨s1, s2, s3, q', vs', s4, s5, s6, by rw [upd_ne fun w => z (by rw [w])]; exact s7, s8⟩
    exact gen h.rel fun y hy => hy
/-- the key is new -/
theorem gr_new {b l : Addr} {v : V} {d : PyData} (h : GrOk K ps G H p xs gs) (hl : lookX xs k = none) (sg : Same G G') (sp : ∀ a ∈ ps, a ∈ ps') (hlp : l ∈ ps') (hlne : l ≠ p) (hnl : H l = none) (hk : Rp K G' (.ref b) k.data) (hd : k.depth ≤ 8) (hv : Rp K G' v d)
    (sh : ∀ q ∈ ps, q ≠ p → (∃ vs, H q = some (.lst vs)) → H' q = H q) (hH : H' l = some (.lst [v])) : GrOk K ps' G' H' p (putX xs k b (.ref l)) (putG gs k d) := by
  unfold lookX at hl
  have h1 := gr_mono h sg sp sh
  rcases find_gr h k with ⟨e1, e2⟩ | ⟨x, g, e1, _⟩
  · have ex : putX xs k b (.ref l) = xs ++ [(k, b, .ref l)] := by unfold putX storeG; rw [e1]; rfl
    have eg : putG gs k d = gs ++ [(k, [d])] := by unfold putG storeG; rw [e2]; rfl
    rw [ex, eg]
    refine ⟨paired_app h1.rel (.cons ⟨rfl, hk, hd, l, [v], rfl, hlp, hlne, hH, .cons hv .nil⟩ .nil), ?_, ?_⟩
    · rw [List.map_append]
      refine List.nodup_append.mpr ⟨h.nd, by simp, fun a ha c hc e => ?_⟩
      obtain ⟨y, hy, rfl⟩ := List.mem_map.mp ha
      have hc' : c = .ref l := by simpa using hc
      obtain ⟨_, _, _, _, _, q, vs, s4, _, _, s7, _⟩ := paired_memL h.rel hy
      rw [e, hc'] at s4
      cases s4
      rw [hnl] at s7
      cases s7
    · rw [List.map_append]
      refine List.nodup_append.mpr ⟨h.ndk, by simp, fun a ha c hc e => ?_⟩
      obtain ⟨y, hy, rfl⟩ := List.mem_map.mp ha
      have hc' : c = k := by simpa using hc
      have := List.find?_eq_none.mp e1 y hy
      exact this (by rw [e, hc']; exact decide_eq_true rfl)
  · rw [e1] at hl; cases hl
end
end Dl
/-! part dl25 -/
set_option Elab.async false
set_option linter.all false
set_option maxRecDepth 100000
set_option maxHeartbeats 4000000
set_option autoImplicit false
/-! Dl25: the loop that groups. -/
namespace Dl
open PySem PySem.Spec PyProof.Rows L2
section
variable {X : Cx}
theorem ps_fz {st : Stmt} {t : TS} (h : PS X st t) : PS X st (fun D σ H => t { D with nx := fun σ1 H1 => ∃ d u, H1 d = some u ∧ Mut (some u) ∧ ∀ o, D.nx σ1 (upd H1 d (.frz o u)) } σ H) := ⟨fun pins s σ H D I q => wpAny_mono (h.run pins s σ H _ I q) (fun fl s' hq => by
  cases fl with
  | next =>
    obtain ⟨σ1, H1, I1, d, u, hd, mu, k⟩ := hq
    obtain ⟨o, I2⟩ := I1.lock hd mu
    exact ⟨σ1, _, I2, k o⟩
  | ret v => exact hq
  | brk => exact hq
  | cont => exact hq) fun _ _ e => e⟩
variable {c : Cc} {ρ : En} {δ : List Int} {kx vx iter : Expr} {tgn gn : Str} {tp np ap lp cp ap2 cp2 ep fp : Pos} {Z : Ot → Prop} {kk : Nat}
abbrev qsOf (c : Cc) (ps : List Addr) : List Addr := ps.filter fun a => decide (c.pd ≠ some a)
theorem noOw_set {R : En} {t : Nat} {w : Wd} (h : noOw R = true) : noOw (R.set t (some (.v w))) = true := by
  unfold noOw at h ⊢
  rw [List.all_eq_true] at h ⊢
  intro a ha
  rcases List.mem_or_eq_of_mem_set ha with q | q
  · exact h a q
  · rw [q]; rfl
theorem noOw_at {R : En} (h : noOw R = true) (i : Nat) (w : Wd) : R[i]? ≠ some (some (.ow w)) := fun e => by
  have := List.all_eq_true.mp h _ (List.mem_of_getElem? e)
  cases this
theorem se_groups (i t : Nat) (hr : Room kk X.A) (hi : ρ[i]? = some (some (.ow (.dn [])))) (hit : i ≠ t) (ht : t < ρ.length) (hno : noOw (ρ.set i none) = true)
    (h : EI X c (.Name tgn tp) iter (ρ.set i none) δ fun ys δ1 => δ1 = δ ∧ ∃ L : List (List NestedKey × PyData), ys.length = L.length ∧ L.length < sizeLine ∧
      (∀ (j : Nat) (y : IW) kd, ys[j]? = some y → L[j]? = some kd → ∃ w, y = .one w ∧ (NestedKey.tup kd.1).depth ≤ 8 ∧ EE X c kx ((ρ.set i none).set t (some (.v w))) δ (fun a δ' => δ' = δ ∧ a = .v (.d (.tuple (NestedKey.datas kd.1)))) ∧ EE X c vx ((ρ.set i none).set t (some (.v w))) δ (fun a δ' => δ' = δ ∧ a = .v (.d kd.2))) ∧
      ∀ o, Z (.nx (((ρ.set i none).set t o).set i (some (.v (.dn ((groupsOf L).map fun g => (g.1, .list g.2)))))) δ))
    (hnd : X.N.Nodup) (hNi : X.N[i]? = some gn := by rfl) (hNt : X.N[t]? = some tgn := by rfl) (hvi : Vis X.env.scope gn := by first | exact Or.inl rfl | exact Or.inr (Or.inl rfl) | exact Or.inr (Or.inr rfl)) (hlt : Loc X.env.scope tgn := by first | exact .inl rfl | exact .inr rfl)
    (hft : X.fn tgn = true ∨ X.env.scope.names.lookup tgn = some .local := by first | exact .inl rfl | exact .inr rfl)
    (hd : (gn == ("__debug__" : Str)) = false := by decide) (hcd : (gn == ("__classdict__" : Str)) = false := by decide) (m : M2 X (.Name gn np) "setdefault" ap kx (.List [] lp) cp := by exact ⟨rfl, rfl, rfl, rfl⟩)
    (hbase : attributeBase (.Call (.Attribute (.Name gn np) "setdefault" ap) [kx, .List [] lp] [] cp) "append" X.env (eval (.Call (.Attribute (.Name gn np) "setdefault" ap) [kx, .List [] lp] [] cp) X.env) = eval (.Call (.Attribute (.Name gn np) "setdefault" ap) [kx, .List [] lp] [] cp) X.env := by rfl)
    (hfew : ((backTo cp2 (starEach [vx] X.env)).all (fun x => !x.1) && (backToKw cp2 (keywordEach [] X.env)).all (fun x => x.1.isSome) && decide ([vx].length + ([] : List Keyword).length + (if ([] : List Keyword).isEmpty then 0 else 1) < 30)) = true := by rfl)
    (hline : (ap2.endLine == cp2.line) = true := by rfl) (hst : starEach [vx] X.env = (false, eval vx X.env) :: starEach [] X.env := by rfl) (hpl : (backTo cp2 (starEach [] X.env)).any (·.1) = false := by rfl)
    (hsw : swapsWith (.Call (.Attribute (.Call (.Attribute (.Name gn np) "setdefault" ap) [kx, .List [] lp] [] cp) "append" ap2) [vx] [] cp2) none ep.line X.env = pure false := by rfl)
    (hp : PassesOwn (model X.prog X.w) X.A X.env X.xe := by exact PassesOwn.never) (hc : X.calm = true := by rfl) (hs : ∀ x, foldedSetIterable iter X.env x = pure x := by intro _; rfl) :
    SE X c (.For (.Name tgn tp) iter [.Expr (.Call (.Attribute (.Call (.Attribute (.Name gn np) "setdefault" ap) [kx, .List [] lp] [] cp) "append" ap2) [vx] [] cp2) ep] [] fp) ρ δ Z := by
  have body := pss_one (ps_expr (pe_bm (cpos := cp2) PySem.F.plainAttrs_list PySem.F.slot_list_append PySem.F.type_list_append mt_append (pe_setdN (kk := kk) hr (pe_var (pos := np) hNi hvi hd hcd) (pe_any (e := kx)) (pe_lst (pos := lp) (pa_nil (X := X))) m) (pa_cons (pe_any (e := vx)) pa_nil hst) hbase hfew hline hst hpl) hsw)
  refine PS.le (ps_fz (ps_for hp hc h pg_any body hs)) fun D σ H ⟨ps, g, h1, _⟩ => ?_
  obtain ⟨p, hp0, hin, npd, xs0, hl0, hn0⟩ := g.own hi
  cases hn0
  refine ⟨ps, g.forget i, fun J ys δ1 H1 ⟨ed, L, hyl, hL, turn, fin⟩ x1 wk => ?_⟩
  subst ed
  have hp1 : H1 p = some (DNo (bx X) p []) := x1.1 p _ npd hl0
  generalize hρ0 : ρ.set i none = ρ0 at hno turn fin wk h
  have g0 : Gd (bx X) c ps ρ0 δ1 σ H1 := by rw [← hρ0]; exact (g.forget i).ext x1
  have st1 := g.step x1
  have hlen0 : ρ0.length = ρ.length := by rw [← hρ0, List.length_set]
  have hp2 : σ[i]? = some (some (.ref p)) := hp0
  refine ⟨fun j n σ2 H2 => n = ys.length - j ∧ j ≤ ys.length ∧ ∃ ps2 o xs, Gd (bx X) c ps2 (ρ0.set t o) δ1 σ2 H2 ∧ p ∈ ps2 ∧ σ2[i]? = some (some (.ref p)) ∧ H2 p = some (DNo (bx X) p xs) ∧ GrOk X.K (qsOf c ps2) (cut H2 (c.xs ++ ps2)) H2 p xs (groupsOf (L.take j)) ∧ noOw (ρ0.set t o) = true ∧ Stp ps H1 ps2 H2,
    ⟨_, rfl, Nat.zero_le _, ps, ρ0[t]'(by rw [hlen0]; exact ht), [], by rw [List.set_getElem_self]; exact g0, hin, hp2, hp1, ⟨.nil, List.nodup_nil, List.nodup_nil⟩, by rw [List.set_getElem_self]; exact hno, Stp.refl⟩, ?_⟩
  rintro j n σ2 H2 ⟨rfl, hj, ps2, o, xs, g2, hpin, hpi, hpo, gr, hno2, s2⟩
  have kp : ∀ a o, a ∉ c.xs ++ ps → H1 a = some o → H2 a = some o := fun a o n e => s2.1 a o (fun z => n (List.mem_append_right _ z)) e
  obtain ⟨wg, ws⟩ := wk H2 kp
  by_cases hlt2 : j < ys.length
  · obtain ⟨gi, yi⟩ := wg j ys[j] (List.getElem?_eq_getElem hlt2)
    have hlL : j < L.length := by rw [← hyl]; exact hlt2
    obtain ⟨w, ey, hdp, hkx, hvx⟩ := turn j ys[j] L[j] (List.getElem?_eq_getElem hlt2) (List.getElem?_eq_getElem hlL)
    have hgs := groups_succ (List.getElem?_eq_getElem hlL)
    refine .inr ⟨gi, fun σ3 H3 => ∃ ps3 o xs, Gd (bx X) c ps3 (ρ0.set t o) δ1 σ3 H3 ∧ p ∈ ps3 ∧ σ3[i]? = some (some (.ref p)) ∧ H3 p = some (DNo (bx X) p xs) ∧ GrOk X.K (qsOf c ps3) (cut H3 (c.xs ++ ps3)) H3 p xs (groupsOf (L.take (j + 1))) ∧ noOw (ρ0.set t o) = true ∧ Stp ps H1 ps3 H3, fun σ3 H3 q => ⟨_, by omega, rfl, hlt2, q⟩, fun x H' hy => ?_⟩
    have sm : Same (cut H1 (c.xs ++ ps)) (cut H2 (c.xs ++ ps2)) := cut_same kp fun a ha => by
      rcases List.mem_append.mp ha with ha | ha
      · exact .inl (List.mem_append_left _ ha)
      · exact (s2.2 a ha).imp_left (List.mem_append_right _)
    obtain ⟨xt, lr⟩ := yrep_l g2 sm (yi x H' hy)
    have g3 := g2.ext xt
    have hgt : EG X c (.Name tgn tp) (.one w) (ρ0.set t o) δ1 [t] fun r => r = ρ0.set t (some (.v w)) := eg_name t (by rw [List.set_set]) hnd hNt hlt hft
    rw [ey] at lr
    refine ⟨_, hgt, ps2, g3, lr, fun ρ4 σ4 er g4 hl4 hj4 => ?_⟩
    subst er
    have hpi4 : σ4[i]? = some (some (.ref p)) := by rw [hj4 i (by simpa using hit)]; exact hpi
    have hno4 : noOw (ρ0.set t (some (.v w))) = true := noOw_set hno
    have hown : ∀ (k : Nat) (w' : Wd) (q : Addr), (ρ0.set t (some (.v w)))[k]? = some (some (.ow w')) → σ4[k]? ≠ some (some (.ref q)) := fun k w' q e => absurd e (noOw_at hno4 k w')
    refine ⟨.ref p, hpi4, p, rfl, ⟨xs, xt.1 p _ npd hpo⟩, _, hkx, ps2, g4, fun y a δ5 H5 ⟨ed5, ea⟩ x5 r5 => ?_⟩
    subst ed5 ea
    have g5 := g4.ext x5
    have x25 := xt.trans x5
    obtain ⟨b, eb, hb⟩ := rep_key r5
    have gr5 : GrOk X.K (qsOf c ps2) (cut H5 (c.xs ++ ps2)) H5 p xs (groupsOf (L.take j)) := gr_mono gr (g2.same x25) (fun a h => h) fun q hq _ ⟨vs, hv⟩ => by
      have nq : c.pd ≠ some q := of_decide_eq_true (List.mem_filter.mp hq).2
      rw [x25.1 q _ nq hv, hv]
    have hpo5 := x25.1 p _ npd hpo
    have st5 := (s2.trans (g2.step x25))
    refine ⟨Nat.zero_le _, fun l hl => ?_⟩
    have hlp : l ≠ p := fun z => by rw [z, hpo5] at hl; cases hl
    have hnl : l ∉ c.xs ++ ps2 := g5.fresh hl
    have hnpl : c.pd ≠ some l := fun e => hnl (List.mem_append_right _ (g5.dr l e).1)
    have hxl : xs.length < sizeLine := by
      rw [paired_len gr.rel]
      have := groups_len (L.take j) []
      rw [List.length_take, List.length_nil] at this
      have e : (groupsOf (L.take j)).length ≤ 0 + min j L.length := this
      omega
    refine ⟨cut H5 (c.xs ++ ps2), b, xs, .tup L[j].1, eb, by rw [upd_ne (Ne.symm hlp)]; exact hpo5, (cut_same (E' := []) (fun a u _ e => by rw [upd_ne (ne_of_none e hl)]; exact e) fun a q => by cases q).trans fun a u e => cut_le a u e, gr_keys gr5, hb, hdp, hxl, fun v0 hv0 => ?_, fun hv0 => ?_⟩
    · obtain ⟨q, vs, eq, hq1, hq2, hq3, hq4, _⟩ := gr_hit gr5 hv0 (groups_val L j)
      subst eq
      have hqps : q ∈ ps2 := (List.mem_filter.mp hq1).1
      have nq : c.pd ≠ some q := of_decide_eq_true (List.mem_filter.mp hq1).2
      have hql : q ≠ l := fun z => by rw [z, hl] at hq3; cases hq3
      have xl := Xt.upd (o := .lst []) g5 hl
      refine ⟨.inl ⟨rfl, vs, .inl (.inl (by rw [upd_ne hql]; exact hq3))⟩, _, hvx, ps2, g5.ext xl, fun v a δ7 H7 ⟨ed7, ea7⟩ x7 r7 => ?_⟩
      subst ed7 ea7
      have x57 := xl.trans x7
      have g7 := g5.ext x57
      have gr7 : GrOk X.K (qsOf c ps2) (cut H7 (c.xs ++ ps2)) H7 p xs (groupsOf (L.take j)) := gr_mono gr5 (g5.same x57) (fun a h => h) fun q hq _ ⟨vs, hv⟩ => by
        have nq : c.pd ≠ some q := of_decide_eq_true (List.mem_filter.mp hq).2
        rw [x57.1 q _ nq hv, hv]
      obtain ⟨q', vs', eq', _, _, hq3', hq4', fin7⟩ := gr_hit gr7 hv0 (groups_val L j)
      cases eq'
      obtain ⟨u7, ec7⟩ := g7.upd0 (o' := .lst (vs' ++ [v])) hqps hq3' nq fun k w' e => hown k w' q e
      refine ⟨q, vs', v, rfl, rfl, hq3', Nat.lt_of_le_of_lt hq4' (by omega), ps2, _, xs, u7, hpin, hpi4, ?_, ?_, hno4, ?_⟩
      · rw [upd_ne (Ne.symm hq2)]
        exact x57.1 p _ npd hpo5
      · rw [ec7, hgs]
        exact fin7 v L[j].2 (show Rp X.K _ v L[j].2 from r7)
      · exact (st5.trans (g5.step x57)).trans ⟨fun a u n e => by rw [upd_ne (fun z => n (by rw [z]; exact hqps))]; exact e, fun _ h => .inl h⟩
    · obtain ⟨gm, smm⟩ := g5.more (o := .lst []) hl
      obtain ⟨gq, ecq⟩ := gm.upd0 (p := p) (o := DNo (bx X) p xs) (o' := DNo (bx X) p (putX xs (.tup L[j].1) b (.ref l))) (List.mem_cons_of_mem _ hpin) (by rw [upd_ne (Ne.symm hlp)]; exact hpo5) npd fun k w' e => hown k w' p e
      refine ⟨.inl ⟨rfl, [], .inl (.inl (by rw [upd_ne hlp, upd_same]))⟩, _, hvx, l :: ps2, gq, fun v a δ7 H7 ⟨ed7, ea7⟩ x7 r7 => ?_⟩
      subst ed7 ea7
      have g7 := gq.ext x7
      have h7l : H7 l = some (.lst []) := x7.1 l _ hnpl (by rw [upd_ne hlp, upd_same])
      have h7p : H7 p = some (DNo (bx X) p (putX xs (.tup L[j].1) b (.ref l))) := x7.1 p _ npd upd_same
      obtain ⟨u7, ec7⟩ := g7.upd0 (o' := .lst ([] ++ [v])) List.mem_cons_self h7l hnpl fun k w' e => hown k w' l e
      have s57 : Same (cut H5 (c.xs ++ ps2)) (cut (upd H7 l (.lst ([] ++ [v]))) (c.xs ++ l :: ps2)) := by
        rw [ec7]
        refine Same.trans ?_ (gq.same x7)
        rw [ecq]
        exact smm
      have keep57 : ∀ a u, a ∉ ps2 → H5 a = some u → (upd H7 l (.lst ([] ++ [v]))) a = some u := fun a u na e => by
        have nal : a ≠ l := ne_of_none e hl
        have nap : a ≠ p := fun z => na (by rw [z]; exact hpin)
        rw [upd_ne nal]
        exact x7.1 a u (fun z => na (g5.dr a z).1) (by rw [upd_ne nap, upd_ne nal]; exact e)
      refine ⟨l, [], v, rfl, rfl, h7l, by show 0 < _; omega, l :: ps2, _, _, u7, List.mem_cons_of_mem _ hpin, hpi4, by rw [upd_ne (Ne.symm hlp)]; exact h7p, ?_, hno4, ?_⟩
      · rw [hgs]
        refine gr_new gr5 hv0 s57 (fun a h => ?_) (List.mem_filter.mpr ⟨List.mem_cons_self, decide_eq_true hnpl⟩) hlp hl (dp_mono s57 hb) hdp (by rw [ec7]; exact (show Rp X.K _ v L[j].2 from r7)) (fun q hq hqp ⟨vs, hv⟩ => ?_) upd_same
        · obtain ⟨h1, h2⟩ := List.mem_filter.mp h
          exact List.mem_filter.mpr ⟨List.mem_cons_of_mem _ h1, h2⟩
        · have nq : c.pd ≠ some q := of_decide_eq_true (List.mem_filter.mp hq).2
          have nql : q ≠ l := ne_of_none hv hl
          rw [upd_ne nql, x7.1 q _ nq (by rw [upd_ne hqp, upd_ne nql]; exact hv), hv]
      · exact st5.trans ⟨keep57, fun a ha => (List.mem_cons.mp ha).elim (fun z => .inr (by rw [z]; exact hl)) .inl⟩
  · have e : j = ys.length := by omega
    subst e
    refine .inl ⟨ws _ (Nat.le_refl _), p, _, hpo, trivial, fun ob => ?_⟩
    have eL : L.take ys.length = L := List.take_of_length_le (by rw [hyl]; exact Nat.le_refl _)
    rw [eL] at gr
    have sub : ∀ a ∈ c.pd.toList, a ∈ ps2 := fun a ha => (g2.dr a (by simpa using ha)).1
    have npE : p ∉ c.xs ++ c.pd.toList := fun z => by
      rcases List.mem_append.mp z with z | z
      · exact g2.apart p z hpin
      · exact npd (by simpa using z)
    have sm3 : Same (cut H2 (c.xs ++ ps2)) (cut (upd H2 p (.frz ob (DNo (bx X) p xs))) (c.xs ++ c.pd.toList)) := cut_same (fun a u n q => by
      rw [upd_ne (fun z => n (by rw [z]; exact List.mem_append_right _ hpin))]
      exact q) fun a ha => by
      rcases List.mem_append.mp ha with z | z
      · exact .inl (List.mem_append_left _ z)
      · exact .inl (List.mem_append_right _ (sub a z))
    have gf : Gd (bx X) c c.pd.toList (ρ0.set t o) δ1 σ2 (upd H2 p (.frz ob (DNo (bx X) p xs))) := by
      refine ⟨fun a ha => ?_, fun a h1 h2 => g2.apart a h1 (sub a h2), fun q eq => ⟨by simp [eq], ?_⟩, g2.len, fun k s e => ?_, fun k1 k2 x y v _ e1 _ _ _ => absurd e1 (noOw_at hno2 k1 x)⟩
      · by_cases hap : a = p
        · rw [hap, upd_same]; exact fun z => nomatch z
        · rw [upd_ne hap]
          refine g2.live a ?_
          rcases List.mem_append.mp ha with z | z
          · exact List.mem_append_left _ z
          · exact List.mem_append_right _ (sub a z)
      · rw [upd_ne (fun z => npd (by rw [← z]; exact eq))]
        exact (g2.dr q eq).2
      · obtain ⟨v, hv, r, _⟩ := g2.sl k s e
        refine ⟨v, hv, ?_, ?_⟩
        · cases s with
          | v w => exact rep_mono sm3 r
          | ow w => exact absurd e (noOw_at hno2 k w)
          | dr => exact r
        · cases s with
          | ow w => exact absurd e (noOw_at hno2 k w)
          | _ => trivial
    have rN : RepW (bx X) (cut (upd H2 p (.frz ob (DNo (bx X) p xs))) (c.xs ++ c.pd.toList)) (.ref p) (.dn ((groupsOf L).map fun g => (g.1, .list g.2))) := by
      refine ⟨p, ob, xs, rfl, by rw [cut_out npE, upd_same], ?_⟩
      have gen : ∀ {l : List NX} {m : Gs}, Paired (fun (x : NX) (g : NestedKey × List PyData) => x.1 = g.1 ∧ Rp X.K (cut H2 (c.xs ++ ps2)) (.ref x.2.1) g.1.data ∧ g.1.depth ≤ 8 ∧ ∃ q vs, x.2.2 = .ref q ∧ q ∈ qsOf c ps2 ∧ q ≠ p ∧ H2 q = some (.lst vs) ∧ RpAll X.K (cut H2 (c.xs ++ ps2)) vs g.2) l m →
          NkOk X.K (cut (upd H2 p (.frz ob (DNo (bx X) p xs))) (c.xs ++ c.pd.toList)) l (m.map fun g => (g.1, .list g.2)) := fun {l m} rel => by
        induction rel with
        | nil => exact .nil
        | cons r _ ih =>
          obtain ⟨r1, r2, r3, q, vs, r4, r5, r6, r7, r8⟩ := r
          obtain ⟨h1, h2⟩ := List.mem_filter.mp r5
          refine .cons ⟨r1, dp_mono sm3 r2, r3, ?_⟩ ih
          rw [r4]
          refine .lst (.inl (.inl ?_)) (dpAll_mono sm3 r8)
          rw [cut_out fun z => ?_, upd_ne r6]
          · exact r7
          · rcases List.mem_append.mp z with z | z
            · exact g2.apart q z h1
            · exact of_decide_eq_true h2 (by simpa using z)
      exact gen gr.rel
    have gz := gf.put rN i
    have hset : σ2.set i (some (.ref p)) = σ2 := by
      refine List.ext_getElem? fun k => ?_
      by_cases hk : i = k
      · subst hk
        rw [List.getElem?_set_self (List.getElem?_eq_some_iff.mp hpi).1, hpi]
      · rw [List.getElem?_set_ne hk]
    rw [hset] at gz
    refine h1 _ δ1 σ2 _ c.pd.toList (fin o) gz (st1.trans (s2.trans ⟨fun a u n q => ?_, fun a ha => .inl (sub a ha)⟩))
    rw [upd_ne (fun z => n (by rw [z]; exact hpin))]
    exact q
end
end Dl
/-! part dl26 -/
set_option Elab.async false
set_option linter.all false
set_option maxRecDepth 100000
set_option maxHeartbeats 4000000
set_option autoImplicit false
/-! Dl26: for k, v in d.items(). -/
namespace Dl
open PySem PySem.Spec PyProof.Rows L2
section
variable {X : Cx} {c : Cc} {ρ : En} {δ : List Int} {e : Expr} {apos cpos tpos : Pos} {elts : List Expr} {kk : Nat}
theorem ei_dnItems {Z : List IW → List Int → Prop} (h : EE X c e ρ δ fun a δ1 => onDn a fun kvs => Z (kvs.map fun kv => .pair [.d kv.1.data, .d kv.2]) δ1) (hbase : attributeBase e "items" X.env (eval e X.env) = eval e X.env := by rfl) (hline : (apos.endLine == cpos.line) = true := by rfl) :
    EI X c (.Tuple elts kk tpos) (.Call (.Attribute e "items" apos) [] [] cpos) ρ δ Z :=
  PI.le (pi_itemsN h hbase hline) fun σ H R ⟨ps, g, k⟩ => ⟨ps, g, fun v a1 δ1 H1 hz x1 r => by
    revert r
    refine onDn_elim (P := fun a1 => RepA (bx X) c.pd (cut H1 (c.xs ++ ps)) H1 v a1 → _) hz fun kvs hz r => ?_
    obtain ⟨p, o, xs, e1, np, h1, h2⟩ := rep_dn r
    refine ⟨p, o, xs, e1, h1, k _ _ δ1 H1 hz x1 fun H hH => ⟨fun i y hy => ?_, fun i hi => ⟨hH _ _ np h1, by rw [List.length_map] at hi; rw [paired_len h2]; exact hi⟩⟩⟩
    rw [List.getElem?_map] at hy
    cases q : kvs[i]? with
    | none => rw [q] at hy; cases hy
    | some kv =>
      rw [q] at hy
      cases hy
      obtain ⟨z, hz1, hz2⟩ := paired_at h2 q
      refine ⟨⟨hH _ _ np h1, (List.getElem?_eq_some_iff.mp hz1).1⟩, fun x H' ⟨T, w, hw, ex, hT, eH⟩ => ?_⟩
      rw [hz1] at hw
      cases hw
      exact ⟨T, _, ex, hT, eH, .cons (show Rp _ _ _ _ from hz2.2.1) (.cons (show Rp _ _ _ _ from hz2.2.2.2) .nil)⟩⟩
end
end Dl
/-! part dl27 -/
set_option Elab.async false
set_option linter.all false
set_option maxRecDepth 100000
set_option maxHeartbeats 4000000
set_option autoImplicit false
/-! Dl27: pop, reverse, join, list + list, index. -/
namespace Dl
open PySem PySem.Spec PyProof.Rows L2
section
variable {X : Cx} {c : Cc} {ρ : En} {δ : List Int} {Z : ZE} {pos p npos apos cpos : Pos} {a b e o : Expr} {x : Str} {kk : Nat}
/-- draws.pop() -/
theorem ee_pop (i : Nat) (hr : ρ[i]? = some (some .dr)) (hz : ∃ k, δ[δ.length - 1]? = some k ∧ Z (.v (.d (.int k))) δ.dropLast) (hN : X.N[i]? = some x := by rfl) (hv : Vis X.env.scope x := by first | exact Or.inl rfl | exact Or.inr (Or.inl rfl) | exact Or.inr (Or.inr rfl))
    (hd : (x == ("__debug__" : Str)) = false := by decide) (hcd : (x == ("__classdict__" : Str)) = false := by decide)
    (hbase : attributeBase (.Name x npos) "pop" X.env (eval (.Name x npos) X.env) = eval (.Name x npos) X.env := by rfl) (hline : (apos.endLine == cpos.line) = true := by rfl) :
    EE X c (.Call (.Attribute (.Name x npos) "pop" apos) [] [] cpos) ρ δ Z :=
  PE.le (pe_bm0 PySem.F.plainAttrs_list PySem.F.slot_list_pop PySem.F.type_list_pop mt_pop (pe_var hN hv hd hcd) hbase hline) fun σ H Q ⟨ps, g, k⟩ => by
    obtain ⟨v, hv, ⟨q, ev, hq⟩, _⟩ := g.sl i _ hr
    obtain ⟨n, hn, hz⟩ := hz
    obtain ⟨hqp, hqH⟩ := g.dr q hq
    subst ev
    refine ⟨.ref q, hv, .inl ⟨rfl, _, .inl (.inl hqH)⟩, q, δ.map V.int, .int n, rfl, rfl, hqH, ?_, k (.int n) (.v (.d (.int n))) δ.dropLast _ hz ⟨fun a u na e => ?_, fun q' e => ?_⟩ (show Rp _ _ _ _ from .int n)⟩
    · rw [List.length_map, List.getElem?_map, hn]
      rfl
    · rw [upd_ne (fun z => na (by rw [z]; exact hq))]
      exact e
    · rw [hq] at e
      cases e
      rw [upd_same, List.map_dropLast]
/-- xs.reverse() -/
theorem se_reverse (i : Nat) {ds : List PyData} {Z : Ot → Prop} (hr : ρ[i]? = some (some (.ow (.d (.list ds))))) (hz : Z (.nx (ρ.set i (some (.ow (.d (.list ds.reverse))))) δ)) (hN : X.N[i]? = some x := by rfl) (hv : Vis X.env.scope x := by first | exact Or.inl rfl | exact Or.inr (Or.inl rfl) | exact Or.inr (Or.inr rfl))
    (hd : (x == ("__debug__" : Str)) = false := by decide) (hcd : (x == ("__classdict__" : Str)) = false := by decide)
    (hbase : attributeBase (.Name x npos) "reverse" X.env (eval (.Name x npos) X.env) = eval (.Name x npos) X.env := by rfl) (hline : (apos.endLine == cpos.line) = true := by rfl)
    (hs : swapsWith (.Call (.Attribute (.Name x npos) "reverse" apos) [] [] cpos) none pos.line X.env = pure false := by rfl) :
    SE X c (.Expr (.Call (.Attribute (.Name x npos) "reverse" apos) [] [] cpos) pos) ρ δ Z :=
  PS.le (ps_expr (pe_bm0 PySem.F.plainAttrs_list PySem.F.slot_list_reverse PySem.F.type_list_reverse mt_reverse (pe_var hN hv hd hcd) hbase hline) hs) fun D σ H ⟨ps, g, h1, _⟩ => by
    obtain ⟨p0, hp0, hin, npd, vs, hl, hds⟩ := g.own hr
    have rev : RpAll X.K (cut H (c.xs ++ ps)) vs.reverse ds.reverse := by
      have gen : ∀ {vs : List V} {ds : List PyData}, RpAll X.K (cut H (c.xs ++ ps)) vs ds → RpAll X.K (cut H (c.xs ++ ps)) vs.reverse ds.reverse := fun {vs ds} q => by
        induction vs generalizing ds with
        | nil => cases q; exact .nil
        | cons v vs ih =>
          cases q with
          | cons h t =>
            rw [List.reverse_cons, List.reverse_cons]
            exact dpAll_app (ih t) (.cons h .nil)
      exact gen hds
    refine ⟨.ref p0, hp0, .inl ⟨rfl, _, .inl (.inl hl)⟩, p0, vs, rfl, rfl, hl, ?_⟩
    exact h1 _ δ σ _ ps hz (g.chg hr hp0 ⟨_, upd_same, rev⟩) (step_upd Stp.refl hin)
/-- xs.pop(k), the value dropped -/
theorem se_popAt (i : Nat) {ds : List PyData} {Z : Ot → Prop} (hr : ρ[i]? = some (some (.ow (.d (.list ds))))) (h : EE X c e ρ δ fun a δ1 => ∃ k : Nat, a = .v (.d (.int k)) ∧ k < ds.length ∧ k < 1000 ∧ Z (.nx (ρ.set i (some (.ow (.d (.list (ds.eraseIdx k)))))) δ1)) (hN : X.N[i]? = some x := by rfl) (hv : Vis X.env.scope x := by first | exact Or.inl rfl | exact Or.inr (Or.inl rfl) | exact Or.inr (Or.inr rfl))
    (hd : (x == ("__debug__" : Str)) = false := by decide) (hcd : (x == ("__classdict__" : Str)) = false := by decide)
    (hbase : attributeBase (.Name x npos) "pop" X.env (eval (.Name x npos) X.env) = eval (.Name x npos) X.env := by rfl)
    (hfew : ((backTo cpos (starEach [e] X.env)).all (fun x => !x.1) && (backToKw cpos (keywordEach [] X.env)).all (fun x => x.1.isSome) && decide ([e].length + ([] : List Keyword).length + (if ([] : List Keyword).isEmpty then 0 else 1) < 30)) = true := by rfl)
    (hline : (apos.endLine == cpos.line) = true := by rfl) (hst : starEach [e] X.env = (false, eval e X.env) :: starEach [] X.env := by rfl) (hpl : (backTo cpos (starEach [] X.env)).any (·.1) = false := by rfl)
    (hs : swapsWith (.Call (.Attribute (.Name x npos) "pop" apos) [e] [] cpos) none pos.line X.env = pure false := by rfl) :
    SE X c (.Expr (.Call (.Attribute (.Name x npos) "pop" apos) [e] [] cpos) pos) ρ δ Z :=
  PS.le (ps_expr (pe_bm PySem.F.plainAttrs_list PySem.F.slot_list_pop PySem.F.type_list_pop mt_popAt (pe_var hN hv hd hcd) (pa_cons h pa_nil hst) hbase hfew hline hst hpl) hs) fun D σ H ⟨ps, g, h1, _⟩ => by
    obtain ⟨p0, hp0, hin, npd, vs0, hl0, _⟩ := g.own hr
    refine ⟨.ref p0, hp0, .inl ⟨rfl, _, .inl (.inl hl0)⟩, ps, g, fun v a δ1 H1 ⟨k, ea, hk, hk9, hz⟩ x1 r => ?_⟩
    subst ea
    have g1 := g.ext x1
    obtain ⟨p1, hp1, _, _, vs, hl, hds⟩ := g1.own hr
    rw [hp0] at hp1
    cases hp1
    have hvl := dpAll_len hds
    have hkv : k < vs.length := by rw [hvl]; exact hk
    refine ⟨p0, vs, (k : Int), k, vs[k], rfl, by rw [rep_int r], hl, ?_, ?_, (ixN_seq (by unfold ixN; simp [hkv])).1, List.getElem?_eq_getElem hkv, ?_⟩
    · exact Int.le_trans (by decide) (Int.natCast_nonneg k)
    · exact Int.lt_of_lt_of_le (Int.ofNat_lt.mpr hk9) (by decide)
    · exact h1 _ δ1 σ _ ps hz (g1.chg hr hp0 ⟨_, upd_same, dpAll_erase k hds⟩) (step_upd (g.step x1) hin)
/-- sep.join(texts) -/
theorem ee_join (h : EE X c o ρ δ fun a1 δ1 => onStr a1 fun sep => EE X c e ρ δ1 fun a2 δ2 => ∃ ys : List Str, (a2 = .v (.d (.list (ys.map PyData.str))) ∨ a2 = .ow (.d (.list (ys.map PyData.str)))) ∧ (ys.map (·.length)).sum + ys.length * sep.length ≤ 16777216 ∧ Z (.v (.d (.str (Txt.join sep ys)))) δ2)
    (hs : starEach [e] X.env = [(false, eval e X.env)] := by rfl) (hbase : attributeBase o "join" X.env (eval o X.env) = eval o X.env := by rfl) (hline : (apos.endLine == cpos.line) = true := by rfl) : EE X c (.Call (.Attribute o "join" apos) [e] [] cpos) ρ δ Z :=
  PE.le (pe_join h (pe_any (e := e)) hs hbase hline) fun σ H Q ⟨ps, g, k⟩ => ⟨ps, g, fun v a1 δ1 H1 hz x1 r1 => by
    revert r1
    refine onStr_elim (P := fun a1 => RepA (bx X) c.pd (cut H1 (c.xs ++ ps)) H1 v a1 → _) hz fun sep hb r1 => ?_
    have g1 := g.ext x1
    have ev := rep_str r1
    refine ⟨⟨sep, ev⟩, _, hb, ps, g1, fun u a2 δ2 H2 ⟨ys, ea, hsz, hz2⟩ x2 r2 => ?_⟩
    have fin : ∀ q vs, u = .ref q → SqL X.K H2 q vs → RpAll X.K (cut H2 (c.xs ++ ps)) vs (ys.map PyData.str) → ∃ a p, ∃ ys : List Str, v = .str a ∧ [u] = [.ref p] ∧ (SqL X.K H2 p (ys.map V.str) ∨ SqT X.K H2 p (ys.map V.str)) ∧ (ys.map (·.length)).sum + ys.length * a.length ≤ 16777216 ∧ Q (.str (Txt.join a ys)) H2 := fun q vs eu hq hr => by
      rw [rp_strs' hr] at hq
      exact ⟨sep, q, ys, ev, by rw [eu], .inl hq, hsz, k _ (.v (.d (.str (Txt.join sep ys)))) δ2 H2 hz2 (x1.trans x2) (show Rp _ _ _ _ from .str _)⟩
    rcases ea with ea | ea
    · subst ea
      obtain ⟨q, vs, eu, h1, h2⟩ := rep_lst r2
      exact fin q vs eu (sqL_up h1) h2
    · subst ea
      obtain ⟨q, eu, _, vs, h1, h2⟩ := r2
      exact fin q vs eu (.inl (.inl h1)) h2⟩
/-! ### list + list -/
def tL (B : Bx) (c : Cc) (ρ : En) (δ : List Int) (Z : List PyData → List Int → Prop) : TE := fun σ H Q => ∃ ps, Gd B c ps ρ δ σ H ∧ ∀ p vs ds δ' H', Z ds δ' → Xt c δ' H H' → c.pd ≠ some p → H' p = some (.lst vs) → RpAll B.K (cut H' (c.xs ++ ps)) vs ds → Q (.ref p) H'
/-- a list that stands as such -/
def EL (X : Cx) (c : Cc) (e : Expr) (ρ : En) (δ : List Int) (Z : List PyData → List Int → Prop) : Prop := PE X e (tL (bx X) c ρ δ Z)
theorem el_new {Zl : List PyData → List Int → Prop} (h : EN X c e ρ δ fun w δ1 => ∃ ds, w = .d (.list ds) ∧ Zl ds δ1) : EL X c e ρ δ Zl :=
  PE.le h fun σ H Q ⟨ps, g, k⟩ => ⟨ps, g, fun p w δ1 H1 ⟨ds, ew, hz⟩ h0 x1 o => by
    subst ew
    obtain ⟨vs, h1, h2⟩ := o
    have np : p ∉ c.xs ++ ps := g.fresh h0
    refine k p vs ds δ1 H1 hz x1 (fun e => np (List.mem_append_right _ (g.dr p e).1)) h1 (dpAll_mono (cut_same (fun _ _ _ e => e) fun a ha => .inl ?_) h2)
    rcases List.mem_append.mp ha with z | z
    · exact List.mem_append_left _ z
    · exact List.mem_append_right _ (List.mem_cons_of_mem _ z)⟩
theorem el_own {Zl : List PyData → List Int → Prop} (h : EE X c e ρ δ fun a δ1 => onO a fun ds => Zl ds δ1) : EL X c e ρ δ Zl :=
  PE.le h fun σ H Q ⟨ps, g, k⟩ => ⟨ps, g, fun v a δ1 H1 hz x1 r => by
    cases a with
    | ow w =>
      cases w with
      | d d =>
        cases d with
        | list ds =>
          obtain ⟨p, ev, np, vs, h1, h2⟩ := r
          subst ev
          exact k p vs ds δ1 H1 hz x1 np h1 h2
        | _ => exact hz.elim
      | _ => exact hz.elim
    | _ => exact hz.elim⟩
theorem el_any : PE X b (fun σ H Q => ∃ ρ δ Zl, EL X c b ρ δ Zl ∧ tL (bx X) c ρ δ Zl σ H Q) := ⟨fun pins s σ H Q I ⟨_, _, _, h, q⟩ => h.run pins s σ H Q I q⟩
theorem en_cat {Z : Wd → List Int → Prop} (h : EL X c a ρ δ fun ds δ1 => EL X c b ρ δ1 fun es δ2 => ds.length + es.length ≤ sizeLine ∧ Z (.d (.list (ds ++ es))) δ2) : EN X c (.BinOp a .Add b pos) ρ δ Z :=
  PE.le (pe_op op_cat h (el_any (c := c))) fun σ H Q ⟨ps, g, k⟩ => ⟨ps, g, fun p vs ds δ1 H1 hb x1 np hp hr => by
    have g1 := g.ext x1
    refine ⟨_, _, _, hb, ps, g1, fun p2 vs2 es δ2 H2 ⟨hsz, hz⟩ x2 np2 hp2 hr2 => ?_⟩
    have hpx := x2.1 p _ np hp
    refine ⟨p, p2, vs, vs2, rfl, rfl, hpx, hp2, by rw [dpAll_len hr, dpAll_len hr2]; exact hsz, fun q hq => ?_⟩
    obtain ⟨n0, xx, o⟩ := own_new g (x1.trans x2) hq (dpAll_app (dpAll_mono (g1.same x2) hr) hr2)
    exact k q _ δ2 _ hz n0 xx o⟩
end
end Dl
/-! part dl28 -/
set_option Elab.async false
set_option linter.all false
set_option maxRecDepth 100000
set_option maxHeartbeats 4000000
set_option autoImplicit false
/-! Dl28: a list handed on to be changed; the draws begin. -/
namespace Dl
open PySem PySem.Spec PyProof.Rows L2
section
variable {X : Cx} {c : Cc} {ρ : En} {δ : List Int} {e : Expr} {x : Str} {pos pos' : Pos} {sts : List Stmt}
/-- a list of ours, to be handed on -/
theorem ss_fl (i : Nat) {ds : List PyData} {Z : Ot → Prop} (e : ρ[i]? = some (some (.ow (.d (.list ds))))) (h : SS X c sts (ρ.set i (some (.v (.fl ds)))) δ Z) : SS X c sts ρ δ Z :=
  PSs.le h fun D σ H ⟨ps, g, k⟩ => by
    obtain ⟨p, hp, hin, npd, vs, hl, hds⟩ := g.own e
    have hown := g.sl i _ e
    have g0 := g.forget i
    let ps' := ps.filter fun a => decide (a ≠ p)
    have sub : ∀ a ∈ ps', a ∈ ps := fun a ha => (List.mem_filter.mp ha).1
    have np : p ∉ c.xs ++ ps' := fun z => by
      rcases List.mem_append.mp z with z | z
      · exact g.apart p z hin
      · exact of_decide_eq_true (List.mem_filter.mp z).2 rfl
    have sm : Same (cut H (c.xs ++ ps)) (cut H (c.xs ++ ps')) := cut_same (fun _ _ _ q => q) fun a ha => .inl (by
      rcases List.mem_append.mp ha with z | z
      · exact List.mem_append_left _ z
      · exact List.mem_append_right _ (sub a z))
    have gf : Gd (bx X) c ps' (ρ.set i none) δ σ H := by
      refine ⟨fun a ha => g.live a ?_, fun a h1 h2 => g.apart a h1 (sub a h2), fun q eq => ⟨List.mem_filter.mpr ⟨(g.dr q eq).1, decide_eq_true fun z => npd (by rw [← z]; exact eq)⟩, (g.dr q eq).2⟩, g0.len, fun j s es => ?_, g0.dj⟩
      · rcases List.mem_append.mp ha with z | z
        · exact List.mem_append_left _ z
        · exact List.mem_append_right _ (sub a z)
      · obtain ⟨v, hv, r, q⟩ := g0.sl j s es
        refine ⟨v, hv, ?_, ?_⟩
        · cases s with
          | v w => exact rep_mono sm r
          | ow w =>
            obtain ⟨p', e1, n1, o1⟩ := r
            exact ⟨p', e1, n1, own_mono sm rfl o1⟩
          | dr => exact r
        · cases s with
          | ow w =>
            intro p' e1
            refine List.mem_filter.mpr ⟨q p' e1, decide_eq_true fun z => ?_⟩
            have hij : i ≠ j := fun z => by
              subst z
              exact nomatch (get_set_self es)
            rw [List.getElem?_set_ne hij] at es
            subst z
            subst e1
            exact g.dj i j _ _ _ hij e es hp hv
          | _ => trivial
    have gz := gf.put (w := .fl ds) (v := .ref p) ⟨p, vs, rfl, by rw [cut_out np]; exact hl, dpAll_mono sm hds⟩ i
    rw [List.set_set] at gz
    have hset : σ.set i (some (.ref p)) = σ := by
      refine List.ext_getElem? fun k => ?_
      by_cases hk : i = k
      · subst hk
        rw [List.getElem?_set_self (List.getElem?_eq_some_iff.mp hp).1, hp]
      · rw [List.getElem?_set_ne hk]
    rw [hset] at gz
    obtain ⟨k1, k2, k3, k4⟩ := k
    have st : Stp ps H ps' H := ⟨fun _ _ _ q => q, fun a ha => .inl (sub a ha)⟩
    exact ⟨ps', gz, fun ρ2 δ2 σ2 H2 ps2 hz g2 s2 => k1 ρ2 δ2 σ2 H2 ps2 hz g2 (st.trans s2), fun v w δ2 H2 ps2 hz s2 hd r => k2 v w δ2 H2 ps2 hz (st.trans s2) hd r,
      fun ρ2 δ2 σ2 H2 ps2 hz g2 s2 => k3 ρ2 δ2 σ2 H2 ps2 hz g2 (st.trans s2), fun ρ2 δ2 σ2 H2 ps2 hz g2 s2 => k4 ρ2 δ2 σ2 H2 ps2 hz g2 (st.trans s2)⟩
/-- name = e, e a new list of ints: the draws from now on; nothing else is kept -/
theorem pss_draws (i n : Nat) {R : V → Prop} (h : EE X c e ρ δ fun a _ => ∃ ns : List Int, a = .v (.fl (ns.map .int)) ∧ ∀ p, SS X ⟨some p, []⟩ sts ((List.replicate n none).set i (some .dr)) ns fun o => match o with | .rt w _ => w = .d (.bool true) | _ => False)
    (hn : n = ρ.length) (hin : i < n) (hN : X.N.Nodup) (hi : X.N[i]? = some x := by rfl) (hx : Loc X.env.scope x := by first | exact .inl rfl | exact .inr rfl)
    (hs : swapsWith e (some (.Name x pos')) pos.line X.env = pure false := by rfl) (hf : X.fn x = true ∨ X.env.scope.names.lookup x = some .local := by first | exact .inl rfl | exact .inr rfl) :
    PSs X (.Assign [.Name x pos'] e pos :: sts) (fun D σ H => ∃ ps, Gd (bx X) c ps ρ δ σ H ∧ ∀ H', D.rt (.bl true) H') :=
  PSs.le (pss_cons (ps_set hN hi hx h hs hf) pss_any) fun D σ H ⟨ps, g, k⟩ => ⟨ps, g, fun v a δ1 H1 ⟨ns, ea, hz⟩ x1 r => by
    subst ea
    obtain ⟨p, vs, ev, hp, hr⟩ := r
    have hp1 := (cut_some hp).2
    have evs : vs = ns.map V.int := by
      have gen : ∀ {vs : List V} {ns : List Int}, RpAll X.K (cut H1 (c.xs ++ ps)) vs (ns.map PyData.int) → vs = ns.map V.int := fun {vs ns} q => by
        induction ns generalizing vs with
        | nil => cases q; rfl
        | cons n ns ih =>
          cases q with
          | cons h t =>
            cases h
            rw [ih t]
            rfl
      exact gen hr
    subst evs ev
    have hlen : σ.length = ρ.length := g.len
    have g2 : Gd (bx X) ⟨some p, []⟩ [p] ((List.replicate n none).set i (some .dr)) ns (σ.set i (some (.ref p))) H1 := by
      refine ⟨fun a ha => ?_, fun a ha => (by cases ha), fun q eq => ?_, by rw [List.length_set, List.length_set, List.length_replicate, hlen, hn], fun j s es => ?_, fun j1 j2 x y v _ e1 _ _ _ => ?_⟩
      · have : a = p := by simpa using ha
        rw [this, hp1]
        exact fun z => nomatch z
      · cases eq
        exact ⟨List.mem_singleton.mpr rfl, hp1⟩
      · by_cases hij : i = j
        · subst hij
          cases get_set_self es
          exact ⟨.ref p, by rw [List.getElem?_set_self (by rw [hlen, ← hn]; exact hin)], ⟨p, rfl, rfl⟩, trivial⟩
        · rw [List.getElem?_set_ne hij, List.getElem?_replicate] at es
          split at es <;> cases es
      · by_cases hij : i = j1
        · subst hij
          cases get_set_self e1
        · rw [List.getElem?_set_ne hij, List.getElem?_replicate] at e1
          split at e1 <;> cases e1
    refine ⟨_, hz p, [p], g2, fun _ _ _ _ _ hz => hz.elim, fun v w δ' H' ps' hz _ _ rr => ?_, fun _ _ _ _ _ hz => hz.elim, fun _ _ _ _ _ hz => hz.elim⟩
    have hw : w = .d (.bool true) := hz
    subst hw
    have : v = .bl true := by cases (show Rp X.K _ v (.bool true) from rr); rfl
    rw [this]
    exact k H'⟩
end
end Dl
/-! part emtop -/
set_option Elab.async false
set_option linter.all false
set_option maxRecDepth 100000
/-! EmTop: the text by places. Printed by gen_head.py. -/
namespace Em
open PySem PySem.Spec PyProof.Rows L2
def topS (i : Nat) : Stmt := PySem.Challenge.pw_everymending_k83_whole_fewer_rivals.main.body.getD i (.Pass ⟨0, 0, 0, 0⟩)
abbrev s_value_key : Stmt := topS 1
abbrev s_row_key : Stmt := topS 2
abbrev s_sorted_rows : Stmt := topS 3
abbrev s_table_of : Stmt := topS 5
abbrev s_key_of : Stmt := topS 6
abbrev s_blocks_of : Stmt := topS 8
abbrev s_bound_values : Stmt := topS 10
abbrev s_put_values : Stmt := topS 11
abbrev s_put_row : Stmt := topS 12
abbrev s_found_values : Stmt := topS 14
abbrev s_valuation_key : Stmt := topS 15
abbrev s_valuations : Stmt := topS 16
abbrev s_facts_used : Stmt := topS 18
abbrev s_support_of : Stmt := topS 19
abbrev s_open_rows : Stmt := topS 20
abbrev s_put_value : Stmt := topS 22
abbrev s_turned_fact : Stmt := topS 23
abbrev s_key_length : Stmt := topS 24
abbrev s_places_of : Stmt := topS 26
abbrev s_place_of : Stmt := topS 27
abbrev s_chosen_blocks : Stmt := topS 28
abbrev s_settled_facts : Stmt := topS 29
abbrev s_all_facts : Stmt := topS 30
abbrev s_leaf_of : Stmt := topS 31
abbrev s_open_place : Stmt := topS 32
abbrev s_grown : Stmt := topS 33
abbrev s_decide : Stmt := topS 34
abbrev s_head_row : Stmt := topS 36
abbrev s_possible_rows : Stmt := topS 37
abbrev s_is_sure : Stmt := topS 38
abbrev s_sure_rows : Stmt := topS 39
abbrev s_law_draws : Stmt := topS 41
abbrev s_law_take : Stmt := topS 42
abbrev s_law_pick : Stmt := topS 43
abbrev s_law_pool : Stmt := topS 44
abbrev s_law_values : Stmt := topS 45
abbrev s_law_value : Stmt := topS 46
abbrev s_law_key : Stmt := topS 47
abbrev s_law_row_key : Stmt := topS 48
abbrev s_law_schema : Stmt := topS 49
abbrev s_law_world : Stmt := topS 50
abbrev s_law_table : Stmt := topS 51
abbrev s_law_key_of : Stmt := topS 52
abbrev s_law_fact_key : Stmt := topS 53
abbrev s_law_store : Stmt := topS 54
abbrev s_law_blocks : Stmt := topS 55
abbrev s_law_term : Stmt := topS 56
abbrev s_law_atom : Stmt := topS 57
abbrev s_law_join : Stmt := topS 58
abbrev s_law_question : Stmt := topS 59
abbrev s_law_facts : Stmt := topS 60
abbrev s_law_asked : Stmt := topS 61
abbrev s_law_lies_in : Stmt := topS 62
abbrev s_law : Stmt := topS 63
abbrev N_value_key : List Str := ["value"]
theorem sc_value_key : FnScope N_value_key ["value"] (defScope s_value_key) := ⟨rfl, rfl, rfl, by decide +kernel, rfl, by decide +kernel, by decide +kernel⟩
abbrev N_row_key : List Str := ["row", "value"]
theorem sc_row_key : FnScope N_row_key ["row"] (defScope s_row_key) := ⟨rfl, rfl, rfl, by decide +kernel, rfl, by decide +kernel, by decide +kernel⟩
abbrev N_sorted_rows : List Str := ["rows", "found", "row"]
theorem sc_sorted_rows : FnScope N_sorted_rows ["rows"] (defScope s_sorted_rows) := ⟨rfl, rfl, rfl, by decide +kernel, rfl, by decide +kernel, by decide +kernel⟩
abbrev N_table_of : List Str := ["schema", "name", "table"]
theorem sc_table_of : FnScope N_table_of ["schema", "name"] (defScope s_table_of) := ⟨rfl, rfl, rfl, by decide +kernel, rfl, by decide +kernel, by decide +kernel⟩
abbrev N_key_of : List Str := ["schema", "fact"]
theorem sc_key_of : FnScope N_key_of ["schema", "fact"] (defScope s_key_of) := ⟨rfl, rfl, rfl, by decide +kernel, rfl, by decide +kernel, by decide +kernel⟩
abbrev N_blocks_of : List Str := ["schema", "store", "groups", "fact", "place", "rows"]
theorem sc_blocks_of : FnScope N_blocks_of ["schema", "store"] (defScope s_blocks_of) := ⟨rfl, rfl, rfl, by decide +kernel, rfl, by decide +kernel, by decide +kernel⟩
abbrev N_bound_values : List Str := ["terms", "row", "values", "grown", "k", "kind", "worth"]
theorem sc_bound_values : FnScope N_bound_values ["terms", "row", "values"] (defScope s_bound_values) := ⟨rfl, rfl, rfl, by decide +kernel, rfl, by decide +kernel, by decide +kernel⟩
abbrev N_put_values : List Str := ["terms", "values", "found", "kind", "worth"]
theorem sc_put_values : FnScope N_put_values ["terms", "values"] (defScope s_put_values) := ⟨rfl, rfl, rfl, by decide +kernel, rfl, by decide +kernel, by decide +kernel⟩
abbrev N_put_row : List Str := ["question", "row", "joins", "head", "body", "values", "name", "terms"]
theorem sc_put_row : FnScope N_put_row ["question", "row"] (defScope s_put_row) := ⟨rfl, rfl, rfl, by decide +kernel, rfl, by decide +kernel, by decide +kernel⟩
abbrev N_found_values : List Str := ["store", "join", "found", "name", "terms", "rows", "known", "row", "grown", "values", "more"]
theorem sc_found_values : FnScope N_found_values ["store", "join"] (defScope s_found_values) := ⟨rfl, rfl, rfl, by decide +kernel, rfl, by decide +kernel, by decide +kernel⟩
abbrev N_valuation_key : List Str := ["valuation", "name", "value"]
theorem sc_valuation_key : FnScope N_valuation_key ["valuation"] (defScope s_valuation_key) := ⟨rfl, rfl, rfl, by decide +kernel, rfl, by decide +kernel, by decide +kernel⟩
abbrev N_valuations : List Str := ["store", "join", "found", "name", "values"]
theorem sc_valuations : FnScope N_valuations ["store", "join"] (defScope s_valuations) := ⟨rfl, rfl, rfl, by decide +kernel, rfl, by decide +kernel, by decide +kernel⟩
abbrev N_facts_used : List Str := ["join", "valuation", "values", "facts", "name", "terms", "row", "kind", "content"]
theorem sc_facts_used : FnScope N_facts_used ["join", "valuation"] (defScope s_facts_used) := ⟨rfl, rfl, rfl, by decide +kernel, rfl, by decide +kernel, by decide +kernel⟩
abbrev N_support_of : List Str := ["schema", "open_blocks", "join", "valuation", "support", "fact", "block"]
theorem sc_support_of : FnScope N_support_of ["schema", "open_blocks", "join", "valuation"] (defScope s_support_of) := ⟨rfl, rfl, rfl, by decide +kernel, rfl, by decide +kernel, by decide +kernel⟩
abbrev N_open_rows : List Str := ["schema", "store", "name", "key", "rows"]
theorem sc_open_rows : FnScope N_open_rows ["schema", "store"] (defScope s_open_rows) := ⟨rfl, rfl, rfl, by decide +kernel, rfl, by decide +kernel, by decide +kernel⟩
abbrev N_put_value : List Str := ["term", "values"]
theorem sc_put_value : FnScope N_put_value ["term", "values"] (defScope s_put_value) := ⟨rfl, rfl, rfl, by decide +kernel, rfl, by decide +kernel, by decide +kernel⟩
abbrev N_turned_fact : List Str := ["atom", "values", "term"]
theorem sc_turned_fact : FnScope N_turned_fact ["atom", "values"] (defScope s_turned_fact) := ⟨rfl, rfl, rfl, by decide +kernel, rfl, by decide +kernel, by decide +kernel⟩
abbrev N_key_length : List Str := ["schema", "name", "known", "key", "rest"]
theorem sc_key_length : FnScope N_key_length ["schema", "name"] (defScope s_key_length) := ⟨rfl, rfl, rfl, by decide +kernel, rfl, by decide +kernel, by decide +kernel⟩
abbrev N_places_of : List Str := ["schema", "store", "name", "key", "rows"]
theorem sc_places_of : FnScope N_places_of ["schema", "store"] (defScope s_places_of) := ⟨rfl, rfl, rfl, by decide +kernel, rfl, by decide +kernel, by decide +kernel⟩
abbrev N_place_of : List Str := ["schema", "fact"]
theorem sc_place_of : FnScope N_place_of ["schema", "fact"] (defScope s_place_of) := ⟨rfl, rfl, rfl, by decide +kernel, rfl, by decide +kernel, by decide +kernel⟩
abbrev N_chosen_blocks : List Str := ["blocks", "choices", "place"]
theorem sc_chosen_blocks : FnScope N_chosen_blocks ["blocks", "choices"] (defScope s_chosen_blocks) := ⟨rfl, rfl, rfl, by decide +kernel, rfl, by decide +kernel, by decide +kernel⟩
abbrev N_settled_facts : List Str := ["blocks", "place"]
theorem sc_settled_facts : FnScope N_settled_facts ["blocks"] (defScope s_settled_facts) := ⟨rfl, rfl, rfl, by decide +kernel, rfl, by decide +kernel, by decide +kernel⟩
abbrev N_all_facts : List Str := ["blocks", "place", "row"]
theorem sc_all_facts : FnScope N_all_facts ["blocks"] (defScope s_all_facts) := ⟨rfl, rfl, rfl, by decide +kernel, rfl, by decide +kernel, by decide +kernel⟩
abbrev N_leaf_of : List Str := ["blocks", "question", "facts", "index", "join", "found"]
theorem sc_leaf_of : FnScope N_leaf_of ["blocks", "question"] (defScope s_leaf_of) := ⟨rfl, rfl, rfl, by decide +kernel, rfl, by decide +kernel, by decide +kernel⟩
abbrev N_open_place : List Str := ["schema", "blocks", "question", "facts", "join", "valuation", "atom", "place"]
theorem sc_open_place : FnScope N_open_place ["schema", "blocks", "question"] (defScope s_open_place) := ⟨rfl, rfl, rfl, by decide +kernel, rfl, by decide +kernel, by decide +kernel⟩
abbrev N_grown : List Str := ["schema", "blocks", "question", "leaf", "place", "known", "branches", "row", "verdict", "found"]
theorem sc_grown : FnScope N_grown ["schema", "blocks", "question"] (defScope s_grown) := ⟨rfl, rfl, rfl, by decide +kernel, rfl, by decide +kernel, by decide +kernel⟩
abbrev N_decide : List Str := ["schema", "store", "question"]
theorem sc_decide : FnScope N_decide ["schema", "store", "question"] (defScope s_decide) := ⟨rfl, rfl, rfl, by decide +kernel, rfl, by decide +kernel, by decide +kernel⟩
abbrev N_head_row : List Str := ["join", "valuation", "values", "kind", "content"]
theorem sc_head_row : FnScope N_head_row ["join", "valuation"] (defScope s_head_row) := ⟨rfl, rfl, rfl, by decide +kernel, rfl, by decide +kernel, by decide +kernel⟩
abbrev N_possible_rows : List Str := ["schema", "store", "question", "blocks", "rows", "join", "valuation"]
theorem sc_possible_rows : FnScope N_possible_rows ["schema", "store", "question"] (defScope s_possible_rows) := ⟨rfl, rfl, rfl, by decide +kernel, rfl, by decide +kernel, by decide +kernel⟩
abbrev N_is_sure : List Str := ["schema", "store", "question", "row"]
theorem sc_is_sure : FnScope N_is_sure ["schema", "store", "question", "row"] (defScope s_is_sure) := ⟨rfl, rfl, rfl, by decide +kernel, rfl, by decide +kernel, by decide +kernel⟩
abbrev N_sure_rows : List Str := ["schema", "store", "question", "rows", "row"]
theorem sc_sure_rows : FnScope N_sure_rows ["schema", "store", "question"] (defScope s_sure_rows) := ⟨rfl, rfl, rfl, by decide +kernel, rfl, by decide +kernel, by decide +kernel⟩
abbrev N__law_draws : List Str := ["_law_script", "_law_many", "_law_cells", "_law_cell", "_law_rest", "_law_draws_here", "_law_k", "_law_at", "_law_mixed"]
theorem sc__law_draws : FnScope N__law_draws ["_law_script", "_law_many"] (defScope s_law_draws) := ⟨rfl, rfl, rfl, by decide +kernel, rfl, by decide +kernel, by decide +kernel⟩
abbrev N__law_take : List Str := ["_law_draws_here", "_law_many"]
theorem sc__law_take : FnScope N__law_take ["_law_draws_here", "_law_many"] (defScope s_law_take) := ⟨rfl, rfl, rfl, by decide +kernel, rfl, by decide +kernel, by decide +kernel⟩
abbrev N__law_pick : List Str := ["_law_draws_here", "_law_row"]
theorem sc__law_pick : FnScope N__law_pick ["_law_draws_here", "_law_row"] (defScope s_law_pick) := ⟨rfl, rfl, rfl, by decide +kernel, rfl, by decide +kernel, by decide +kernel⟩
abbrev N__law_pool : List Str := ["_law_draws_here", "_law_many", "_law_pool_here", "_law_k", "_law_letters", "_law_j", "_law_word"]
theorem sc__law_pool : FnScope N__law_pool ["_law_draws_here", "_law_many"] (defScope s_law_pool) := ⟨rfl, rfl, rfl, by decide +kernel, rfl, by decide +kernel, by decide +kernel⟩
abbrev N__law_values : List Str := ["_law_draws_here", "_law_words", "_law_low", "_law_values_here"]
theorem sc__law_values : FnScope N__law_values ["_law_draws_here", "_law_words"] (defScope s_law_values) := ⟨rfl, rfl, rfl, by decide +kernel, rfl, by decide +kernel, by decide +kernel⟩
abbrev N__law_value : List Str := ["_law_draws_here", "_law_values_here"]
theorem sc__law_value : FnScope N__law_value ["_law_draws_here", "_law_values_here"] (defScope s_law_value) := ⟨rfl, rfl, rfl, by decide +kernel, rfl, by decide +kernel, by decide +kernel⟩
abbrev N__law_key : List Str := ["_law_value_here"]
theorem sc__law_key : FnScope N__law_key ["_law_value_here"] (defScope s_law_key) := ⟨rfl, rfl, rfl, by decide +kernel, rfl, by decide +kernel, by decide +kernel⟩
abbrev N__law_row_key : List Str := ["_law_row", "_law_value_here"]
theorem sc__law_row_key : FnScope N__law_row_key ["_law_row"] (defScope s_law_row_key) := ⟨rfl, rfl, rfl, by decide +kernel, rfl, by decide +kernel, by decide +kernel⟩
abbrev N__law_schema : List Str := ["_law_draws_here", "_law_names", "_law_found", "_law_name", "_law_key_here", "_law_rest"]
theorem sc__law_schema : FnScope N__law_schema ["_law_draws_here", "_law_names"] (defScope s_law_schema) := ⟨rfl, rfl, rfl, by decide +kernel, rfl, by decide +kernel, by decide +kernel⟩
abbrev N__law_world : List Str := ["_law_draws_here", "_law_pool_here", "_law_many"]
theorem sc__law_world : FnScope N__law_world ["_law_draws_here"] (defScope s_law_world) := ⟨rfl, rfl, rfl, by decide +kernel, rfl, by decide +kernel, by decide +kernel⟩
abbrev N__law_table : List Str := ["_law_schema_here", "_law_name", "_law_table_here"]
theorem sc__law_table : FnScope N__law_table ["_law_schema_here", "_law_name"] (defScope s_law_table) := ⟨rfl, rfl, rfl, by decide +kernel, rfl, by decide +kernel, by decide +kernel⟩
abbrev N__law_key_of : List Str := ["_law_schema_here", "_law_fact"]
theorem sc__law_key_of : FnScope N__law_key_of ["_law_schema_here", "_law_fact"] (defScope s_law_key_of) := ⟨rfl, rfl, rfl, by decide +kernel, rfl, by decide +kernel, by decide +kernel⟩
abbrev N__law_fact_key : List Str := ["_law_fact"]
theorem sc__law_fact_key : FnScope N__law_fact_key ["_law_fact"] (defScope s_law_fact_key) := ⟨rfl, rfl, rfl, by decide +kernel, rfl, by decide +kernel, by decide +kernel⟩
abbrev N__law_store : List Str := ["_law_facts_here", "_law_found", "_law_fact"]
theorem sc__law_store : FnScope N__law_store ["_law_facts_here"] (defScope s_law_store) := ⟨rfl, rfl, rfl, by decide +kernel, rfl, by decide +kernel, by decide +kernel⟩
abbrev N__law_blocks : List Str := ["_law_schema_here", "_law_store_here", "_law_found", "_law_fact", "_law_key_here"]
theorem sc__law_blocks : FnScope N__law_blocks ["_law_schema_here", "_law_store_here"] (defScope s_law_blocks) := ⟨rfl, rfl, rfl, by decide +kernel, rfl, by decide +kernel, by decide +kernel⟩
abbrev N__law_term : List Str := ["_law_draws_here", "_law_world_here"]
theorem sc__law_term : FnScope N__law_term ["_law_draws_here", "_law_world_here"] (defScope s_law_term) := ⟨rfl, rfl, rfl, by decide +kernel, rfl, by decide +kernel, by decide +kernel⟩
abbrev N__law_atom : List Str := ["_law_draws_here", "_law_world_here", "_law_table_here", "_law_k"]
theorem sc__law_atom : FnScope N__law_atom ["_law_draws_here", "_law_world_here", "_law_table_here"] (defScope s_law_atom) := ⟨rfl, rfl, rfl, by decide +kernel, rfl, by decide +kernel, by decide +kernel⟩
abbrev N__law_join : List Str := ["_law_draws_here", "_law_world_here", "_law_width", "_law_simple", "_law_tables", "_law_body", "_law_k", "_law_at", "_law_terms", "_law_atom_here", "_law_term_here"]
theorem sc__law_join : FnScope N__law_join ["_law_draws_here", "_law_world_here", "_law_width", "_law_simple"] (defScope s_law_join) := ⟨rfl, rfl, rfl, by decide +kernel, rfl, by decide +kernel, by decide +kernel⟩
abbrev N__law_question : List Str := ["_law_draws_here", "_law_world_here", "_law_width", "_law_many", "_law_k"]
theorem sc__law_question : FnScope N__law_question ["_law_draws_here", "_law_world_here", "_law_width"] (defScope s_law_question) := ⟨rfl, rfl, rfl, by decide +kernel, rfl, by decide +kernel, by decide +kernel⟩
abbrev N__law_facts : List Str := ["_law_draws_here", "_law_world_here", "_law_joins", "_law_many", "_law_atoms", "_law_join_here", "_law_facts_here", "_law_k", "_law_table_here", "_law_row", "_law_j", "_law_atom_here", "_law_term_here", "_law_alike", "_law_fact"]
theorem sc__law_facts : FnScope N__law_facts ["_law_draws_here", "_law_world_here", "_law_joins", "_law_many"] (defScope s_law_facts) := ⟨rfl, rfl, rfl, by decide +kernel, rfl, by decide +kernel, by decide +kernel⟩
abbrev N__law_asked : List Str := ["_law_draws_here", "_law_world_here", "_law_question_here"]
theorem sc__law_asked : FnScope N__law_asked ["_law_draws_here", "_law_world_here"] (defScope s_law_asked) := ⟨rfl, rfl, rfl, by decide +kernel, rfl, by decide +kernel, by decide +kernel⟩
abbrev N__law_lies_in : List Str := ["_law_rows", "_law_others", "_law_row"]
theorem sc__law_lies_in : FnScope N__law_lies_in ["_law_rows", "_law_others"] (defScope s_law_lies_in) := ⟨rfl, rfl, rfl, by decide +kernel, rfl, by decide +kernel, by decide +kernel⟩
abbrev N_law : List Str := ["_law_script", "_law_draws_here", "_law_world_here", "_law_question_here", "_law_store_here", "_law_facts_here", "_law_block", "_law_kept", "_law_k", "_law_fewer", "_law_sure", "_law_possible", "_law_more"]
theorem sc_law : FnScope N_law ["_law_script"] (defScope s_law) := ⟨rfl, rfl, rfl, by decide +kernel, rfl, by decide +kernel, by decide +kernel⟩
/-- the def st stands under its name -/
def Stands (K : PySem.W.Frag) (mg : Str → Option Value) (x : Str) (st : Stmt) : Prop := ∃ f fd, Fun K x x st f fd ∧ mg x = some (.ref f)
theorem stands_mk {K : PySem.W.Frag} {h : Heap} {mg : Str → Option Value} {x : Str} {st : Stmt} {f : Addr} {oc : Value} {od an : Option Addr} {osl : Array (Option Value)} {kV doc pm cdv ct : Value} (X : K.In h) (G : h.Ns mainGlobals mg)
    (a : PySem.W.nsIn K mainGlobals x = some (some (.ref f))) (l : K.lookup f = some ⟨oc, od, .func (PySem.W.fnOf x x (defArgs st) (defBody st) (defScope st) .none kV doc pm an cdv ct), osl⟩)
    (c : PySem.W.codeIn K cdv x = true) (k : PySem.W.keepIn K (.ref f) = true) : Stands K mg x st :=
  ⟨f, _, fun_mk l c k, PySem.W.mg_of X G a⟩
structure Facts (K : PySem.W.Frag) (mg : Str → Option Value) : Prop where
  d_value_key : Stands K mg "value_key" s_value_key
  d_row_key : Stands K mg "row_key" s_row_key
  d_sorted_rows : Stands K mg "sorted_rows" s_sorted_rows
  d_table_of : Stands K mg "table_of" s_table_of
  d_key_of : Stands K mg "key_of" s_key_of
  d_blocks_of : Stands K mg "blocks_of" s_blocks_of
  d_bound_values : Stands K mg "bound_values" s_bound_values
  d_put_values : Stands K mg "put_values" s_put_values
  d_put_row : Stands K mg "put_row" s_put_row
  d_found_values : Stands K mg "found_values" s_found_values
  d_valuation_key : Stands K mg "valuation_key" s_valuation_key
  d_valuations : Stands K mg "valuations" s_valuations
  d_facts_used : Stands K mg "facts_used" s_facts_used
  d_support_of : Stands K mg "support_of" s_support_of
  d_open_rows : Stands K mg "open_rows" s_open_rows
  d_put_value : Stands K mg "put_value" s_put_value
  d_turned_fact : Stands K mg "turned_fact" s_turned_fact
  d_key_length : Stands K mg "key_length" s_key_length
  d_places_of : Stands K mg "places_of" s_places_of
  d_place_of : Stands K mg "place_of" s_place_of
  d_chosen_blocks : Stands K mg "chosen_blocks" s_chosen_blocks
  d_settled_facts : Stands K mg "settled_facts" s_settled_facts
  d_all_facts : Stands K mg "all_facts" s_all_facts
  d_leaf_of : Stands K mg "leaf_of" s_leaf_of
  d_open_place : Stands K mg "open_place" s_open_place
  d_grown : Stands K mg "grown" s_grown
  d_decide : Stands K mg "decide" s_decide
  d_head_row : Stands K mg "head_row" s_head_row
  d_possible_rows : Stands K mg "possible_rows" s_possible_rows
  d_is_sure : Stands K mg "is_sure" s_is_sure
  d_sure_rows : Stands K mg "sure_rows" s_sure_rows
  d__law_draws : Stands K mg "_law_draws" s_law_draws
  d__law_take : Stands K mg "_law_take" s_law_take
  d__law_pick : Stands K mg "_law_pick" s_law_pick
  d__law_pool : Stands K mg "_law_pool" s_law_pool
  d__law_values : Stands K mg "_law_values" s_law_values
  d__law_value : Stands K mg "_law_value" s_law_value
  d__law_key : Stands K mg "_law_key" s_law_key
  d__law_row_key : Stands K mg "_law_row_key" s_law_row_key
  d__law_schema : Stands K mg "_law_schema" s_law_schema
  d__law_world : Stands K mg "_law_world" s_law_world
  d__law_table : Stands K mg "_law_table" s_law_table
  d__law_key_of : Stands K mg "_law_key_of" s_law_key_of
  d__law_fact_key : Stands K mg "_law_fact_key" s_law_fact_key
  d__law_store : Stands K mg "_law_store" s_law_store
  d__law_blocks : Stands K mg "_law_blocks" s_law_blocks
  d__law_term : Stands K mg "_law_term" s_law_term
  d__law_atom : Stands K mg "_law_atom" s_law_atom
  d__law_join : Stands K mg "_law_join" s_law_join
  d__law_question : Stands K mg "_law_question" s_law_question
  d__law_facts : Stands K mg "_law_facts" s_law_facts
  d__law_asked : Stands K mg "_law_asked" s_law_asked
  d__law_lies_in : Stands K mg "_law_lies_in" s_law_lies_in
  d_law : Stands K mg "law" s_law
  z_len : mg "len" = none
  z_range : mg "range" = none
  z_tuple : mg "tuple" = none
  z_list : mg "list" = none
  z_sorted : mg "sorted" = none
  z_isinstance : mg "isinstance" = none
  z_dict : mg "dict" = none
  z_int : mg "int" = none
  z_str : mg "str" = none
  z_enumerate : mg "enumerate" = none
end Em
/-! part em0 -/
set_option Elab.async false
set_option linter.all false
set_option maxRecDepth 100000
set_option maxHeartbeats 4000000
set_option autoImplicit false
/-! Em0: what the text's data are. -/
namespace Em
open PySem PySem.Spec PyProof.Rows L2 Dl
open PySem.W (Datum Tup)
inductive Vl where
  | i (n : Int) | s (x : Str)
  deriving DecidableEq
def Vl.d : Vl → PyData
  | .i n => .int n
  | .s x => .str x
instance : Datum Vl where
  toD := Vl.d
  plain a := by cases a <;> rfl
  eqv a b := by
    cases a <;> cases b <;> simp only [Vl.d, PyData.eqv, Vl.i.injEq, Vl.s.injEq, reduceCtorEq, decide_false] <;> exact PySem.W.beq_decide _ _
  depth := 0
  depth_le a := by cases a <;> exact Nat.le_refl _
abbrev Row := List Vl
def rowD (r : Row) : PyData := .tuple (r.map Vl.d)
instance : Datum (Tup Vl) := inferInstance
theorem eqv_vl (a b : Vl) : PyData.eqv a.d b.d = decide (a = b) := Datum.eqv a b
theorem ok_vl (a : Vl) : okD a.d := ⟨Datum.plain a, Nat.le_trans (Datum.depth_le a) (by decide)⟩
theorem eqv_row (a b : Row) : PyData.eqv (rowD a) (rowD b) = decide (a = b) :=
  (Datum.eqv (Tup.mk a) (Tup.mk b)).trans (decide_eq_decide.mpr ⟨fun e => by cases e; rfl, fun e => by rw [e]⟩)
theorem ok_row (a : Row) : okD (rowD a) := ⟨Datum.plain (Tup.mk a), Nat.le_trans (Datum.depth_le (Tup.mk a)) (by decide)⟩
abbrev Fact := Str × Row
def faD (f : Fact) : PyData := .tuple [.str f.1, rowD f.2]
theorem eqv_fa (a b : Fact) : PyData.eqv (faD a) (faD b) = decide (a = b) :=
  (Datum.eqv (α := Str × Tup Vl) (a.1, ⟨a.2⟩) (b.1, ⟨b.2⟩)).trans (decide_eq_decide.mpr ⟨fun e => by cases a; cases b; cases e; rfl, fun e => by rw [e]⟩)
theorem ok_fa (a : Fact) : okD (faD a) := ⟨Datum.plain (α := Str × Tup Vl) (a.1, ⟨a.2⟩), Nat.le_trans (Datum.depth_le (α := Str × Tup Vl) (a.1, ⟨a.2⟩)) (by decide)⟩
def stD (s : List Fact) : PyData := .tuple (s.map faD)
inductive Tm where
  | v (a : Vl) | x (n : Str)
  deriving DecidableEq
def Tm.d : Tm → PyData
  | .v a => .tuple [.str "value", a.d]
  | .x n => .tuple [.str "var", .str n]
theorem str_eqv (a b : Str) : PyData.eqv (.str a) (.str b) = decide (a = b) := Datum.eqv a b
theorem int_eqv (a b : Int) : PyData.eqv (.int a) (.int b) = decide (a = b) := Datum.eqv a b
theorem pair_eqv (a b c d : PyData) : PyData.eqv (.tuple [a, b]) (.tuple [c, d]) = (PyData.eqv a c && (PyData.eqv b d && true)) := by simp only [PyData.eqv, PyData.eqvAll]
theorem kinds_ne : decide (("value" : Str) = "var") = false := by decide
theorem kinds_ne' : decide (("var" : Str) = "value") = false := by decide
theorem eqv_tm (a b : Tm) : PyData.eqv a.d b.d = decide (a = b) := by
  cases a with
  | v a => cases b with
    | v b => exact (Datum.eqv (α := Str × Vl) ("value", a) ("value", b)).trans (decide_eq_decide.mpr ⟨fun e => by cases e; rfl, fun e => by cases e; rfl⟩)
    | x b => unfold Tm.d; rw [pair_eqv, str_eqv, kinds_ne, Bool.false_and]; exact (decide_eq_false fun e => by cases e).symm
  | x a => cases b with
    | v b => unfold Tm.d; rw [pair_eqv, str_eqv, kinds_ne', Bool.false_and]; exact (decide_eq_false fun e => by cases e).symm
    | x b => exact (Datum.eqv (α := Str × Str) ("var", a) ("var", b)).trans (decide_eq_decide.mpr ⟨fun e => by cases e; rfl, fun e => by cases e; rfl⟩)
theorem ok_tm (a : Tm) : okD a.d := by
  cases a with
  | v a => exact ⟨Datum.plain (α := Str × Vl) ("value", a), Nat.le_trans (Datum.depth_le (α := Str × Vl) ("value", a)) (by decide)⟩
  | x n => exact ⟨Datum.plain (α := Str × Str) ("var", n), Nat.le_trans (Datum.depth_le (α := Str × Str) ("var", n)) (by decide)⟩
def tmsD (ts : List Tm) : PyData := .tuple (ts.map Tm.d)
abbrev Atom := Str × List Tm
def atD (a : Atom) : PyData := .tuple [.str a.1, tmsD a.2]
abbrev Join := List Tm × List Atom
def bodyD (b : List Atom) : PyData := .tuple (b.map atD)
def jnD (j : Join) : PyData := .tuple [tmsD j.1, bodyD j.2]
abbrev Qn := Int × List Join
def qnD (q : Qn) : PyData := .tuple [.int q.1, .tuple (q.2.map jnD)]
abbrev Tab := Str × Nat × Nat
def tbD (t : Tab) : PyData := .tuple [.str t.1, .int t.2.1, .int t.2.2]
abbrev Sch := List Tab
def scD (s : Sch) : PyData := .tuple (s.map tbD)
abbrev Blok := Str × Row × List Row
def rowsD (l : List Row) : PyData := .tuple (l.map rowD)
def bkD (b : Blok) : PyData := .tuple [.str b.1, rowD b.2.1, rowsD b.2.2]
theorem plain_rows (l : List Row) : PyData.plainAll (l.map rowD) = true := by
  induction l with
  | nil => rfl
  | cons a l ih => rw [List.map_cons, PyData.plainAll, (ok_row a).1, ih]; rfl
theorem plain_facts (l : List Fact) : PyData.plainAll (l.map faD) = true := by
  induction l with
  | nil => rfl
  | cons a l ih => rw [List.map_cons, PyData.plainAll, (ok_fa a).1, ih]; rfl
theorem any_of {α : Type} [DecidableEq α] {enc : α → PyData} (h : ∀ a b, PyData.eqv (enc a) (enc b) = decide (a = b)) (l : List α) (x : α) : ((l.map enc).any fun z => PyData.eqv z (enc x)) = decide (x ∈ l) := by
  rw [List.any_map, Bool.eq_iff_iff, List.any_eq_true, decide_eq_true_eq]
  constructor
  · rintro ⟨y, hy, e⟩
    have e' : PyData.eqv (enc y) (enc x) = true := e
    rw [h, decide_eq_true_eq] at e'
    exact e' ▸ hy
  · exact fun hx => ⟨x, hx, by show PyData.eqv (enc x) (enc x) = true; rw [h]; exact decide_eq_true rfl⟩
theorem at_map {α : Type} {enc : α → PyData} {l : List α} {i : Nat} {a : α} (h : l[i]? = some a) : atI (l.map enc) (i : Int) = some (enc a) := by
  have hi := (List.getElem?_eq_some_iff.mp h).1
  unfold atI
  have : ixN (l.map enc).length (i : Int) = some i := by
    rw [List.length_map]
    unfold ixN
    simp [hi]
  rw [this]
  show (l.map enc)[i]? = _
  rw [List.getElem?_map, h]
  rfl
/-- lengths that we meet -/
abbrev small (n : Nat) : Prop := n < 5000
theorem small_line {n : Nat} (h : small n) : n < sizeLine := Nat.lt_of_lt_of_le h (by decide)
end Em
/-! part em1 -/
set_option Elab.async false
set_option linter.all false
set_option maxRecDepth 100000
set_option maxHeartbeats 4000000
set_option autoImplicit false
namespace Em
open PySem PySem.Spec PyProof.Rows L2 Dl
theorem ei_tupM {X : Cx} {c : Cc} {tg e : Expr} {ρ : En} {δ : List Int} {α : Type} (enc : α → PyData) (xs : List α) {Z : List IW → List Int → Prop} (h : EE X c e ρ δ fun a δ1 => a = .v (.d (.tuple (xs.map enc))) ∧ Z (xs.map fun x => .one (.d (enc x))) δ1) : EI X c tg e ρ δ Z :=
  ei_tup (ee_imp h fun a δ1 ⟨e, z⟩ => by
    subst e
    show Z ((xs.map enc).map _) δ1
    rw [List.map_map]
    exact z)
theorem ei_listM {X : Cx} {c : Cc} {tg e : Expr} {ρ : En} {δ : List Int} {α : Type} (enc : α → PyData) (xs : List α) {Z : List IW → List Int → Prop} (h : EE X c e ρ δ fun a δ1 => a = .v (.d (.list (xs.map enc))) ∧ Z (xs.map fun x => .one (.d (enc x))) δ1) : EI X c tg e ρ δ Z :=
  ei_list (ee_imp h fun a δ1 ⟨e, z⟩ => by
    subst e
    show Z ((xs.map enc).map _) δ1
    rw [List.map_map]
    exact z)
section
variable {P : Program} {w : World} {K : PySem.W.Frag} {mg : Str → Option Value} {base : Heap}
def vkey : Vl → PyData
  | .s x => .tuple [.int 1, .int 0, .str x]
  | .i n => .tuple [.int 0, .int n, .str ""]
def G_value_key : GD := fun as δ Z => ∃ a : Vl, as = [.v (.d a.d)] ∧ Z (.d (vkey a)) δ
theorem df_value_key (F : Facts K mg) : Df P w K mg base 1 "value_key" 1 G_value_key :=
  df_body F.d_value_key sc_value_key rfl (fun _ _ _ _ _ _ us hl => match us, hl with | [_], _ => rfl) fun f cdv A outer s H E c as δ Z hr hl hG => by
  obtain ⟨a, rfl, hz⟩ := hG
  cases a with
  | s x =>
    refine ss_cons (se_if (et_val (ee_isStr F.z_isinstance F.z_str (ee_var 0 rfl ⟨true, rfl, ?_⟩))))
    exact ss_one (se_ret (ee_tup (ea_cons (ee_int (ea_cons (ee_int (ea_cons (ee_var 0 rfl (ea_nil hz)))))))))
  | i x =>
    refine ss_cons (se_if (et_val (ee_isStr F.z_isinstance F.z_str (ee_var 0 rfl ⟨false, rfl, ?_⟩))))
    exact ss_nil (ss_one (se_ret (ee_tup (ea_cons (ee_int (ea_cons (ee_var 0 rfl (ea_cons (ee_str (ea_nil hz))))))))))
def rkey (r : Row) : PyData := .tuple (r.map vkey)
def G_row_key : GD := fun as δ Z => ∃ r : Row, as = [.v (.d (rowD r))] ∧ small r.length ∧ Z (.d (rkey r)) δ
theorem df_row_key (F : Facts K mg) : Df P w K mg base 2 "row_key" 1 G_row_key :=
  df_body F.d_row_key sc_row_key rfl (fun _ _ _ _ _ _ us hl => match us, hl with | [_], _ => rfl) fun f cdv A outer s H E c as δ Z hr hl hG => by
  obtain ⟨r, rfl, hs, hz⟩ := hG
  refine ss_one (se_ret (ee_tuple F.z_tuple (ee_new (en_lc (eic_of (ei_tupM Vl.d r (ee_var 0 rfl ⟨rfl, ?_⟩))) sc_row_key.nd (blkOk_by (N := N_row_key) (sc := defScope s_row_key) (own := [("value", 1)]) (by decide +kernel))))))
  refine lcz_map (f := vkey) (small_line hs) (fun a ha => ⟨_, fun s H C cl fp => eg_name 1 rfl sc_row_key.nd, fun s H C cl fp => ?_⟩) ⟨rfl, hz⟩
  exact ee_callP (df_value_key F) hr (ea_one (ee_var 1 rfl ⟨rfl, a, rfl, rfl, rfl⟩))
end
end Em
/-! part em2 -/
set_option Elab.async false
set_option linter.all false
set_option maxRecDepth 100000
set_option maxHeartbeats 4000000
set_option autoImplicit false
namespace Em
open PySem PySem.Spec PyProof.Rows L2 Dl
def loopO (I : En → List Int → Prop) (Z : Ot → Prop) : Ot → Prop
  | .nx ρ' δ' => I ρ' δ'
  | .ct ρ' δ' => I ρ' δ'
  | .bk ρ' δ' => Z (.nx ρ' δ')
  | .rt w δ' => Z (.rt w δ')
theorem se_forM {X : Cx} {c : Cc} {ρ : En} {δ : List Int} {pos : Pos} {tg iter : Expr} {body : List Stmt} {Z : Ot → Prop} {α : Type} (xs : List α) (enc : α → IW) (I : Nat → En → List Int → Prop)
    (h : EI X c tg iter ρ δ fun ys δ1 => ys = xs.map enc ∧ I 0 ρ δ1)
    (step : ∀ (i : Nat) (a : α) (ρi : En) (δi : List Int), xs[i]? = some a → I i ρi δi → ∃ is, EG X c tg (enc a) ρi δi is fun ρ2 => SS X c body ρ2 δi (loopO (I (i + 1)) Z))
    (fin : ∀ ρ' δ', I xs.length ρ' δ' → Z (.nx ρ' δ'))
    (hp : PassesOwn (model X.prog X.w) X.A X.env X.xe := by exact PassesOwn.never) (hc : X.calm = true := by rfl) (hs : ∀ x, foldedSetIterable iter X.env x = pure x := by intro _; rfl) : SE X c (.For tg iter body [] pos) ρ δ Z :=
  se_for (PI.le h fun σ H R ⟨ps, g, k⟩ => ⟨ps, g, fun J ys δ' H' ⟨e, i0⟩ => k J ys δ' H' (by
    subst e
    refine ⟨I, i0, fun i y ρi δi hy hI => ?_, fun ρ' δ' h => fin ρ' δ' (by rw [List.length_map] at h; exact h)⟩
    rw [List.getElem?_map] at hy
    cases q : xs[i]? with
    | none => rw [q] at hy; cases hy
    | some a =>
      rw [q] at hy
      cases hy
      obtain ⟨is, h⟩ := step i a ρi δi q hI
      refine ⟨is, PG.le h fun v σ H Q ⟨ps, g, r, k⟩ => ⟨ps, g, r, fun ρ2 σ2 hz => k ρ2 σ2 (ss_imp hz fun o ho => ?_)⟩⟩
      cases o <;> exact ho)⟩) hp hc hs
theorem eg_imp {X : Cx} {c : Cc} {tg : Expr} {y : IW} {ρ : En} {δ : List Int} {is : List Nat} {Z Z' : En → Prop} (h : EG X c tg y ρ δ is Z) (k : ∀ r, Z r → Z' r) : EG X c tg y ρ δ is Z' :=
  PG.le h fun v σ H Q ⟨ps, g, r, q⟩ => ⟨ps, g, r, fun ρ2 σ2 hz => q ρ2 σ2 (k _ hz)⟩
section
variable {P : Program} {w : World} {K : PySem.W.Frag} {mg : Str → Option Value} {base : Heap}
def tabOf (s : Sch) (n : Str) : Option Tab := s.find? fun t => decide (t.1 = n)
def G_table_of : GD := fun as δ Z => ∃ (s : Sch) (n : Str) (t : Tab), as = [.v (.d (scD s)), .v (.d (.str n))] ∧ small s.length ∧ tabOf s n = some t ∧ Z (.d (tbD t)) δ
theorem df_table_of (F : Facts K mg) : Df P w K mg base 1 "table_of" 2 G_table_of :=
  df_body F.d_table_of sc_table_of rfl (fun _ _ _ _ _ _ us hl => match us, hl with | [_, _], _ => rfl) fun f cdv A outer sh H E c as δ Z hr hl hG => by
  obtain ⟨s, n, t, rfl, hs, hf, hz⟩ := hG
  refine ss_cons (se_forM s (fun t => .one (.d (tbD t))) (fun i ρ' δ' => δ' = δ ∧ (∃ o, ρ' = [some (.v (.d (scD s))), some (.v (.d (.str n))), o]) ∧ ∀ j t', j < i → s[j]? = some t' → t'.1 ≠ n) (ei_tupM tbD s (ee_var 0 rfl ⟨rfl, rfl, rfl, ⟨_, rfl⟩, fun j _ h => absurd h (Nat.not_lt_zero j)⟩)) ?_ ?_)
  · rintro i a ρi δi ha ⟨rfl, ⟨o, rfl⟩, hno⟩
    refine ⟨[2], eg_name 2 ?_ sc_table_of.nd⟩
    refine ss_one (se_if (et_eq hr (ee_ixT (ee_var 2 rfl (ee_int ⟨_, rfl, ee_var 1 rfl ⟨okD_str _, okD_str _, ?_⟩⟩)))))
    rw [str_eqv]
    by_cases q : a.1 = n
    · rw [decide_eq_true q]
      refine ss_one (se_ret (ee_var 2 rfl ?_))
      have : a = t := by
        have hfa : tabOf s n = some a := by
          unfold tabOf
          rw [List.find?_eq_some_iff_getElem]
          have hi := (List.getElem?_eq_some_iff.mp ha).1
          refine ⟨decide_eq_true q, i, hi, (List.getElem?_eq_some_iff.mp ha).2, fun j hj => ?_⟩
          have := hno j s[j] hj (List.getElem?_eq_getElem (Nat.lt_trans hj hi))
          simpa using this
        rw [hfa] at hf
        exact Option.some.inj hf
      subst this
      exact hz
    · rw [decide_eq_false q]
      refine ss_nil ⟨rfl, ⟨_, rfl⟩, fun j t' hj ht => ?_⟩
      rcases Nat.lt_succ_iff_lt_or_eq.mp hj with h | h
      · exact hno j t' h ht
      · subst h
        rw [ha] at ht
        cases ht
        exact q
  · rintro ρ' δ' ⟨rfl, ⟨o, rfl⟩, hno⟩
    have hm := List.mem_of_find?_eq_some hf
    have hq := List.find?_some hf
    obtain ⟨j, hj, e⟩ := List.mem_iff_getElem.mp hm
    exact absurd (of_decide_eq_true hq) (hno j t hj (by rw [List.getElem?_eq_getElem hj, e]))
def keyLen (s : Sch) (n : Str) : Option Nat := (tabOf s n).map (·.2.1)
def G_key_of : GD := fun as δ Z => ∃ (s : Sch) (f : Fact) (k : Nat), as = [.v (.d (scD s)), .v (.d (faD f))] ∧ small s.length ∧ keyLen s f.1 = some k ∧ Z (.d (rowD (f.2.take k))) δ
theorem df_key_of (F : Facts K mg) : Df P w K mg base 2 "key_of" 2 G_key_of :=
  df_body F.d_key_of sc_key_of rfl (fun _ _ _ _ _ _ us hl => match us, hl with | [_, _], _ => rfl) fun f cdv A outer sh H E c as δ Z hr hl hG => by
  obtain ⟨s, f, k, rfl, hs, hk, hz⟩ := hG
  obtain ⟨t, ht, rfl⟩ := Option.map_eq_some_iff.mp hk
  refine ss_one (se_ret (ee_slT_to (ee_ixT (ee_var 1 rfl (ee_int ⟨rowD f.2, rfl, ?_⟩)))))
  refine ee_ixT (ee_callP (df_table_of F) hr (ea_cons (ee_var 0 rfl (ea_one (ee_ixT (ee_var 1 rfl (ee_int ⟨_, rfl, rfl, s, f.1, t, rfl, hs, ht, ?_⟩)))))))
  refine ee_int ⟨.int t.2.1, rfl, t.2.1, rfl, ?_⟩
  rw [← List.map_take]
  exact hz
end
end Em
/-! part em3 -/
set_option Elab.async false
set_option linter.all false
set_option maxRecDepth 100000
set_option maxHeartbeats 4000000
set_option autoImplicit false
namespace Em
open PySem PySem.Spec PyProof.Rows L2 Dl
/-! ### what the text computes -/
abbrev Vn := List (Str × Vl)
def vnD (v : Vn) : List (Str × PyData) := v.map fun p => (p.1, p.2.d)
def getV (v : Vn) (k : Str) : Option Vl := (v.find? fun p => decide (p.1 = k)).map (·.2)
theorem getS_vn : ∀ (v : Vn) (k : Str), getS (vnD v) k = (getV v k).map Vl.d
  | [], _ => rfl
  | p :: v, k => by
    have ih := getS_vn v k
    unfold getS vnD getV at ih ⊢
    rw [List.map_cons, List.find?_cons, List.find?_cons]
    by_cases e : p.1 = k
    · simp [e]
    · simp only [e, decide_false]
      exact ih
def bindTm (v : Vn) : Tm → Vl → Option Vn
  | .v a, b => if a = b then some v else none
  | .x n, b => match getV v n with
    | some a => if a = b then some v else none
    | none => some (v ++ [(n, b)])
def bindRow : List Tm → Row → Vn → Option Vn
  | _, [], v => some v
  | [], _ :: _, _ => none
  | t :: ts, b :: r, v => (bindTm v t b).bind (bindRow ts r)
def resB : Option Vn → Wd
  | some g => .dk (vnD g)
  | none => .d .none
def putTm (v : Vn) : Tm → Tm
  | .v a => .v a
  | .x n => match getV v n with
    | some a => .v a
    | none => .x n
def putAt (v : Vn) (a : Atom) : Atom := (a.1, a.2.map (putTm v))
def putJ (r : Row) (j : Join) : Option Join := (bindRow j.1 r []).map fun v => ([], j.2.map (putAt v))
def putRow (q : Qn) (r : Row) : Qn := (0, q.2.filterMap (putJ r))
theorem bindTm_v (g : Vn) (a b : Vl) : bindTm g (.v a) b = if a = b then some g else none := rfl
theorem bindTm_some {g : Vn} {n : Str} {a : Vl} (b : Vl) (h : getV g n = some a) : bindTm g (.x n) b = if a = b then some g else none := by
  show (match getV g n with | some a => if a = b then some g else none | none => some (g ++ [(n, b)])) = _
  rw [h]
theorem bindTm_none {g : Vn} {n : Str} (b : Vl) (h : getV g n = none) : bindTm g (.x n) b = some (g ++ [(n, b)]) := by
  show (match getV g n with | some a => if a = b then some g else none | none => some (g ++ [(n, b)])) = _
  rw [h]
theorem bindTm_len {v g : Vn} {t : Tm} {b : Vl} (h : bindTm v t b = some g) : g.length ≤ v.length + 1 := by
  cases t with
  | v a =>
    rw [bindTm_v] at h
    split at h
    · cases Option.some.inj h; omega
    · exact nomatch h
  | x n =>
    cases q : getV v n with
    | some a =>
      rw [bindTm_some b q] at h
      split at h
      · cases Option.some.inj h; omega
      · exact nomatch h
    | none =>
      rw [bindTm_none b q] at h
      cases Option.some.inj h
      simp
section
variable {P : Program} {w : World} {K : PySem.W.Frag} {mg : Str → Option Value} {base : Heap}
def G_bound_values : GD := fun as δ Z => ∃ (ts : List Tm) (r : Row) (v : Vn), as = [.v (.d (tmsD ts)), .v (.d (rowD r)), .v (.dk (vnD v))] ∧ r.length ≤ ts.length ∧ small (v.length + r.length) ∧ Z (resB (bindRow ts r v)) δ
theorem df_bound_values (F : Facts K mg) : Df P w K mg base 1 "bound_values" 3 G_bound_values :=
  df_body F.d_bound_values sc_bound_values rfl (fun _ _ _ _ _ _ us hl => match us, hl with | [_, _, _], _ => rfl) fun f cdv A outer sh H E c as δ Z hr hl hG => by
  obtain ⟨ts, r, v, rfl, hle, hs, hz⟩ := hG
  refine ss_cons (se_setN 3 (en_dictD F.z_dict (ee_var 2 rfl ?_)) sc_bound_values.nd)
  refine ss_cons (se_forM (List.range r.length) (fun i => .one (.d (.int (i : Nat))))
    (fun i ρ' δ' => δ' = δ ∧ ∃ g o4 o5 o6, ρ' = [some (.v (.d (tmsD ts))), some (.v (.d (rowD r))), some (.v (.dk (vnD v))), some (.ow (.dk (vnD g))), o4, o5, o6] ∧ g.length ≤ v.length + i ∧ bindRow (ts.drop i) (r.drop i) g = bindRow ts r v)
    (ei_range F.z_range (ee_len F.z_len (ee_var 1 rfl ⟨r.length, ?_, ?_⟩))) ?_ ?_)
  · exact congrArg some (List.length_map ..)
  · exact ⟨Int.natCast_nonneg _, by have : small r.length := Nat.lt_of_le_of_lt (Nat.le_add_left _ _) hs; have h2 : r.length < 5000 := this; omega, rfl, rfl, v, _, _, _, rfl, Nat.le_refl _, rfl⟩
  · rintro i j ρi δi hj ⟨rfl, g, o4, o5, o6, rfl, hg, hb⟩
    have hi : i < r.length := by
      have := (List.getElem?_eq_some_iff.mp hj).1
      rwa [List.length_range] at this
    have ej : j = i := by
      rw [List.getElem?_range hi] at hj
      exact (Option.some.inj hj).symm
    subst ej
    have hit : j < ts.length := Nat.lt_of_lt_of_le hi hle
    have hr1 : r[j]? = some r[j] := List.getElem?_eq_getElem hi
    have ht1 : ts[j]? = some ts[j] := List.getElem?_eq_getElem hit
    generalize er : r[j] = b at hr1
    generalize et : ts[j] = t at ht1
    have hd1 : r.drop j = b :: r.drop (j + 1) := by rw [← er]; exact List.drop_eq_getElem_cons hi
    have hd2 : ts.drop j = t :: ts.drop (j + 1) := by rw [← et]; exact List.drop_eq_getElem_cons hit
    rw [hd1, hd2, bindRow] at hb
    have hsm : (vnD g).length < sizeLine := by
      have : small (v.length + r.length) := hs
      have h2 : v.length + r.length < 5000 := this
      unfold vnD
      rw [List.length_map]
      exact small_line (show g.length < 5000 by omega)
    refine ⟨[4], eg_name 4 ?_ sc_bound_values.nd⟩
    cases t with
    | v a =>
      refine ss_cons (se_asg (ee_ixT (ee_var 0 rfl (ee_var 4 rfl ⟨_, at_map ht1, [5, 6], eg_tup (ws := [.d (.str "value"), .d a.d]) rfl (egs_cons (eg_name 5 (egs_cons (eg_name 6 (egs_nil ?_) sc_bound_values.nd)) sc_bound_values.nd))⟩))))
      refine ss_one (se_if (et_eq hr (ee_var 5 rfl (ee_str ⟨okD_str _, okD_str _, ?_⟩))))
      rw [str_eqv]
      refine ss_one (se_if (et_ne hr (ee_var 6 rfl (ee_ixT (ee_var 1 rfl (ee_var 4 rfl ⟨_, at_map hr1, ok_vl a, ok_vl b, ?_⟩))))))
      rw [eqv_vl]
      rw [bindTm_v] at hb
      by_cases e : a = b
      · rw [if_pos e] at hb
        rw [decide_eq_true e]
        exact ss_nil ⟨rfl, g, _, _, _, rfl, Nat.le_succ_of_le hg, hb⟩
      · rw [if_neg e] at hb
        rw [decide_eq_false e]
        refine ss_one (se_ret (ee_non ?_))
        rw [← hb] at hz
        exact hz
    | x n =>
      refine ss_cons (se_asg (ee_ixT (ee_var 0 rfl (ee_var 4 rfl ⟨_, at_map ht1, [5, 6], eg_tup (ws := [.d (.str "var"), .d (.str n)]) rfl (egs_cons (eg_name 5 (egs_cons (eg_name 6 (egs_nil ?_) sc_bound_values.nd)) sc_bound_values.nd))⟩))))
      refine ss_one (se_if (et_eq hr (ee_var 5 rfl (ee_str ⟨okD_str _, okD_str _, ?_⟩))))
      rw [str_eqv]
      refine ss_one (se_ifM (emt_ne hr (em_setdDk 3 rfl (ee_var 6 rfl (ee_ixT (ee_var 1 rfl (ee_var 4 rfl ⟨_, at_map hr1, hsm, fun d' hd' => ?_, fun hn => ?_⟩)))))))
      · rw [getS_vn] at hd'
        obtain ⟨a, ha, rfl⟩ := Option.map_eq_some_iff.mp hd'
        refine ee_ixT (ee_var 1 rfl (ee_var 4 rfl ⟨_, at_map hr1, ok_vl a, ok_vl b, ?_⟩))
        rw [eqv_vl]
        rw [bindTm_some b ha] at hb
        by_cases e : a = b
        · rw [if_pos e] at hb
          rw [decide_eq_true e]
          exact ss_nil ⟨rfl, g, _, _, _, rfl, Nat.le_succ_of_le hg, hb⟩
        · rw [if_neg e] at hb
          rw [decide_eq_false e]
          refine ss_one (se_ret (ee_non ?_))
          rw [← hb] at hz
          exact hz
      · rw [getS_vn, Option.map_eq_none_iff] at hn
        refine ee_ixT (ee_var 1 rfl (ee_var 4 rfl ⟨_, at_map hr1, ok_vl b, ok_vl b, ?_⟩))
        rw [eqv_vl, decide_eq_true rfl]
        rw [bindTm_none b hn] at hb
        have ev : vnD (g ++ [(n, b)]) = vnD g ++ [(n, b.d)] := by unfold vnD; rw [List.map_append]; rfl
        exact ss_nil ⟨rfl, g ++ [(n, b)], some (.v (.d (.int (j : Nat)))), some (.v (.d (.str "var"))), some (.v (.d (.str n))), by rw [ev]; rfl, by rw [List.length_append]; show g.length + 1 ≤ v.length + (j + 1); omega, hb⟩
  · rintro ρ' δ' ⟨rfl, g, o4, o5, o6, rfl, hg, hb⟩
    rw [List.length_range, List.drop_length] at hb
    refine ss_frz 3 rfl (ss_one (se_ret (ee_var 3 rfl ?_)))
    have e : bindRow (ts.drop r.length) [] g = some g := by unfold bindRow; rfl
    rw [← hb, e] at hz
    exact hz
end
end Em
/-! part em4 -/
set_option Elab.async false
set_option linter.all false
set_option maxRecDepth 100000
set_option maxHeartbeats 4000000
set_option autoImplicit false
namespace Em
open PySem PySem.Spec PyProof.Rows L2 Dl
theorem take_map_succ {α β : Type} {f : α → β} {l : List α} {i : Nat} {a : α} (h : l[i]? = some a) : (l.take (i + 1)).map f = (l.take i).map f ++ [f a] := by
  rw [List.take_add_one, h, List.map_append]
  rfl
theorem getV_mem {v : Vn} {n : Str} {a : Vl} (h : getV v n = some a) : (n, a) ∈ v := by
  obtain ⟨p, hp, rfl⟩ := Option.map_eq_some_iff.mp h
  have e : decide (p.1 = n) = true := List.find?_some (p := fun p : Str × Vl => decide (p.1 = n)) hp
  have e := of_decide_eq_true e
  subst e
  exact List.mem_of_find?_eq_some hp
theorem en_l {X : Cx} {c : Cc} {ρ : En} {δ : List Int} {pos : Pos} {es : List Expr} {Z : Wd → List Int → Prop} (h : EA X c es ρ δ fun as δ1 => onDs as fun ds => Z (.d (.list ds)) δ1) (hl : es.length ≤ 15 := by decide) : EN X c (.List es pos) ρ δ Z :=
  en_lst (Z := fun a δ1 => onV a fun x => Z x δ1) h hl
theorem putTm_some {v : Vn} {n : Str} {a : Vl} (h : getV v n = some a) : putTm v (.x n) = .v a := by
  show (match getV v n with | some a => Tm.v a | none => .x n) = _
  rw [h]
theorem putTm_none {v : Vn} {n : Str} (h : getV v n = none) : putTm v (.x n) = .x n := by
  show (match getV v n with | some a => Tm.v a | none => .x n) = _
  rw [h]
section
variable {P : Program} {w : World} {K : PySem.W.Frag} {mg : Str → Option Value} {base : Heap}
def G_put_values : GD := fun as δ Z => ∃ (ts : List Tm) (v : Vn), as = [.v (.d (tmsD ts)), .v (.dk (vnD v))] ∧ small ts.length ∧ Z (.d (tmsD (ts.map (putTm v)))) δ
theorem df_put_values (F : Facts K mg) : Df P w K mg base 1 "put_values" 2 G_put_values :=
  df_body F.d_put_values sc_put_values rfl (fun _ _ _ _ _ _ us hl => match us, hl with | [_, _], _ => rfl) fun f cdv A outer sh H E c as δ Z hr hl hG => by
  obtain ⟨ts, v, rfl, hs, hz⟩ := hG
  refine ss_cons (se_setN 2 (en_l (ea_nil ?_)) sc_put_values.nd)
  refine ss_cons (se_forM ts (fun t => .one (.d t.d)) (fun i ρ' δ' => δ' = δ ∧ ∃ o3 o4, ρ' = [some (.v (.d (tmsD ts))), some (.v (.dk (vnD v))), some (.ow (.d (.list ((ts.take i).map fun t => (putTm v t).d)))), o3, o4]) (ei_tupM Tm.d ts (ee_var 0 rfl ⟨rfl, rfl, rfl, _, _, rfl⟩)) ?_ ?_)
  · rintro i t ρi δi ht ⟨rfl, o3, o4, rfl⟩
    have hi : ((ts.take i).map fun t => (putTm v t).d).length < sizeLine := by
      rw [List.length_map, List.length_take]
      exact small_line (Nat.lt_of_le_of_lt (Nat.min_le_right _ _) hs)
    have next : ∀ o3 o4 (d : PyData), d = (putTm v t).d → ((fun i ρ' δ' => δ' = δi ∧ ∃ o3 o4, ρ' = [some (.v (.d (tmsD ts))), some (.v (.dk (vnD v))), some (.ow (.d (.list ((ts.take i).map fun t => (putTm v t).d)))), o3, o4]) : Nat → En → List Int → Prop) (i + 1) [some (.v (.d (tmsD ts))), some (.v (.dk (vnD v))), some (.ow (.d (.list (((ts.take i).map fun t => (putTm v t).d) ++ [d])))), o3, o4] δi := fun o3 o4 d e => by
      refine ⟨rfl, o3, o4, ?_⟩
      rw [take_map_succ ht, e]
    cases t with
    | v a =>
      refine ⟨[3, 4], eg_tup (ws := [.d (.str "value"), .d a.d]) rfl (egs_cons (eg_name 3 (egs_cons (eg_name 4 (egs_nil ?_) sc_put_values.nd)) sc_put_values.nd))⟩
      refine ss_one (se_if (et_w (ew_and (et_eq hr (ee_var 3 rfl (ee_str ⟨okD_str _, okD_str _, ?_⟩))))))
      rw [str_eqv, kinds_ne, if_neg Bool.false_ne_true]
      exact ss_one (se_append 2 rfl (ee_tup (ea_cons (ee_var 3 rfl (ea_one (ee_var 4 rfl ⟨hi, next _ _ _ rfl⟩))))))
    | x n =>
      refine ⟨[3, 4], eg_tup (ws := [.d (.str "var"), .d (.str n)]) rfl (egs_cons (eg_name 3 (egs_cons (eg_name 4 (egs_nil ?_) sc_put_values.nd)) sc_put_values.nd))⟩
      refine ss_one (se_if (et_w (ew_and (et_eq hr (ee_var 3 rfl (ee_str ⟨okD_str _, okD_str _, ?_⟩))))))
      rw [str_eqv, decide_eq_true rfl, if_pos rfl]
      refine ew_and1 (et_inDk hr (ee_var 4 rfl (ee_var 1 rfl ?_)))
      cases q : getV v n with
      | some a =>
        have gs : getS (vnD v) n = some a.d := by rw [getS_vn, q]; rfl
        show (if (getS (vnD v) n).isSome = true then _ else _)
        rw [gs]
        refine ss_one (se_append 2 rfl (ee_tup (ea_cons (ee_str (ea_one (ee_dget hr (ee_var 1 rfl (ee_var 4 rfl ⟨a.d, gs, hi, next _ _ _ ?_⟩))))))))
        rw [putTm_some q]
        rfl
      | none =>
        have gs : getS (vnD v) n = none := by rw [getS_vn, q]; rfl
        show (if (getS (vnD v) n).isSome = true then _ else _)
        rw [gs]
        refine ss_one (se_append 2 rfl (ee_tup (ea_cons (ee_var 3 rfl (ea_one (ee_var 4 rfl ⟨hi, next _ _ _ ?_⟩))))))
        rw [putTm_none q]
        rfl
  · rintro ρ' δ' ⟨rfl, o3, o4, rfl⟩
    refine ss_one (se_ret (ee_tuple F.z_tuple (ee_var 2 rfl ?_)))
    show Z _ _
    rw [List.take_length]
    have e : tmsD (ts.map (putTm v)) = .tuple (ts.map fun t => (putTm v t).d) := by unfold tmsD; rw [List.map_map]; rfl
    rw [← e]
    exact hz
end
end Em
/-! part em5 -/
set_option Elab.async false
set_option linter.all false
set_option maxRecDepth 100000
set_option maxHeartbeats 4000000
set_option autoImplicit false
namespace Em
open PySem PySem.Spec PyProof.Rows L2 Dl
theorem take_fm_succ {α β : Type} {f : α → Option β} {l : List α} {i : Nat} {a : α} (h : l[i]? = some a) : (l.take (i + 1)).filterMap f = (l.take i).filterMap f ++ (f a).toList := by
  rw [List.take_add_one, h, List.filterMap_append]
  cases q : f a <;> simp [q]
theorem small_take {α : Type} {l : List α} (i : Nat) (h : small l.length) : small (l.take i).length := by
  rw [List.length_take]
  exact Nat.lt_of_le_of_lt (Nat.min_le_right _ _) h
theorem small_fm {α β : Type} {f : α → Option β} {l : List α} (h : small l.length) : small (l.filterMap f).length := Nat.lt_of_le_of_lt (List.length_filterMap_le _ _) h
section
variable {P : Program} {w : World} {K : PySem.W.Frag} {mg : Str → Option Value} {base : Heap}
def G_put_row : GD := fun as δ Z => ∃ (q : Qn) (r : Row), as = [.v (.d (qnD q)), .v (.d (rowD r))] ∧ small q.2.length ∧ small r.length ∧ (∀ j ∈ q.2, r.length ≤ j.1.length ∧ small j.2.length ∧ ∀ a ∈ j.2, small a.2.length) ∧ Z (.d (qnD (putRow q r))) δ
theorem df_put_row (F : Facts K mg) : Df P w K mg base 2 "put_row" 2 G_put_row :=
  df_body F.d_put_row sc_put_row rfl (fun _ _ _ _ _ _ us hl => match us, hl with | [_, _], _ => rfl) fun f cdv A outer sh H E c as δ Z hr hl hG => by
  obtain ⟨q, r, rfl, hs, hsr, hj, hz⟩ := hG
  refine ss_cons (se_setN 2 (en_l (ea_nil ?_)) sc_put_row.nd)
  refine ss_cons (se_forM q.2 (fun j => .one (.d (jnD j))) (fun i ρ' δ' => δ' = δ ∧ ∃ o3 o4 o5 o6 o7, ρ' = [some (.v (.d (qnD q))), some (.v (.d (rowD r))), some (.ow (.d (.list (((q.2.take i).filterMap (putJ r)).map jnD)))), o3, o4, o5, o6, o7]) (ei_tupM jnD q.2 (ee_ixT (ee_var 0 rfl (ee_int ⟨_, rfl, rfl, rfl, rfl, _, _, _, _, _, rfl⟩)))) ?_ ?_)
  · rintro i j ρi δi hji ⟨rfl, o3, o4, o5, o6, o7, rfl⟩
    obtain ⟨hj1, hj2, hj3⟩ := hj j (List.mem_of_getElem? hji)
    have hi : (((q.2.take i).filterMap (putJ r)).map jnD).length < sizeLine := by
      rw [List.length_map]
      exact small_line (small_fm (small_take i hs))
    refine ⟨[3, 4], eg_tup (ws := [.d (tmsD j.1), .d (bodyD j.2)]) rfl (egs_cons (eg_name 3 (egs_cons (eg_name 4 (egs_nil ?_) sc_put_row.nd)) sc_put_row.nd))⟩
    refine ss_cons (se_set 5 (ee_callP (df_bound_values F) hr (ea_cons (ee_var 3 rfl (ea_cons (ee_var 1 rfl (ea_one (ee_new (en_dk0 ⟨rfl, rfl, j.1, r, [], rfl, hj1, ?_, ?_⟩)))))))) sc_put_row.nd)
    · rw [List.length_nil, Nat.zero_add]
      exact hsr
    cases hb : bindRow j.1 r [] with
    | none =>
      refine ss_one (se_if (et_notN (ee_var 5 rfl ?_)))
      refine ss_nil ⟨rfl, some (.v (.d (tmsD j.1))), some (.v (.d (bodyD j.2))), some (.v (.d .none)), o6, o7, ?_⟩
      have e : putJ r j = none := by unfold putJ; rw [hb]; rfl
      rw [take_fm_succ hji, e, Option.toList_none, List.append_nil]
      rfl
    | some g =>
      have e : putJ r j = some ([], j.2.map (putAt g)) := by unfold putJ; rw [hb]; rfl
      refine ss_one (se_if (et_notN (ee_var 5 rfl ?_)))
      refine ss_one (se_append 2 rfl (ee_tup (ea_cons (ee_tup (ea_nil ?_)) (hs := rfl))))
      refine ea_one (ee_tuple F.z_tuple (ee_new (en_lc (eic_of (ei_tupM atD j.2 (ee_var 4 rfl ⟨rfl, ?_⟩))) sc_put_row.nd (blkOk_by (N := N_put_row) (sc := defScope s_put_row) (own := [("name", 6), ("terms", 7)]) (by decide +kernel)))))
      refine lcz_map (f := fun a => atD (putAt g a)) (small_line hj2) (fun a ha => ⟨_, fun s H C cl fp => eg_tup (ws := [.d (.str a.1), .d (tmsD a.2)]) rfl (egs_cons (eg_name 6 (egs_cons (eg_name 7 (egs_nil rfl) sc_put_row.nd)) sc_put_row.nd)), fun s H C cl fp => ?_⟩) ⟨rfl, hi, rfl, some (.v (.d (tmsD j.1))), some (.v (.d (bodyD j.2))), some (.v (.dk (vnD g))), o6, o7, ?_⟩
      · exact ee_tup (ea_cons (ee_var 6 rfl (ea_one (ee_callP (df_put_values F) hr (ea_cons (ee_var 7 rfl (ea_one (ee_var 5 rfl ⟨rfl, a.2, g, rfl, hj3 a ha, rfl, rfl⟩))))))))
      · have e2 : bodyD (j.2.map (putAt g)) = .tuple (j.2.map fun a => atD (putAt g a)) := by unfold bodyD; rw [List.map_map]; rfl
        rw [take_fm_succ hji, e, Option.toList_some, List.map_append, List.map_cons, List.map_nil]
        show _ = [_, _, some (Dl.Arg.ow (Wd.d (PyData.list (_ ++ [PyData.tuple [PyData.tuple [], bodyD (j.2.map (putAt g))]])))), _, _, _, _, _]
        rw [e2]
        rfl
  · rintro ρ' δ' ⟨rfl, o3, o4, o5, o6, o7, rfl⟩
    refine ss_one (se_ret (ee_tup (ea_cons (ee_int (ea_one (ee_tuple F.z_tuple (ee_var 2 rfl ?_)))))))
    show Z _ _
    rw [List.take_length]
    exact hz
end
end Em
/-! part em6 -/
set_option Elab.async false
set_option linter.all false
set_option maxRecDepth 100000
set_option maxHeartbeats 4000000
set_option autoImplicit false
namespace Em
open PySem PySem.Spec PyProof.Rows L2 Dl
theorem ei_ldkM {X : Cx} {c : Cc} {tg e : Expr} {ρ : En} {δ : List Int} (xs : List Vn) {Z : List IW → List Int → Prop} (h : EE X c e ρ δ fun a δ1 => a = .v (.ldk (xs.map vnD)) ∧ Z (xs.map fun x => .one (.dk (vnD x))) δ1) : EI X c tg e ρ δ Z :=
  ei_ldk (ee_imp h fun a δ1 ⟨e, z⟩ => ⟨_, e, by
    rw [List.map_map]
    exact z⟩)
def rowsOf (st : List Fact) (n : Str) : List Row := (st.filter fun f => decide (f.1 = n)).map (·.2)
def moreV (st : List Fact) (a : Atom) (v : Vn) : List Vn := (rowsOf st a.1).filterMap fun r => bindRow a.2 r v
def stepV (st : List Fact) (found : List Vn) (a : Atom) : List Vn := found.flatMap (moreV st a)
def foundV (st : List Fact) (body : List Atom) : List Vn := body.foldl (stepV st) [[]]
theorem foundV_succ {st : List Fact} {body : List Atom} {i : Nat} {a : Atom} (h : body[i]? = some a) : foundV st (body.take (i + 1)) = stepV st (foundV st (body.take i)) a := by
  unfold foundV
  rw [List.take_add_one, h, List.foldl_append]
  rfl
theorem take_flat_succ {α β : Type} {f : α → List β} {l : List α} {i : Nat} {a : α} (h : l[i]? = some a) : (l.take (i + 1)).flatMap f = (l.take i).flatMap f ++ f a := by
  rw [List.take_add_one, h, List.flatMap_append]
  simp
theorem flat_len {α β : Type} {f : α → List β} {l : List α} {i : Nat} {a : α} (h : l[i]? = some a) : ((l.take i).flatMap f).length + (f a).length ≤ (l.flatMap f).length := by
  have e : l.flatMap f = (l.take (i + 1)).flatMap f ++ (l.drop (i + 1)).flatMap f := by rw [← List.flatMap_append, List.take_append_drop]
  rw [e, List.length_append, take_flat_succ h, List.length_append]
  omega
theorem fm_take_len {α β : Type} {f : α → Option β} {l : List α} (i : Nat) : ((l.take i).filterMap f).length ≤ (l.filterMap f).length := by
  have e : l.filterMap f = (l.take i).filterMap f ++ (l.drop i).filterMap f := by rw [← List.filterMap_append, List.take_append_drop]
  rw [e, List.length_append]
  omega
structure Fits (st : List Fact) (body : List Atom) : Prop where
  ar : ∀ a ∈ body, ∀ f ∈ st, f.1 = a.1 → f.2.length = a.2.length
  num : ∀ i, small (foundV st (body.take i)).length
  len : ∀ i v, v ∈ foundV st (body.take i) → v.length ≤ 60
  row : ∀ f ∈ st, f.2.length ≤ 1000
  st : small st.length
  body : small body.length
section
variable {P : Program} {w : World} {K : PySem.W.Frag} {mg : Str → Option Value} {base : Heap}
def G_found_values : GD := fun as δ Z => ∃ (st : List Fact) (j : Join), as = [.v (.d (stD st)), .v (.d (jnD j))] ∧ Fits st j.2 ∧ Z (.ldk ((foundV st j.2).map vnD)) δ
theorem df_found_values (F : Facts K mg) : Df P w K mg base 2 "found_values" 2 G_found_values :=
  df_body F.d_found_values sc_found_values rfl (fun _ _ _ _ _ _ us hl => match us, hl with | [_, _], _ => rfl) fun f cdv A outer sh H E c as δ Z hr hl hG => by
  obtain ⟨st, j, rfl, hf, hz⟩ := hG
  refine ss_cons (se_set 2 (ee_new (en_ldk1 (ee_new (en_dk0 ⟨rfl, rfl, ?_⟩)))) sc_found_values.nd)
  refine ss_cons (se_forM j.2 (fun a => .one (.d (atD a))) (fun i ρ' δ' => δ' = δ ∧ ∃ o3 o4 o5 o6 o7 o8 o9 o10, ρ' = [some (.v (.d (stD st))), some (.v (.d (jnD j))), some (.v (.ldk ((foundV st (j.2.take i)).map vnD))), o3, o4, o5, o6, o7, o8, o9, o10])
    (ei_tupM atD j.2 (ee_ixT (ee_var 1 rfl (ee_int ⟨_, rfl, rfl, rfl, rfl, _, _, _, _, _, _, _, _, rfl⟩)))) ?_ ?_)
  · rintro i a ρi δi hai ⟨rfl, o3, o4, o5, o6, o7, o8, o9, o10, rfl⟩
    have ham := List.mem_of_getElem? hai
    have hnext := foundV_succ (st := st) hai
    have hnum := hf.num (i + 1)
    rw [hnext] at hnum
    refine ⟨[3, 4], eg_tup (ws := [.d (.str a.1), .d (tmsD a.2)]) rfl (egs_cons (eg_name 3 (egs_cons (eg_name 4 (egs_nil ?_) sc_found_values.nd)) sc_found_values.nd))⟩
    refine ss_cons (se_setLc 5 (own := [("known", 6), ("row", 7)]) (eic_of (ei_tupM faD st (ee_var 0 rfl ⟨rfl, ?_⟩))) sc_found_values.nd (blkOk_by (N := N_found_values) (sc := defScope s_found_values) (by decide +kernel)) (sw_true rfl rfl rfl rfl))
    refine lcz_filter (f := fun f => rowD f.2) (t := fun f => decide (f.1 = a.1)) (small_line hf.st) (fun f hfm => ⟨_, fun s H C cl fp => eg_tup (ws := [.d (.str f.1), .d (rowD f.2)]) rfl (egs_cons (eg_name 6 (egs_cons (eg_name 7 (egs_nil rfl) sc_found_values.nd)) sc_found_values.nd)), fun s H C cl fp => ?_, fun _ s H C cl fp => ee_var 7 rfl ⟨rfl, rfl⟩⟩) ⟨rfl, ?_⟩
    · refine et_eq hr (ee_var 6 rfl (ee_var 3 rfl ⟨okD_str _, okD_str _, ?_, rfl⟩))
      exact str_eqv _ _
    have er : PyData.list ((st.filter fun f => decide (f.1 = a.1)).map fun f => rowD f.2) = .list ((rowsOf st a.1).map rowD) := by unfold rowsOf; rw [List.map_map]; rfl
    rw [er]
    refine ss_cons (se_setN 8 (en_ldk0 ?_) sc_found_values.nd)
    refine ss_cons (se_forM (foundV st (j.2.take i)) (fun v => .one (.dk (vnD v))) (fun k ρ' δ' => δ' = δi ∧ ∃ o6 o7 o9 o10, ρ' = [some (.v (.d (stD st))), some (.v (.d (jnD j))), some (.v (.ldk ((foundV st (j.2.take i)).map vnD))), some (.v (.d (.str a.1))), some (.v (.d (tmsD a.2))), some (.v (.d (.list ((rowsOf st a.1).map rowD)))), o6, o7, some (.ow (.ldk ((((foundV st (j.2.take i)).take k).flatMap (moreV st a)).map vnD))), o9, o10])
      (ei_ldkM _ (ee_var 2 rfl ⟨rfl, rfl, rfl, _, _, _, _, rfl⟩)) ?_ ?_)
    · rintro k v ρk δk hvk ⟨rfl, o6, o7, o9, o10, rfl⟩
      have hvm := List.mem_of_getElem? hvk
      refine ⟨[9], eg_name 9 ?_ sc_found_values.nd⟩
      refine ss_one (se_forM (rowsOf st a.1) (fun r => .one (.d (rowD r))) (fun m ρ' δ' => δ' = δk ∧ ∃ o6 o7 o10, ρ' = [some (.v (.d (stD st))), some (.v (.d (jnD j))), some (.v (.ldk ((foundV st (j.2.take i)).map vnD))), some (.v (.d (.str a.1))), some (.v (.d (tmsD a.2))), some (.v (.d (.list ((rowsOf st a.1).map rowD)))), o6, o7, some (.ow (.ldk (((((foundV st (j.2.take i)).take k).flatMap (moreV st a)) ++ ((rowsOf st a.1).take m).filterMap fun r => bindRow a.2 r v).map vnD))), some (.v (.dk (vnD v))), o10])
        (ei_listM rowD _ (ee_var 5 rfl ⟨rfl, rfl, rfl, o6, o7, o10, ?_⟩)) ?_ ?_)
      · rw [show ((rowsOf st a.1).take 0).filterMap (fun r => bindRow a.2 r v) = [] from rfl, List.append_nil]
        rfl
      · rintro m r ρm δm hrm ⟨rfl, o6, o7, o10, rfl⟩
        have hrmem := List.mem_of_getElem? hrm
        obtain ⟨f, hfst, hfr⟩ := List.mem_map.mp hrmem
        obtain ⟨hfst, hfn⟩ := List.mem_filter.mp hfst
        have hr1 : r.length ≤ a.2.length := hfr ▸ Nat.le_of_eq (hf.ar a ham f hfst (of_decide_eq_true hfn))
        have hr2 : r.length ≤ 1000 := hfr ▸ hf.row f hfst
        have hv2 := hf.len i v hvm
        have hlen : (((((foundV st (j.2.take i)).take k).flatMap (moreV st a)) ++ ((rowsOf st a.1).take m).filterMap fun r => bindRow a.2 r v).map vnD).length < sizeLine := by
          rw [List.length_map, List.length_append]
          have h1 := flat_len (f := moreV st a) hvk
          have h2 : (((rowsOf st a.1).take m).filterMap fun r => bindRow a.2 r v).length ≤ (moreV st a v).length := fm_take_len m
          refine small_line (Nat.lt_of_le_of_lt ?_ hnum)
          show _ ≤ ((foundV st (j.2.take i)).flatMap (moreV st a)).length
          omega
        refine ⟨[7], eg_name 7 ?_ sc_found_values.nd⟩
        refine ss_cons (se_set 10 (ee_callP (df_bound_values F) hr (ea_cons (ee_var 4 rfl (ea_cons (ee_var 7 rfl (ea_one (ee_var 9 rfl ⟨rfl, a.2, r, v, rfl, hr1, ?_, ?_⟩))))))) sc_found_values.nd)
        · show v.length + r.length < 5000
          omega
        have esc := take_fm_succ (f := fun r => bindRow a.2 r v) hrm
        cases hb : bindRow a.2 r v with
        | none =>
          refine ss_one (se_if (et_notN (ee_var 10 rfl ?_)))
          refine ss_nil ⟨rfl, o6, some (.v (.d (rowD r))), some (.v (.d .none)), ?_⟩
          rw [esc, hb, Option.toList_none, List.append_nil]
          rfl
        | some g =>
          refine ss_one (se_if (et_notN (ee_var 10 rfl ?_)))
          refine ss_one (se_appendDk 8 rfl (ee_var 10 rfl ⟨hlen, rfl, o6, some (.v (.d (rowD r))), some (.v (.dk (vnD g))), ?_⟩))
          rw [esc, hb, Option.toList_some, ← List.append_assoc, List.map_append (l₂ := [g])]
          rfl
      · rintro ρ' δ' ⟨rfl, o6, o7, o10, rfl⟩
        refine ⟨rfl, o6, o7, some (.v (.dk (vnD v))), o10, ?_⟩
        rw [take_flat_succ hvk, List.take_length]
        rfl
    · rintro ρ' δ' ⟨rfl, o6, o7, o9, o10, rfl⟩
      rw [List.take_length]
      refine ss_frz 8 rfl (ss_one (se_set 2 (ee_var 8 rfl ?_) sc_found_values.nd))
      refine ⟨rfl, some (.v (.d (.str a.1))), some (.v (.d (tmsD a.2))), some (.v (.d (.list ((rowsOf st a.1).map rowD)))), o6, o7, some (.v (.ldk (((foundV st (j.2.take i)).flatMap (moreV st a)).map vnD))), o9, o10, ?_⟩
      rw [hnext]
      rfl
  · rintro ρ' δ' ⟨rfl, o3, o4, o5, o6, o7, o8, o9, o10, rfl⟩
    rw [List.take_length]
    exact ss_one (se_ret (ee_var 2 rfl hz))
end
end Em
/-! part em7 -/
set_option Elab.async false
set_option linter.all false
set_option maxRecDepth 100000
set_option maxHeartbeats 4000000
set_option autoImplicit false
namespace Em
open PySem PySem.Spec PyProof.Rows L2 Dl
def pairD (p : Str × Vl) : PyData := .tuple [.str p.1, p.2.d]
def valD (v : Vn) : PyData := .tuple (v.map pairD)
theorem valD_eq (v : Vn) : valD v = .tuple (pairsD (vnD v)) := by
  unfold valD pairsD vnD
  rw [List.map_map]
  rfl
theorem vn_keys (v : Vn) : (vnD v).map (·.1) = v.map (·.1) := by
  unfold vnD
  rw [List.map_map]
  rfl
def valT (v : Vn) : Tm → Vl
  | .v a => a
  | .x n => (getV v n).getD (.s n)
def Bound (v : Vn) (ts : List Tm) : Prop := ∀ n, Tm.x n ∈ ts → ∃ a, getV v n = some a
def instA (v : Vn) (a : Atom) : Fact := (a.1, a.2.map (valT v))
theorem tmsD_map (v : Vn) (ts : List Tm) : rowD (ts.map (valT v)) = .tuple (ts.map fun t => (valT v t).d) := by
  unfold rowD
  rw [List.map_map]
  rfl
section
variable {P : Program} {w : World} {K : PySem.W.Frag} {mg : Str → Option Value} {base : Heap}
def vnkey (v : Vn) : PyData := rkey (v.map (·.2))
def G_valuation_key : GD := fun as δ Z => ∃ v : Vn, as = [.v (.d (valD v))] ∧ small v.length ∧ Z (.d (vnkey v)) δ
theorem df_valuation_key (F : Facts K mg) : Df P w K mg base 3 "valuation_key" 1 G_valuation_key :=
  df_body F.d_valuation_key sc_valuation_key rfl (fun _ _ _ _ _ _ us hl => match us, hl with | [_], _ => rfl) fun f cdv A outer sh H E c as δ Z hr hl hG => by
  obtain ⟨v, rfl, hs, hz⟩ := hG
  refine ss_one (se_ret (ee_callP (df_row_key F) hr (ea_one (ee_tuple F.z_tuple (ee_new (en_lc (eic_of (ei_tupM pairD v (ee_var 0 rfl ⟨rfl, ?_⟩))) sc_valuation_key.nd (blkOk_by (N := N_valuation_key) (sc := defScope s_valuation_key) (own := [("name", 1), ("value", 2)]) (by decide +kernel))))))))
  refine lcz_map (f := fun p => p.2.d) (small_line hs) (fun p hp => ⟨_, fun s H C cl fp => eg_tup (ws := [.d (.str p.1), .d p.2.d]) rfl (egs_cons (eg_name 1 (egs_cons (eg_name 2 (egs_nil rfl) sc_valuation_key.nd)) sc_valuation_key.nd)), fun s H C cl fp => ee_var 2 rfl ⟨rfl, rfl⟩⟩) ⟨rfl, rfl, (v.map (fun p : Str × Vl => p.2)), ?_, ?_, hz⟩
  · unfold rowD
    rw [List.map_map]
    rfl
  · rw [List.length_map]
    exact hs
def G_put_value : GD := fun as δ Z => ∃ (t : Tm) (v : Vn), as = [.v (.d t.d), .v (.dk (vnD v))] ∧ Z (.d (putTm v t).d) δ
theorem df_put_value (F : Facts K mg) : Df P w K mg base 1 "put_value" 2 G_put_value :=
  df_body F.d_put_value sc_put_value rfl (fun _ _ _ _ _ _ us hl => match us, hl with | [_, _], _ => rfl) fun f cdv A outer sh H E c as δ Z hr hl hG => by
  obtain ⟨t, v, rfl, hz⟩ := hG
  cases t with
  | v a =>
    refine ss_cons (se_if (et_w (ew_and (et_eq hr (ee_ixT (ee_var 0 rfl (ee_int ⟨.str "value", rfl, ee_str ⟨okD_str _, okD_str _, ?_⟩⟩)))))))
    rw [str_eqv, kinds_ne, if_neg Bool.false_ne_true]
    exact ss_nil (ss_one (se_ret (ee_var 0 rfl hz)))
  | x n =>
    refine ss_cons (se_if (et_w (ew_and (et_eq hr (ee_ixT (ee_var 0 rfl (ee_int ⟨.str "var", rfl, ee_str ⟨okD_str _, okD_str _, ?_⟩⟩)))))))
    rw [str_eqv, decide_eq_true rfl, if_pos rfl]
    refine ew_and1 (et_inDk hr (ee_ixT (ee_var 0 rfl (ee_int ⟨.str n, rfl, ee_var 1 rfl ?_⟩))))
    cases q : getV v n with
    | some a =>
      have gs : getS (vnD v) n = some a.d := by rw [getS_vn, q]; rfl
      show (if (getS (vnD v) n).isSome = true then _ else _)
      rw [gs]
      rw [putTm_some q] at hz
      exact ss_one (se_ret (ee_tup (ea_cons (ee_str (ea_one (ee_dget hr (ee_var 1 rfl (ee_ixT (ee_var 0 rfl (ee_int ⟨.str n, rfl, a.d, gs, hz⟩))))))))))
    | none =>
      have gs : getS (vnD v) n = none := by rw [getS_vn, q]; rfl
      show (if (getS (vnD v) n).isSome = true then _ else _)
      rw [gs]
      rw [putTm_none q] at hz
      exact ss_nil (ss_one (se_ret (ee_var 0 rfl hz)))
theorem putTm_at (v : Vn) (t : Tm) : ∃ x, (putTm v t).d = .tuple [x, (valT v t).d] := by
  cases t with
  | v a => exact ⟨_, rfl⟩
  | x n =>
    cases q : getV v n with
    | some a => rw [putTm_some q]; refine ⟨.str "value", ?_⟩; unfold valT; simp only [q]; rfl
    | none => rw [putTm_none q]; refine ⟨.str "var", ?_⟩; unfold valT; simp only [q]; rfl
def G_turned_fact : GD := fun as δ Z => ∃ (a : Atom) (v : Vn), as = [.v (.d (atD a)), .v (.dk (vnD v))] ∧ small a.2.length ∧ Z (.d (faD (instA v a))) δ
theorem df_turned_fact (F : Facts K mg) : Df P w K mg base 2 "turned_fact" 2 G_turned_fact :=
  df_body F.d_turned_fact sc_turned_fact rfl (fun _ _ _ _ _ _ us hl => match us, hl with | [_, _], _ => rfl) fun f cdv A outer sh H E c as δ Z hr hl hG => by
  obtain ⟨a, v, rfl, hs, hz⟩ := hG
  refine ss_one (se_ret (ee_tup (ea_cons (ee_ixT (ee_var 0 rfl (ee_int ⟨.str a.1, rfl, ?_⟩))))))
  refine ea_one (ee_tuple F.z_tuple (ee_new (en_lc (eic_of (ei_tupM Tm.d a.2 (ee_ixT (ee_var 0 rfl (ee_int ⟨_, rfl, rfl, ?_⟩))))) sc_turned_fact.nd (blkOk_by (N := N_turned_fact) (sc := defScope s_turned_fact) (own := [("term", 2)]) (by decide +kernel)))))
  refine lcz_map (f := fun t => (valT v t).d) (small_line hs) (fun t ht => ⟨_, fun s H C cl fp => eg_name 2 rfl sc_turned_fact.nd, fun s H C cl fp => ?_⟩) ⟨rfl, ?_⟩
  · obtain ⟨x, hx⟩ := putTm_at v t
    refine ee_ixT (ee_callP (df_put_value F) hr (ea_cons (ee_var 2 rfl (ea_one (ee_var 1 rfl ⟨rfl, t, v, rfl, ?_⟩)))))
    rw [hx]
    exact ee_int ⟨(valT v t).d, rfl, rfl, rfl⟩
  · have e : faD (instA v a) = .tuple [.str a.1, .tuple (a.2.map fun t => (valT v t).d)] := by
      unfold faD instA
      rw [tmsD_map]
    rw [e] at hz
    exact hz
def G_key_length : GD := fun as δ Z => ∃ (s : Sch) (n : Str) (k : Nat), as = [.v (.d (scD s)), .v (.d (.str n))] ∧ small s.length ∧ keyLen s n = some k ∧ Z (.d (.int k)) δ
theorem df_key_length (F : Facts K mg) : Df P w K mg base 1 "key_length" 2 G_key_length :=
  df_body F.d_key_length sc_key_length rfl (fun _ _ _ _ _ _ us hl => match us, hl with | [_, _], _ => rfl) fun f cdv A outer sh H E c as δ Z hr hl hG => by
  obtain ⟨s, n, k, rfl, hs, hk, hz⟩ := hG
  refine ss_one (se_ret (ee_ixL (ee_new (en_lc (eic_of (ei_tupM tbD s (ee_var 0 rfl ⟨rfl, ?_⟩))) sc_key_length.nd (blkOk_by (N := N_key_length) (sc := defScope s_key_length) (own := [("known", 2), ("key", 3), ("rest", 4)]) (by decide +kernel))))))
  refine lcz_filter (f := fun t => .int t.2.1) (t := fun t => decide (t.1 = n)) (small_line hs) (fun t ht => ⟨_, fun s H C cl fp => eg_tup (ws := [.d (.str t.1), .d (.int t.2.1), .d (.int t.2.2)]) rfl (egs_cons (eg_name 2 (egs_cons (eg_name 3 (egs_cons (eg_name 4 (egs_nil rfl) sc_key_length.nd)) sc_key_length.nd)) sc_key_length.nd)), fun s H C cl fp => ?_, fun _ s H C cl fp => ee_var 3 rfl ⟨rfl, rfl⟩⟩) ⟨rfl, ?_⟩
  · exact et_eq hr (ee_var 2 rfl (ee_var 1 rfl ⟨okD_str _, okD_str _, str_eqv _ _, rfl⟩))
  · obtain ⟨t, ht, rfl⟩ := Option.map_eq_some_iff.mp hk
    unfold tabOf at ht
    have h0 : (s.filter fun t => decide (t.1 = n))[0]? = some t := by
      rw [← ht, ← List.head?_eq_getElem?, List.head?_filter]
    exact ee_int ⟨.int t.2.1, at_map (enc := fun t : Tab => .int t.2.1) h0, hz⟩
def placeOf (f : Fact) (k : Nat) : Fact := (f.1, f.2.take k)
def G_place_of : GD := fun as δ Z => ∃ (s : Sch) (f : Fact) (k : Nat), as = [.v (.d (scD s)), .v (.d (faD f))] ∧ small s.length ∧ keyLen s f.1 = some k ∧ Z (.d (faD (placeOf f k))) δ
theorem df_place_of (F : Facts K mg) : Df P w K mg base 2 "place_of" 2 G_place_of :=
  df_body F.d_place_of sc_place_of rfl (fun _ _ _ _ _ _ us hl => match us, hl with | [_, _], _ => rfl) fun f cdv A outer sh H E c as δ Z hr hl hG => by
  obtain ⟨s, f, k, rfl, hs, hk, hz⟩ := hG
  refine ss_one (se_ret (ee_tup (ea_cons (ee_ixT (ee_var 1 rfl (ee_int ⟨.str f.1, rfl, ?_⟩))))))
  refine ea_one (ee_slT_to (ee_ixT (ee_var 1 rfl (ee_int ⟨rowD f.2, rfl, ?_⟩))))
  refine ee_callP (df_key_length F) hr (ea_cons (ee_var 0 rfl (ea_one (ee_ixT (ee_var 1 rfl (ee_int ⟨.str f.1, rfl, rfl, s, f.1, k, rfl, hs, hk, k, rfl, ?_⟩))))))
  rw [← List.map_take]
  exact hz
def factsUsed (v : Vn) (body : List Atom) : List Fact := body.map (instA v)
def G_facts_used : GD := fun as δ Z => ∃ (j : Join) (v : Vn), as = [.v (.d (jnD j)), .v (.d (valD v))] ∧ (v.map (·.1)).Nodup ∧ small v.length ∧ small j.2.length ∧ (∀ a ∈ j.2, Bound v a.2 ∧ small a.2.length) ∧ Z (.d (.list ((factsUsed v j.2).map faD))) δ
theorem df_facts_used (F : Facts K mg) : Df P w K mg base 1 "facts_used" 2 G_facts_used :=
  df_body F.d_facts_used sc_facts_used rfl (fun _ _ _ _ _ _ us hl => match us, hl with | [_, _], _ => rfl) fun f cdv A outer sh H E c as δ Z hr hl hG => by
  obtain ⟨j, v, rfl, hnd, hsv, hsj, hb, hz⟩ := hG
  refine ss_cons (se_set 2 (ee_new (en_dictT F.z_dict (ee_var 1 rfl ⟨vnD v, by rw [valD_eq], by rw [vn_keys]; exact hnd, ?_, rfl, ?_⟩))) sc_facts_used.nd)
  · unfold vnD; rw [List.length_map]; exact Nat.le_of_lt (small_line hsv)
  refine ss_cons (se_setN 3 (en_l (ea_nil ?_)) sc_facts_used.nd)
  refine ss_cons (se_forM j.2 (fun a => .one (.d (atD a))) (fun i ρ' δ' => δ' = δ ∧ ∃ o4 o5 o6 o7 o8, ρ' = [some (.v (.d (jnD j))), some (.v (.d (valD v))), some (.v (.dk (vnD v))), some (.ow (.d (.list ((j.2.take i).map fun a => faD (instA v a))))), o4, o5, o6, o7, o8])
    (ei_tupM atD j.2 (ee_ixT (ee_var 0 rfl (ee_int ⟨_, rfl, rfl, rfl, rfl, _, _, _, _, _, rfl⟩)))) ?_ ?_)
  · rintro i a ρi δi hai ⟨rfl, o4, o5, o6, o7, o8, rfl⟩
    obtain ⟨hba, hsa⟩ := hb a (List.mem_of_getElem? hai)
    have hi : ((j.2.take i).map fun a => faD (instA v a)).length < sizeLine := by
      rw [List.length_map]
      exact small_line (small_take i hsj)
    refine ⟨[4, 5], eg_tup (ws := [.d (.str a.1), .d (tmsD a.2)]) rfl (egs_cons (eg_name 4 (egs_cons (eg_name 5 (egs_nil ?_) sc_facts_used.nd)) sc_facts_used.nd))⟩
    refine ss_cons (se_setLc 6 (own := [("kind", 7), ("content", 8)]) (eic_of (ei_tupM Tm.d a.2 (ee_var 5 rfl ⟨rfl, ?_⟩))) sc_facts_used.nd (blkOk_by (N := N_facts_used) (sc := defScope s_facts_used) (by decide +kernel)) (sw_true rfl rfl rfl rfl))
    refine lcz_map (f := fun t => (valT v t).d) (small_line hsa) (fun t ht => ?_) ⟨rfl, ?_⟩
    · cases t with
      | v b =>
        refine ⟨_, fun s H C cl fp => eg_tup (ws := [.d (.str "value"), .d b.d]) rfl (egs_cons (eg_name 7 (egs_cons (eg_name 8 (egs_nil rfl) sc_facts_used.nd)) sc_facts_used.nd)), fun s H C cl fp => ?_⟩
        refine ee_if (et_eq hr (ee_var 7 rfl (ee_str ⟨okD_str _, okD_str _, ?_⟩)))
        rw [str_eqv, kinds_ne, if_neg Bool.false_ne_true]
        exact ee_var 8 rfl ⟨rfl, rfl⟩
      | x n =>
        obtain ⟨b, hbn⟩ := hba n ht
        have gs : getS (vnD v) n = some b.d := by rw [getS_vn, hbn]; rfl
        refine ⟨_, fun s H C cl fp => eg_tup (ws := [.d (.str "var"), .d (.str n)]) rfl (egs_cons (eg_name 7 (egs_cons (eg_name 8 (egs_nil rfl) sc_facts_used.nd)) sc_facts_used.nd)), fun s H C cl fp => ?_⟩
        refine ee_if (et_eq hr (ee_var 7 rfl (ee_str ⟨okD_str _, okD_str _, ?_⟩)))
        rw [str_eqv, decide_eq_true rfl, if_pos rfl]
        refine ee_dget hr (ee_var 2 rfl (ee_var 8 rfl ⟨b.d, gs, ?_, rfl⟩))
        unfold valT
        simp only [hbn]
        rfl
    · refine ss_one (se_append 3 rfl (ee_tup (ea_cons (ee_var 4 rfl (ea_one (ee_tuple F.z_tuple (ee_var 6 rfl ⟨hi, rfl, some (.v (.d (.str a.1))), some (.v (.d (tmsD a.2))), some (.v (.d (.list (a.2.map fun t => (valT v t).d)))), o7, o8, ?_⟩)))))))
      rw [take_map_succ hai]
      have e : faD (instA v a) = .tuple [.str a.1, .tuple (a.2.map fun t => (valT v t).d)] := by
        unfold faD instA
        rw [tmsD_map]
      rw [e]
      rfl
  · rintro ρ' δ' ⟨rfl, o4, o5, o6, o7, o8, rfl⟩
    refine ss_frz 3 rfl (ss_one (se_ret (ee_var 3 rfl ?_)))
    rw [List.take_length]
    unfold factsUsed at hz
    rw [List.map_map] at hz
    exact hz
def G_head_row : GD := fun as δ Z => ∃ (j : Join) (v : Vn), as = [.v (.d (jnD j)), .v (.d (valD v))] ∧ (v.map (·.1)).Nodup ∧ small v.length ∧ small j.1.length ∧ Bound v j.1 ∧ Z (.d (rowD (j.1.map (valT v)))) δ
theorem df_head_row (F : Facts K mg) : Df P w K mg base 1 "head_row" 2 G_head_row :=
  df_body F.d_head_row sc_head_row rfl (fun _ _ _ _ _ _ us hl => match us, hl with | [_, _], _ => rfl) fun f cdv A outer sh H E c as δ Z hr hl hG => by
  obtain ⟨j, v, rfl, hnd, hsv, hsj, hb, hz⟩ := hG
  refine ss_cons (se_set 2 (ee_new (en_dictT F.z_dict (ee_var 1 rfl ⟨vnD v, by rw [valD_eq], by rw [vn_keys]; exact hnd, ?_, rfl, ?_⟩))) sc_head_row.nd)
  · unfold vnD; rw [List.length_map]; exact Nat.le_of_lt (small_line hsv)
  refine ss_one (se_ret (ee_tuple F.z_tuple (ee_new (en_lc (eic_of (ei_tupM Tm.d j.1 (ee_ixT (ee_var 0 rfl (ee_int ⟨_, rfl, rfl, ?_⟩))))) sc_head_row.nd (blkOk_by (N := N_head_row) (sc := defScope s_head_row) (own := [("kind", 3), ("content", 4)]) (by decide +kernel))))))
  refine lcz_map (f := fun t => (valT v t).d) (small_line hsj) (fun t ht => ?_) ⟨rfl, ?_⟩
  · cases t with
    | v b =>
      refine ⟨_, fun s H C cl fp => eg_tup (ws := [.d (.str "value"), .d b.d]) rfl (egs_cons (eg_name 3 (egs_cons (eg_name 4 (egs_nil rfl) sc_head_row.nd)) sc_head_row.nd)), fun s H C cl fp => ?_⟩
      refine ee_if (et_eq hr (ee_var 3 rfl (ee_str ⟨okD_str _, okD_str _, ?_⟩)))
      rw [str_eqv, kinds_ne, if_neg Bool.false_ne_true]
      exact ee_var 4 rfl ⟨rfl, rfl⟩
    | x n =>
      obtain ⟨b, hbn⟩ := hb n ht
      have gs : getS (vnD v) n = some b.d := by rw [getS_vn, hbn]; rfl
      refine ⟨_, fun s H C cl fp => eg_tup (ws := [.d (.str "var"), .d (.str n)]) rfl (egs_cons (eg_name 3 (egs_cons (eg_name 4 (egs_nil rfl) sc_head_row.nd)) sc_head_row.nd)), fun s H C cl fp => ?_⟩
      refine ee_if (et_eq hr (ee_var 3 rfl (ee_str ⟨okD_str _, okD_str _, ?_⟩)))
      rw [str_eqv, decide_eq_true rfl, if_pos rfl]
      refine ee_dget hr (ee_var 2 rfl (ee_var 4 rfl ⟨b.d, gs, ?_, rfl⟩))
      unfold valT
      simp only [hbn]
      rfl
  · rw [tmsD_map] at hz
    exact hz
end
end Em
/-! part em8 -/
set_option Elab.async false
set_option linter.all false
set_option maxRecDepth 100000
set_option maxHeartbeats 4000000
set_option autoImplicit false
namespace Em
open PySem PySem.Spec PyProof.Rows L2 Dl PySem.W
theorem alike_vkey (a b : Vl) : alike (vkey a) (vkey b) = true := by
  cases a <;> cases b <;> simp [vkey, alike, alikeAll]
theorem alike_vkeys : ∀ r r' : Row, alikeAll (r.map vkey) (r'.map vkey) = true
  | [], _ => by simp [alikeAll]
  | _ :: _, [] => by simp [alikeAll]
  | a :: r, b :: r' => by
    rw [List.map_cons, List.map_cons, alikeAll, alike_vkey, alike_vkeys r r']
    rfl
theorem depth_vkey (a : Vl) : (vkey a).depth ≤ 1 := by
  cases a <;> simp [vkey, PyData.depth, PyData.depthAll]
theorem depth_vkeys : ∀ r : Row, PyData.depthAll (r.map vkey) ≤ 1
  | [] => Nat.zero_le _
  | a :: r => by
    rw [List.map_cons, PyData.depthAll]
    exact Nat.max_le.mpr ⟨depth_vkey a, depth_vkeys r⟩
theorem keys_rows {P : Program} {w : World} {ks : List PyData} (h : ∀ k ∈ ks, ∃ r : Row, k = rkey r ∧ r ≠ []) : KeysOk P w ks := fun A s vs hu e =>
  ⟨_, SortsAt.data e (fun d hd d' hd' => by
    obtain ⟨r, rfl, _⟩ := h d hd
    obtain ⟨r', rfl, _⟩ := h d' hd'
    unfold rkey
    rw [alike]
    exact alike_vkeys r r') (.inl fun d hd => by
    obtain ⟨r, rfl, hr⟩ := h d hd
    cases r with
    | nil => exact absurd rfl hr
    | cons a r => exact ⟨_, _, rfl⟩) fun d hd => by
    obtain ⟨r, rfl, _⟩ := h d hd
    have : (rkey r).depth ≤ 2 := by
      unfold rkey
      rw [PyData.depth]
      exact Nat.succ_le_succ (depth_vkeys r)
    omega⟩
abbrev Perms (us vs : List Vn) : Prop := Paired (fun u v => u.Perm v) us vs
theorem paired_left {α β : Type} {F : α → β → Prop} : ∀ {l : List α} {m : List β} {i : Nat} {a : α}, Paired F l m → l[i]? = some a → ∃ b, m[i]? = some b ∧ F a b
  | _, _, _, _, .nil, e => by simp at e
  | _, _, 0, _, .cons h _, e => by simp at e; subst e; exact ⟨_, rfl, h⟩
  | _, _, i + 1, a, .cons _ t, e => by
    obtain ⟨b, h1, h2⟩ := paired_left (i := i) (a := a) t (by simpa using e)
    exact ⟨b, by simpa using h1, h2⟩
theorem perms_snoc {us vs : List Vn} {u v : Vn} (h : Perms us vs) (p : u.Perm v) : Perms (us ++ [u]) (vs ++ [v]) := paired_app h (.cons p .nil)
theorem map_getV (v : Vn) (hv : (v.map (·.1)).Nodup) : ∀ p ∈ v, getV v p.1 = some p.2 := by
  induction v with
  | nil => intro p hp; cases hp
  | cons q v ih =>
    intro p hp
    rw [List.map_cons, List.nodup_cons] at hv
    unfold getV
    rw [List.find?_cons]
    rcases List.mem_cons.mp hp with hp | hp
    · subst hp
      simp
    · have hne : q.1 ≠ p.1 := fun e => hv.1 (by rw [e]; exact List.mem_map_of_mem hp)
      rw [show decide (q.1 = p.1) = false from decide_eq_false hne]
      exact ih hv.2 p hp
/-- a valuation with its names in the order ys -/
def byNames (v : Vn) (ys : List Str) : Vn := ys.filterMap fun n => (getV v n).map fun a => (n, a)
theorem byNames_perm {v : Vn} {ys : List Str} (hv : (v.map (·.1)).Nodup) (h : ys.Perm (v.map (·.1))) : (byNames v ys).Perm v := by
  have p := List.Perm.filterMap (fun n => (getV v n).map fun a => (n, a)) h
  refine p.trans (List.Perm.of_eq ?_)
  rw [List.filterMap_map]
  have : ∀ l : Vn, (∀ p ∈ l, getV v p.1 = some p.2) → l.filterMap ((fun n => (getV v n).map fun a => (n, a)) ∘ fun x => x.1) = l := by
    intro l
    induction l with
    | nil => intro _; rfl
    | cons q l ih =>
      intro hl
      rw [List.filterMap_cons]
      simp only [Function.comp, hl q List.mem_cons_self, Option.map_some]
      rw [show (List.filterMap ((fun n => (getV v n).map fun a => (n, a)) ∘ fun x => x.1) l) = l from ih fun p hp => hl p (List.mem_cons_of_mem _ hp)]
  exact this v (map_getV v hv)
section
variable {P : Program} {w : World} {K : PySem.W.Frag} {mg : Str → Option Value} {base : Heap}
/-- the valuations, in some order, each with its names in some order; no two where there are no names -/
def G_valuations : GD := fun as δ Z => ∃ (st : List Fact) (j : Join), as = [.v (.d (stD st)), .v (.d (jnD j))] ∧ Fits st j.2 ∧ (∀ v ∈ foundV st j.2, (v.map (·.1)).Nodup) ∧ ((foundV st j.2).length ≤ 1 ∨ ∀ v ∈ foundV st j.2, v ≠ []) ∧
  ∀ us vs : List Vn, Perms us (foundV st j.2) → vs.Perm us → Z (.d (.list (vs.map valD))) δ
theorem df_valuations (F : Facts K mg) : Df P w K mg base 6 "valuations" 2 G_valuations :=
  df_body F.d_valuations sc_valuations rfl (fun _ _ _ _ _ _ us hl => match us, hl with | [_, _], _ => rfl) fun f cdv A outer sh H E c as δ Z hr hl hG => by
  obtain ⟨st, j, rfl, hf, hnd, hne, hz⟩ := hG
  have hlen : ∀ v ∈ foundV st j.2, v.length ≤ 60 := fun v hv => hf.len j.2.length v (by rw [List.take_length]; exact hv)
  have hnum : small (foundV st j.2).length := by
    have := hf.num j.2.length
    rw [List.take_length] at this
    exact this
  refine ss_cons (se_setLc 2 (own := [("values", 4)]) (eic_of (ei_ldkM (foundV st j.2) (ee_callP (df_found_values F) hr (ea_cons (ee_var 0 rfl (ea_one (ee_var 1 rfl ⟨rfl, st, j, rfl, hf, rfl, ?_⟩))))))) sc_valuations.nd (blkOk_by (N := N_valuations) (sc := defScope s_valuations) (by decide +kernel)) (sw_true rfl rfl rfl rfl))
  refine ⟨by rw [List.length_map]; exact small_line hnum, fun i acc δ' => δ' = δ ∧ ∃ us, acc = us.map valD ∧ Perms us ((foundV st j.2).take i), ⟨rfl, [], rfl, .nil⟩, fun i y acc δi hy ⟨e1, us, e2, e3⟩ => ?_, fun acc δ' ⟨e1, us, e2, e3⟩ => ?_⟩
  · subst e1 e2
    rw [List.getElem?_map] at hy
    cases q : (foundV st j.2)[i]? with
    | none => rw [q] at hy; cases hy
    | some v =>
      rw [q] at hy
      cases hy
      have hvm := List.mem_of_getElem? q
      refine ⟨_, fun b δ2 => b = true ∧ δ2 = δi, fun s H C cl fp => eg_name 4 rfl sc_valuations.nd, fun s H C cl fp => ets_nil ⟨rfl, rfl⟩, fun δ2 hh => ?_, fun δ2 hh => Bool.noConfusion hh.1⟩
      obtain ⟨_, e⟩ := hh
      subst e
      intro s H C cl fp
      refine ee_tuple F.z_tuple (ee_new (en_lc (own := [("name", 3)]) (eic_of (ei_list (ee_new (en_sortedDk F.z_sorted (ee_var 4 rfl ⟨?_, fun ys hys => ⟨rfl, ?_⟩⟩))))) sc_valuations.nd (blkOk_by (by kernel_rfl))))
      · unfold vnD
        rw [List.length_map]
        have := hlen v hvm
        omega
      · rw [vn_keys] at hys
        have hmem : ∀ n ∈ ys, ∃ a, getV v n = some a := fun n hn => by
          obtain ⟨p, hp, rfl⟩ := List.mem_map.mp (hys.mem_iff.mp hn)
          exact ⟨p.2, map_getV v (hnd v hvm) p hp⟩
        have hys60 : ys.length ≤ 60 := by
          rw [hys.length_eq, List.length_map]
          exact hlen v hvm
        show LcZ _ _ _ _ _ _ _ _ _ (List.map _ (List.map _ ys)) _
        rw [List.map_map]
        refine lcz_map (xs := ys) (enc := fun n => .one (.d (.str n))) (f := fun n => pairD (n, (getV v n).getD (.s n))) (Nat.lt_of_le_of_lt hys60 (by rw [sizeLine_eq]; omega)) (fun n hn => ?_) ⟨rfl, ?_⟩
        · obtain ⟨a, ha⟩ := hmem n hn
          have gs : getS (vnD v) n = some a.d := by rw [getS_vn, ha]; rfl
          refine ⟨_, fun s H C cl fp => eg_name 3 rfl sc_valuations.nd, fun s H C cl fp => ?_⟩
          refine ee_tup (ea_cons (ee_var 3 rfl (ea_one (ee_dget hr (ee_var 4 rfl (ee_var 3 rfl ⟨a.d, gs, ?_, rfl⟩))))))
          rw [ha]
          rfl
        · have e5 : (ys.map fun n => pairD (n, (getV v n).getD (.s n))) = (byNames v ys).map pairD := by
            unfold byNames
            clear hys hys60
            induction ys with
            | nil => rfl
            | cons n ys ih =>
              obtain ⟨a, ha⟩ := hmem n List.mem_cons_self
              rw [List.map_cons, List.filterMap_cons, ha]
              simp only [Option.map_some, Option.getD_some, List.map_cons]
              rw [ih fun n hn => hmem n (List.mem_cons_of_mem _ hn)]
          refine ⟨rfl, us ++ [byNames v ys], ?_, ?_⟩
          · rw [List.map_append, e5]
            rfl
          · rw [List.take_add_one, q]
            exact perms_snoc e3 (byNames_perm (hnd v hvm) hys)
  · subst e1 e2
    rw [List.length_map, List.take_length] at e3
    have hul : us.length = (foundV st j.2).length := paired_len e3
    refine ⟨rfl, ss_one (se_ret (ee_new (en_sortKM valD vnkey (df_valuation_key F) hr F.z_sorted (ee_var 2 rfl ⟨us, rfl, fun u hu Z' hZ => ⟨u, rfl, ?_, hZ⟩, fun h2 ks hks => keys_rows fun k hk => ?_, fun vs hp => ⟨rfl, hz us vs e3 hp⟩⟩))))⟩
    · obtain ⟨i, hi, e⟩ := List.mem_iff_getElem.mp hu
      obtain ⟨v, e4, e5⟩ := paired_left e3 (List.getElem?_eq_getElem hi)
      rw [e] at e5
      rw [e5.length_eq]
      exact Nat.lt_of_le_of_lt (hlen v (List.mem_of_getElem? e4)) (by decide)
    · obtain ⟨u, hu, rfl⟩ := hks k hk
      refine ⟨u.map (·.2), rfl, fun e0 => ?_⟩
      have eu : u = [] := List.map_eq_nil_iff.mp e0
      obtain ⟨i, hi, e⟩ := List.mem_iff_getElem.mp hu
      obtain ⟨v, e4, e5⟩ := paired_left e3 (List.getElem?_eq_getElem hi)
      rw [e, eu] at e5
      rcases hne with hne | hne
      · omega
      · exact hne v (List.mem_of_getElem? e4) e5.symm.eq_nil
end
end Em
/-! part em9 -/
set_option Elab.async false
set_option linter.all false
set_option maxRecDepth 100000
set_option maxHeartbeats 4000000
set_option autoImplicit false
namespace Em
open PySem PySem.Spec PyProof.Rows L2 Dl
def nkV : Vl → NestedKey
  | .i n => .num n
  | .s x => .text x
theorem nkV_inj : ∀ {a b : Vl}, nkV a = nkV b → a = b
  | .i _, .i _, h => by cases h; rfl
  | .s _, .s _, h => by cases h; rfl
  | .i _, .s _, h => by cases h
  | .s _, .i _, h => by cases h
def nkRow (r : Row) : NestedKey := .tup (r.map nkV)
theorem map_inj {α β : Type} {f : α → β} (hf : ∀ {a b}, f a = f b → a = b) : ∀ {l m : List α}, l.map f = m.map f → l = m
  | [], [], _ => rfl
  | [], _ :: _, h => by cases h
  | _ :: _, [], h => by cases h
  | a :: l, b :: m, h => by
    rw [List.map_cons, List.map_cons] at h
    obtain ⟨h1, h2⟩ := List.cons.inj h
    rw [hf h1, map_inj hf h2]
theorem nkRow_inj {a b : Row} (h : nkRow a = nkRow b) : a = b := map_inj nkV_inj (NestedKey.tup.inj h)
def nkFact (f : Fact) : NestedKey := .tup [.text f.1, nkRow f.2]
theorem nkFact_inj {a b : Fact} (h : nkFact a = nkFact b) : a = b := by
  have h1 := NestedKey.tup.inj h
  obtain ⟨e1, h2⟩ := List.cons.inj h1
  obtain ⟨e2, _⟩ := List.cons.inj h2
  exact Prod.ext (NestedKey.text.inj e1) (nkRow_inj e2)
theorem datas_row : ∀ r : Row, NestedKey.datas (r.map nkV) = r.map Vl.d
  | [] => by rw [List.map_nil, NestedKey.datas]; rfl
  | .i n :: r => by rw [List.map_cons, NestedKey.datas, datas_row r]; unfold nkV; rw [NestedKey.data]; rfl
  | .s x :: r => by rw [List.map_cons, NestedKey.datas, datas_row r]; unfold nkV; rw [NestedKey.data]; rfl
theorem rowD_nk (r : Row) : rowD r = .tuple (NestedKey.datas (r.map nkV)) := by rw [datas_row]; rfl
theorem data_row (r : Row) : (nkRow r).data = rowD r := by unfold nkRow; rw [NestedKey.data, datas_row]; rfl
theorem datas_fact (f : Fact) : NestedKey.datas [.text f.1, nkRow f.2] = [.str f.1, rowD f.2] := by
  rw [NestedKey.datas, NestedKey.datas, NestedKey.datas, data_row, NestedKey.data]
theorem faD_nk (f : Fact) : faD f = .tuple (NestedKey.datas [.text f.1, nkRow f.2]) := by rw [datas_fact]; rfl
theorem data_fact (f : Fact) : (nkFact f).data = faD f := by unfold nkFact; rw [NestedKey.data, datas_fact]; rfl
theorem depth_nkV (a : Vl) : (nkV a).depth = 0 := by
  cases a <;> (unfold nkV; rw [NestedKey.depth])
theorem depth_row0 : ∀ r : Row, NestedKey.depthAll (r.map nkV) ≤ 1
  | [] => by rw [List.map_nil, NestedKey.depthAll]; exact Nat.zero_le _
  | a :: r => by
    have := depth_row0 r
    rw [List.map_cons, NestedKey.depthAll, depth_nkV]
    omega
theorem depth_nkRow (r : Row) : (nkRow r).depth ≤ 8 := by
  have := depth_row0 r
  unfold nkRow
  rw [NestedKey.depth]
  omega
theorem depth_nkFact (f : Fact) : (nkFact f).depth ≤ 8 := by
  have := depth_row0 f.2
  unfold nkFact nkRow
  rw [NestedKey.depth, NestedKey.depthAll, NestedKey.depthAll, NestedKey.depthAll, NestedKey.depth, NestedKey.depth]
  omega
def kl {α β : Type} (ek : α → NestedKey) (ed : β → PyData) (l : List (α × β)) : List (NestedKey × PyData) := l.map fun p => (ek p.1, ed p.2)
theorem find_kl {α β : Type} [DecidableEq α] {ek : α → NestedKey} {ed : β → PyData} (hi : ∀ {a b}, ek a = ek b → a = b) (a : α) : ∀ l : List (α × β), (kl ek ed l).find? (fun p => decide (p.1 = ek a)) = (l.find? fun p => decide (p.1 = a)).map fun p => (ek p.1, ed p.2)
  | [] => rfl
  | p :: l => by
    have ih := find_kl (ed := ed) hi a l
    unfold kl at ih ⊢
    rw [List.map_cons, List.find?_cons, List.find?_cons]
    by_cases e : p.1 = a
    · simp [e]
    · rw [show decide (ek p.1 = ek a) = false from decide_eq_false fun z => e (hi z), show decide (p.1 = a) = false from decide_eq_false e]
      exact ih
theorem look_kl {α β : Type} [DecidableEq α] {ek : α → NestedKey} {ed : β → PyData} (hi : ∀ {a b}, ek a = ek b → a = b) (a : α) (l : List (α × β)) : lookN (kl ek ed l) (ek a) = (l.find? fun p => decide (p.1 = a)).map fun p => ed p.2 := by
  unfold lookN
  rw [find_kl hi, Option.map_map]
  rfl
theorem put_new {α β : Type} [DecidableEq α] {ek : α → NestedKey} {ed : β → PyData} (hi : ∀ {a b}, ek a = ek b → a = b) {a : α} {b : β} {l : List (α × β)} (h : ∀ p ∈ l, p.1 ≠ a) : putN (kl ek ed l) (ek a) (ed b) = kl ek ed (l ++ [(a, b)]) := by
  unfold putN storeG
  rw [find_kl hi, List.find?_eq_none.mpr fun p hp => by simpa using h p hp]
  unfold kl
  rw [List.map_append]
  rfl
theorem put_old {α : Type} [DecidableEq α] {ek : α → NestedKey} {d : PyData} (hi : ∀ {a b}, ek a = ek b → a = b) {a : α} {l : List (α × Unit)} (h : ∃ p ∈ l, p.1 = a) : putN (kl ek (fun _ => d) l) (ek a) d = kl ek (fun _ => d) l := by
  unfold putN storeG
  have hs : ((l.find? fun p => decide (p.1 = a)).map fun p => (ek p.1, d)).isSome = true := by
    rw [Option.isSome_map, List.find?_isSome]
    obtain ⟨p, hp, e⟩ := h
    exact ⟨p, hp, decide_eq_true e⟩
  rw [find_kl hi, if_pos hs]
  unfold kl
  rw [List.map_map]
  refine List.map_congr_left fun p _ => ?_
  show (if ek p.1 = ek a then (ek p.1, d) else (ek p.1, d)) = _
  split <;> rfl
/-- each once -/
def once (l : List Row) (r : Row) : List Row := if r ∈ l then l else l ++ [r]
def dd (rs : List Row) : List Row := rs.foldl once []
theorem dd_mem (r : Row) : ∀ (rs acc : List Row), r ∈ rs.foldl once acc ↔ r ∈ acc ∨ r ∈ rs
  | [], acc => by simp
  | a :: rs, acc => by
    rw [List.foldl_cons, dd_mem r rs]
    unfold once
    by_cases h : a ∈ acc
    · rw [if_pos h, List.mem_cons]
      constructor
      · rintro (q | q)
        · exact .inl q
        · exact .inr (.inr q)
      · rintro (q | q | q)
        · exact .inl q
        · exact .inl (q ▸ h)
        · exact .inr q
    · rw [if_neg h, List.mem_append, List.mem_singleton, List.mem_cons, or_assoc]
theorem dd_len : ∀ (rs acc : List Row), (rs.foldl once acc).length ≤ acc.length + rs.length
  | [], acc => Nat.le_refl _
  | a :: rs, acc => by
    rw [List.foldl_cons]
    refine Nat.le_trans (dd_len rs _) ?_
    have : (once acc a).length ≤ acc.length + 1 := by
      unfold once
      split
      · omega
      · rw [List.length_append]; exact Nat.le_refl _
    rw [List.length_cons]
    omega
theorem dd_nodup : ∀ (rs acc : List Row), acc.Nodup → (rs.foldl once acc).Nodup
  | [], acc, h => h
  | a :: rs, acc, h => by
    rw [List.foldl_cons]
    refine dd_nodup rs _ ?_
    unfold once
    split
    · exact h
    · rename_i hn
      exact List.nodup_append.mpr ⟨h, by simp, fun x hx y hy e => hn (by rw [List.mem_singleton] at hy; rw [← hy, ← e]; exact hx)⟩
section
variable {P : Program} {w : World} {K : PySem.W.Frag} {mg : Str → Option Value} {base : Heap}
abbrev onceD (l : List Row) : List (NestedKey × PyData) := kl nkRow (fun _ => .bool true) (l.map fun r => (r, ()))
theorem once_put (l : List Row) (r : Row) : putN (onceD l) (nkRow r) (.bool true) = onceD (once l r) := by
  unfold once onceD
  split
  · rename_i h
    exact put_old nkRow_inj ⟨(r, ()), List.mem_map_of_mem h, rfl⟩
  · rename_i h
    rw [List.map_append]
    refine put_new (ed := fun _ : Unit => .bool true) (b := ()) nkRow_inj fun p hp e => h ?_
    obtain ⟨q, hq, rfl⟩ := List.mem_map.mp hp
    exact e ▸ hq
def G_sorted_rows : GD := fun as δ Z => ∃ rs : List Row, as = [.v (.d (.list (rs.map rowD)))] ∧ small rs.length ∧ (∀ r ∈ rs, small r.length) ∧ ((∀ r ∈ rs, r ≠ []) ∨ ∀ r ∈ rs, r = []) ∧
  ∀ out : List Row, (∀ r, r ∈ out ↔ r ∈ rs) → out.length ≤ rs.length → Z (.d (.list (out.map rowD))) δ
theorem df_sorted_rows (F : Facts K mg) : Df P w K mg base 5 "sorted_rows" 1 G_sorted_rows :=
  df_body F.d_sorted_rows sc_sorted_rows rfl (fun _ _ _ _ _ _ us hl => match us, hl with | [_], _ => rfl) fun f cdv A outer sh H E c as δ Z hr hl hG => by
  obtain ⟨rs, rfl, hs, hsr, hne, hz⟩ := hG
  refine ss_cons (se_setDcN 1 (own := [("row", 2)]) hr (eic_of (ei_listM rowD rs (ee_var 0 rfl ⟨rfl, ?_⟩))) sc_sorted_rows.nd (blkOk_by (N := N_sorted_rows) (sc := defScope s_sorted_rows) (by decide +kernel)) (sw_trueD rfl rfl rfl rfl))
  refine ⟨by rw [List.length_map]; exact small_line hs, fun i acc δ' => δ' = δ ∧ acc = onceD ((rs.take i).foldl once []), ⟨rfl, rfl⟩, fun i y acc δi hy ⟨e1, e2⟩ => ?_, fun acc δ' ⟨e1, e2⟩ => ?_⟩
  · subst e1 e2
    rw [List.getElem?_map] at hy
    cases q : rs[i]? with
    | none => rw [q] at hy; cases hy
    | some r =>
      rw [q] at hy
      cases hy
      refine ⟨_, fun b δ2 => b = true ∧ δ2 = δi, fun s H C cl fp => eg_name 2 rfl sc_sorted_rows.nd, fun s H C cl fp => ets_nil ⟨rfl, rfl⟩, fun δ2 hh => ?_, fun δ2 hh => Bool.noConfusion hh.1⟩
      obtain ⟨_, e⟩ := hh
      subst e
      intro s H C cl fp
      refine ee_var 2 rfl ⟨r.map nkV, by rw [rowD_nk], depth_nkRow r, fun s H C cl fp => ee_bl ⟨rfl, ?_⟩⟩
      rw [List.take_add_one, q, List.foldl_append]
      exact once_put _ r
  · subst e1 e2
    rw [List.length_map, List.take_length]
    have hdl := dd_len rs []
    have hmem : ∀ r, r ∈ dd rs ↔ r ∈ rs := fun r => (dd_mem r rs []).trans ⟨fun h => h.elim (fun z => by cases z) id, .inr⟩
    refine ss_one (se_ret (ee_new (en_sortKM rowD rkey (df_row_key F) hr F.z_sorted (ee_new (en_listN F.z_list (ee_var 1 rfl ⟨_, rfl, rfl, dd rs, ?_, fun r hr Z' hZ => ⟨r, rfl, hsr r ((hmem r).mp hr), hZ⟩, fun h2 ks hks => keys_rows fun k hk => ?_, fun out hp => ⟨rfl, hz out (fun r => (hp.mem_iff).trans (hmem r)) ?_⟩⟩))))))
    · unfold onceD kl
      rw [List.map_map, List.map_map]
      exact congrArg (fun l => Dl.Arg.v (Wd.d (.list l))) (List.map_congr_left fun r _ => data_row r)
    · obtain ⟨r, hr, rfl⟩ := hks k hk
      refine ⟨r, rfl, fun e => ?_⟩
      rcases hne with hne | hne
      · exact hne r ((hmem r).mp hr) e
      · have nd : (dd rs).Nodup := dd_nodup rs [] List.nodup_nil
        match hd : dd rs, h2, nd with
        | [], h2, _ => exact absurd h2 (by simp)
        | [_], h2, _ => exact absurd h2 (by simp)
        | a :: b :: l, _, nd =>
          have ha := hne a ((hmem a).mp (by rw [hd]; simp))
          have hb := hne b ((hmem b).mp (by rw [hd]; simp))
          rw [ha, hb] at nd
          simp at nd
    · rw [hp.length_eq]
      refine Nat.le_trans hdl ?_
      simp
end
end Em
/-! part em10 -/
set_option Elab.async false
set_option linter.all false
set_option maxRecDepth 100000
set_option maxHeartbeats 4000000
set_option autoImplicit false
namespace Em
open PySem PySem.Spec PyProof.Rows L2 Dl
def keyN (s : Sch) (n : Str) : Nat := (keyLen s n).getD 0
def placeF (s : Sch) (f : Fact) : Fact := placeOf f (keyN s f.1)
abbrev Bl := List (Fact × List Row)
def rowsAt (s : Sch) (st : List Fact) (k : Fact) : List Row := (st.filter fun f => decide (placeF s f = k)).map (·.2)
/-- gs: the rows of the store by their places -/
structure IsGr (s : Sch) (st : List Fact) (gs : Bl) : Prop where
  nd : (gs.map (·.1)).Nodup
  rows : ∀ g ∈ gs, g.2 = rowsAt s st g.1 ∧ g.2 ≠ []
  all : ∀ f ∈ st, ∃ g ∈ gs, g.1 = placeF s f
def putT (gs : Bl) (k : Fact) (r : Row) : Bl := if (gs.find? fun g => decide (g.1 = k)).isSome = true then gs.map (fun g => if g.1 = k then (g.1, g.2 ++ [r]) else g) else gs ++ [(k, [r])]
theorem putT_gr {s : Sch} {st : List Fact} {gs : Bl} {f : Fact} (h : IsGr s st gs) : IsGr s (st ++ [f]) (putT gs (placeF s f) f.2) := by
  have ra : ∀ k, rowsAt s (st ++ [f]) k = rowsAt s st k ++ (if placeF s f = k then [f.2] else []) := fun k => by
    unfold rowsAt
    rw [List.filter_append, List.map_append, List.filter_cons]
    by_cases e : placeF s f = k
    · simp [e]
    · simp [e]
  unfold putT
  by_cases q : (gs.find? fun g => decide (g.1 = placeF s f)).isSome = true
  · rw [if_pos q]
    refine ⟨?_, fun g hg => ?_, fun f' hf => ?_⟩
    · rw [List.map_map]
      rw [List.map_congr_left (g := (·.1)) fun g _ => ?_]
      · exact h.nd
      · show (if g.1 = placeF s f then (g.1, g.2 ++ [f.2]) else g).1 = g.1
        split <;> rfl
    · obtain ⟨g', hg', rfl⟩ := List.mem_map.mp hg
      obtain ⟨h1, h2⟩ := h.rows g' hg'
      by_cases e : g'.1 = placeF s f
      · rw [if_pos e]
        refine ⟨?_, by simp⟩
        show g'.2 ++ [f.2] = _
        rw [ra, ← h1, if_pos e.symm]
      · rw [if_neg e]
        refine ⟨?_, h2⟩
        rw [ra, if_neg fun z => e z.symm, List.append_nil]
        exact h1
    · rcases List.mem_append.mp hf with hf | hf
      · obtain ⟨g, hg, e⟩ := h.all f' hf
        exact ⟨_, List.mem_map_of_mem hg, by split <;> exact e⟩
      · rw [List.mem_singleton] at hf
        subst hf
        rw [List.find?_isSome] at q
        obtain ⟨g, hg, e⟩ := q
        exact ⟨_, List.mem_map_of_mem hg, by split <;> exact of_decide_eq_true e⟩
  · rw [if_neg q]
    have hno : ∀ g ∈ gs, g.1 ≠ placeF s f := fun g hg e => q (by rw [List.find?_isSome]; exact ⟨g, hg, decide_eq_true e⟩)
    refine ⟨?_, fun g hg => ?_, fun f' hf => ?_⟩
    · rw [List.map_append]
      refine List.nodup_append.mpr ⟨h.nd, by simp, fun a ha c hc e => ?_⟩
      obtain ⟨g, hg, rfl⟩ := List.mem_map.mp ha
      have hc' : c = placeF s f := by simpa using hc
      exact hno g hg (by rw [e, hc'])
    · rcases List.mem_append.mp hg with hg | hg
      · obtain ⟨h1, h2⟩ := h.rows g hg
        refine ⟨?_, h2⟩
        rw [ra, if_neg fun z => hno g hg z.symm, List.append_nil]
        exact h1
      · rw [List.mem_singleton] at hg
        subst hg
        refine ⟨?_, by simp⟩
        show [f.2] = _
        rw [ra, if_pos rfl]
        have : rowsAt s st (placeF s f) = [] := by
          unfold rowsAt
          rw [List.map_eq_nil_iff, List.filter_eq_nil_iff]
          intro f' hf' e
          obtain ⟨g, hg, e2⟩ := h.all f' hf'
          exact hno g hg (e2.trans (of_decide_eq_true e))
        rw [this]
        rfl
    · rcases List.mem_append.mp hf with hf | hf
      · obtain ⟨g, hg, e⟩ := h.all f' hf
        exact ⟨g, List.mem_append_left _ hg, e⟩
      · rw [List.mem_singleton] at hf
        subst hf
        exact ⟨_, List.mem_append_right _ (List.mem_singleton.mpr rfl), rfl⟩
def groupsT (s : Sch) (st : List Fact) : Bl := st.foldl (fun gs f => putT gs (placeF s f) f.2) []
theorem groupsT_gr (s : Sch) : ∀ (st st0 : List Fact) (gs : Bl), IsGr s st0 gs → IsGr s (st0 ++ st) (st.foldl (fun gs f => putT gs (placeF s f) f.2) gs)
  | [], st0, gs, h => by rw [List.append_nil]; exact h
  | f :: st, st0, gs, h => by
    rw [List.foldl_cons, show st0 ++ f :: st = (st0 ++ [f]) ++ st by simp]
    exact groupsT_gr s st _ _ (putT_gr h)
theorem groups_is (s : Sch) (st : List Fact) : IsGr s st (groupsT s st) := groupsT_gr s st [] [] ⟨List.nodup_nil, fun g hg => (by cases hg), fun f hf => (by cases hf)⟩
def gsD (gs : Bl) : Gs := gs.map fun g => (nkFact g.1, g.2.map rowD)
theorem putG_T (gs : Bl) (k : Fact) (r : Row) : putG (gsD gs) (nkFact k) (rowD r) = gsD (putT gs k r) := by
  have hf : ∀ l : Bl, (gsD l).find? (fun g => decide (g.1 = nkFact k)) = (l.find? fun g => decide (g.1 = k)).map fun g => (nkFact g.1, g.2.map rowD) := fun l => by
    induction l with
    | nil => rfl
    | cons g l ih =>
      unfold gsD at ih ⊢
      rw [List.map_cons, List.find?_cons, List.find?_cons]
      by_cases e : g.1 = k
      · simp [e]
      · rw [show decide (nkFact g.1 = nkFact k) = false from decide_eq_false fun z => e (nkFact_inj z), show decide (g.1 = k) = false from decide_eq_false e]
        exact ih
  unfold putG storeG putT
  rw [hf gs, Option.isSome_map]
  split
  · unfold gsD
    rw [List.map_map, List.map_map]
    refine List.map_congr_left fun g _ => ?_
    by_cases e : g.1 = k
    · have e2 : nkFact g.1 = nkFact k := by rw [e]
      simp only [Function.comp, e2, if_true, e, List.map_append, List.map_cons, List.map_nil]
    · have e2 : nkFact g.1 ≠ nkFact k := fun z => e (nkFact_inj z)
      simp only [Function.comp, e2, if_false, e]
  · unfold gsD
    rw [List.map_append]
    rfl
def kdOf (s : Sch) (f : Fact) : List NestedKey × PyData := ([.text f.1, nkRow (f.2.take (keyN s f.1))], rowD f.2)
theorem groupsD (s : Sch) : ∀ (st : List Fact) (gs : Bl), (st.map (kdOf s)).foldl (fun gs kd => putG gs (.tup kd.1) kd.2) (gsD gs) = gsD (st.foldl (fun gs f => putT gs (placeF s f) f.2) gs)
  | [], gs => rfl
  | f :: st, gs => by
    rw [List.map_cons, List.foldl_cons, List.foldl_cons, ← groupsD s st]
    congr 1
    exact putG_T gs (placeF s f) f.2
section
variable {P : Program} {w : World} {K : PySem.W.Frag} {mg : Str → Option Value} {base : Heap}
def blD (b : Fact × List Row) : PyData := .tuple [.str b.1.1, rowD b.1.2, rowsD b.2]
def G_blocks_of : GD := fun as δ Z => ∃ (s : Sch) (st : List Fact), as = [.v (.d (scD s)), .v (.d (stD st))] ∧ small s.length ∧ small st.length ∧ (∀ f ∈ st, ∃ k, keyLen s f.1 = some k) ∧ ∀ gs, IsGr s st gs → gs.length ≤ st.length → Z (.d (.tuple (gs.map blD))) δ
theorem df_blocks_of (F : Facts K mg) : Df P w K mg base 3 "blocks_of" 2 G_blocks_of :=
  df_body F.d_blocks_of sc_blocks_of rfl (fun _ _ _ _ _ _ us hl => match us, hl with | [_, _], _ => rfl) fun f cdv A outer sh H E c as δ Z hr hl hG => by
  obtain ⟨s, st, rfl, hs, hst, hk, hz⟩ := hG
  refine ss_cons (se_setN 2 (en_dn0 ?_) sc_blocks_of.nd)
  refine ss_cons (se_groups 2 3 hr rfl (by decide) (by show 3 < 6; decide) rfl (ei_tupM faD st (ee_var 1 rfl ⟨rfl, rfl, st.map (kdOf s), by rw [List.length_map, List.length_map], by rw [List.length_map]; exact small_line hst, fun j y kd hy hkd => ?_, fun o => ?_⟩)) sc_blocks_of.nd)
  · rw [List.getElem?_map] at hy hkd
    cases q : st[j]? with
    | none => rw [q] at hy; cases hy
    | some f =>
      rw [q] at hy hkd
      cases hy
      cases hkd
      obtain ⟨k, hk⟩ := hk f (List.mem_of_getElem? q)
      have ek : keyN s f.1 = k := by unfold keyN; rw [hk]; rfl
      refine ⟨_, rfl, depth_nkFact (placeF s f), ?_, ?_⟩
      · refine ee_tup (ea_cons (ee_ixT (ee_var 3 rfl (ee_int ⟨.str f.1, rfl, ?_⟩))))
        refine ea_one (ee_callP (df_key_of F) hr (ea_cons (ee_var 0 rfl (ea_one (ee_var 3 rfl ⟨rfl, s, f, k, rfl, hs, hk, rfl, ?_⟩)))))
        show Dl.Arg.v (Wd.d (.tuple [.str f.1, rowD (f.2.take k)])) = _
        rw [show kdOf s f = ([.text f.1, nkRow (f.2.take k)], rowD f.2) by unfold kdOf; rw [ek]]
        rw [datas_fact (f.1, f.2.take k)]
      · exact ee_ixT (ee_var 3 rfl (ee_int ⟨rowD f.2, rfl, rfl, rfl⟩))
  · have eg : groupsOf (st.map (kdOf s)) = gsD (groupsT s st) := groupsD s st []
    have hlen : (groupsT s st).length ≤ st.length := by
      have h1 := groups_len (st.map (kdOf s)) []
      have h2 : (groupsOf (st.map (kdOf s))).length ≤ 0 + (st.map (kdOf s)).length := h1
      rw [eg, List.length_map] at h2
      unfold gsD at h2
      rw [List.length_map] at h2
      omega
    rw [eg]
    have e2 : (gsD (groupsT s st)).map (fun g => ((g.1, .list g.2) : NestedKey × PyData)) = (groupsT s st).map fun g => (nkFact g.1, .list (g.2.map rowD)) := by
      unfold gsD
      rw [List.map_map]
      rfl
    rw [e2]
    refine ss_one (se_ret (ee_tuple F.z_tuple (ee_new (en_lc (own := [("place", 4), ("rows", 5)]) (eic_of (ei_dnItems (ee_var 2 rfl ?_))) sc_blocks_of.nd (blkOk_by (N := N_blocks_of) (sc := defScope s_blocks_of) (by decide +kernel))))))
    show LcZ _ _ _ _ _ _ _ _ _ (List.map _ (List.map _ (groupsT s st))) _
    rw [List.map_map]
    refine lcz_map (f := blD) (small_line (Nat.lt_of_le_of_lt hlen hst)) (fun g hg => ⟨_, fun s H C cl fp => eg_tup (ws := [.d (nkFact g.1).data, .d (.list (g.2.map rowD))]) rfl (egs_cons (eg_name 4 (egs_cons (eg_name 5 (egs_nil rfl) sc_blocks_of.nd)) sc_blocks_of.nd)), fun s H C cl fp => ?_⟩) ⟨rfl, hz _ (groups_is s st) hlen⟩
    rw [data_fact]
    refine ee_tup (ea_cons (ee_ixT (ee_var 4 rfl (ee_int ⟨.str g.1.1, rfl, ?_⟩))))
    refine ea_cons (ee_ixT (ee_var 4 rfl (ee_int ⟨rowD g.1.2, rfl, ?_⟩)))
    exact ea_one (ee_tuple F.z_tuple (ee_var 5 rfl ⟨rfl, rfl⟩))
end
end Em
/-! part ma1 -/
set_option Elab.async false
set_option linter.all false
set_option maxRecDepth 100000
set_option maxHeartbeats 4000000
set_option autoImplicit false
/-! Ma1: valuations. -/
namespace Em
open PySem PySem.Spec
def tmT (t : Str → Vl) : Tm → Vl
  | .v a => a
  | .x n => t n
def instT (t : Str → Vl) (a : Atom) : Fact := (a.1, a.2.map (tmT t))
def Sat (st : List Fact) (body : List Atom) : Prop := ∃ t : Str → Vl, ∀ a ∈ body, instT t a ∈ st
def thV (v : Vn) : Str → Vl := fun n => (getV v n).getD (.s n)
theorem valT_th (v : Vn) (t : Tm) : valT v t = tmT (thV v) t := by cases t <;> rfl
theorem instA_th (v : Vn) (a : Atom) : instA v a = instT (thV v) a := by
  unfold instA instT
  rw [List.map_congr_left fun t _ => valT_th v t]
theorem getV_app (v : Vn) (n : Str) (b : Vl) (m : Str) : getV (v ++ [(n, b)]) m = match getV v m with | some a => some a | none => if n = m then some b else none := by
  unfold getV
  rw [List.find?_append]
  cases q : v.find? (fun p => decide (p.1 = m)) with
  | some p => rfl
  | none =>
    simp only [Option.none_or, List.find?_cons, List.find?_nil, Option.map_none]
    by_cases e : n = m
    · simp [e]
    · simp [e]
theorem getV_none {v : Vn} {n : Str} : getV v n = none ↔ n ∉ v.map (·.1) := by
  unfold getV
  rw [Option.map_eq_none_iff, List.find?_eq_none]
  constructor
  · intro h hm
    obtain ⟨p, hp, e⟩ := List.mem_map.mp hm
    exact h p hp (decide_eq_true e)
  · intro h p hp e
    exact h (List.mem_map.mpr ⟨p, hp, of_decide_eq_true e⟩)
/-- g knows all that v knows -/
def Ext (v g : Vn) : Prop := ∀ n a, getV v n = some a → getV g n = some a
theorem Ext.refl (v : Vn) : Ext v v := fun _ _ h => h
theorem Ext.trans {v g h : Vn} (a : Ext v g) (b : Ext g h) : Ext v h := fun n x e => b n x (a n x e)
def Agr (v : Vn) (t : Str → Vl) : Prop := ∀ n a, getV v n = some a → t n = a
structure Step (v g : Vn) (ts : List Tm) : Prop where
  ext : Ext v g
  bnd : Bound g ts
  nd : (v.map (·.1)).Nodup → (g.map (·.1)).Nodup
  keys : ∀ n, n ∈ g.map (·.1) → n ∈ v.map (·.1) ∨ Tm.x n ∈ ts
  len : g.length ≤ v.length + ts.length
theorem bindTm_sound {v g : Vn} {t : Tm} {b : Vl} (h : bindTm v t b = some g) : Step v g [t] ∧ valT g t = b := by
  cases t with
  | v a =>
    rw [bindTm_v] at h
    split at h
    · rename_i e
      cases Option.some.inj h
      exact ⟨⟨.refl _, fun n hn => by simp at hn, fun h => h, fun n hn => .inl hn, Nat.le_add_right _ _⟩, e⟩
    · exact nomatch h
  | x n =>
    cases q : getV v n with
    | some a =>
      rw [bindTm_some b q] at h
      split at h
      · rename_i e
        cases Option.some.inj h
        refine ⟨⟨.refl _, fun m hm => ?_, fun h => h, fun n hn => .inl hn, Nat.le_add_right _ _⟩, ?_⟩
        · have : m = n := by simpa using hm
          rw [this]
          exact ⟨a, q⟩
        · unfold valT
          simp only [q]
          exact e
      · exact nomatch h
    | none =>
      rw [bindTm_none b q] at h
      cases Option.some.inj h
      have hg : getV (v ++ [(n, b)]) n = some b := by rw [getV_app, q]; simp
      refine ⟨⟨fun m a e => by rw [getV_app, e], fun m hm => ?_, fun hnd => ?_, fun m hm => ?_, by simp⟩, ?_⟩
      · have : m = n := by simpa using hm
        rw [this]
        exact ⟨b, hg⟩
      · rw [List.map_append]
        refine List.nodup_append.mpr ⟨hnd, by simp, fun x hx y hy e => ?_⟩
        have hy' : y = n := by simpa using hy
        exact getV_none.mp q (by rw [← hy', ← e]; exact hx)
      · rw [List.map_append] at hm
        rcases List.mem_append.mp hm with hm | hm
        · exact .inl hm
        · have : m = n := by simpa using hm
          rw [this]
          exact .inr (by simp)
      · unfold valT
        simp only [hg]
        rfl
theorem valT_ext {v g : Vn} {t : Tm} (h : Ext v g) (hb : Bound v [t]) : valT g t = valT v t := by
  cases t with
  | v a => rfl
  | x n =>
    obtain ⟨a, ha⟩ := hb n (by simp)
    show (getV g n).getD _ = (getV v n).getD _
    rw [ha, h n a ha]
theorem bound_ext {v g : Vn} {ts : List Tm} (h : Ext v g) (hb : Bound v ts) : Bound g ts := fun n hn => let ⟨a, ha⟩ := hb n hn; ⟨a, h n a ha⟩
theorem valTs_ext {v g : Vn} {ts : List Tm} (h : Ext v g) (hb : Bound v ts) : ts.map (valT g) = ts.map (valT v) := List.map_congr_left fun t ht => valT_ext h fun n hn => hb n (by
  have : Tm.x n = t := by simpa using hn
  rw [this]; exact ht)
theorem bindRow_sound : ∀ {ts : List Tm} {r : Row} {v g : Vn}, r.length = ts.length → bindRow ts r v = some g → Step v g ts ∧ ts.map (valT g) = r
  | [], [], v, g, _, h => by
    unfold bindRow at h
    cases Option.some.inj h
    exact ⟨⟨.refl _, fun n hn => (by cases hn), fun h => h, fun n hn => .inl hn, Nat.le_refl _⟩, rfl⟩
  | [], _ :: _, _, _, hl, _ => by simp at hl
  | _ :: _, [], _, _, hl, _ => by simp at hl
  | t :: ts, b :: r, v, g, hl, h => by
    rw [bindRow] at h
    obtain ⟨u, hu, hg⟩ := Option.bind_eq_some_iff.mp h
    obtain ⟨s1, e1⟩ := bindTm_sound hu
    obtain ⟨s2, e2⟩ := bindRow_sound (by simpa using hl) hg
    refine ⟨⟨s1.ext.trans s2.ext, fun n hn => ?_, fun hnd => s2.nd (s1.nd hnd), fun n hn => ?_, ?_⟩, ?_⟩
    · rcases List.mem_cons.mp hn with q | q
      · exact bound_ext s2.ext s1.bnd n (by rw [q]; simp)
      · exact s2.bnd n q
    · rcases s2.keys n hn with q | q
      · rcases s1.keys n q with z | z
        · exact .inl z
        · exact .inr (by rw [List.mem_singleton] at z; rw [z]; simp)
      · exact .inr (List.mem_cons_of_mem _ q)
    · have := s1.len
      have := s2.len
      simp only [List.length_cons, List.length_nil] at *
      omega
    · rw [List.map_cons, e2, valT_ext s2.ext s1.bnd, e1]
theorem bindTm_comp {v : Vn} {t : Tm} {b : Vl} {th : Str → Vl} (ha : Agr v th) (e : tmT th t = b) : ∃ g, bindTm v t b = some g ∧ Agr g th := by
  cases t with
  | v a =>
    have e' : a = b := e
    rw [bindTm_v, if_pos e']
    exact ⟨v, rfl, ha⟩
  | x n =>
    cases q : getV v n with
    | some a =>
      have : a = b := by rw [← e, ← ha n a q]; rfl
      rw [bindTm_some b q, if_pos this]
      exact ⟨v, rfl, ha⟩
    | none =>
      rw [bindTm_none b q]
      refine ⟨_, rfl, fun m a hm => ?_⟩
      rw [getV_app] at hm
      cases q2 : getV v m with
      | some a' =>
        rw [q2] at hm
        cases Option.some.inj hm
        exact ha m a q2
      | none =>
        rw [q2] at hm
        simp only at hm
        split at hm
        · rename_i enm
          cases Option.some.inj hm
          rw [← enm, ← e]
          rfl
        · exact nomatch hm
theorem bindRow_comp : ∀ {ts : List Tm} {r : Row} {v : Vn} {th : Str → Vl}, Agr v th → ts.map (tmT th) = r → ∃ g, bindRow ts r v = some g ∧ Agr g th
  | [], r, v, th, ha, e => by
    subst e
    exact ⟨v, rfl, ha⟩
  | t :: ts, r, v, th, ha, e => by
    subst e
    rw [List.map_cons, bindRow]
    obtain ⟨g, h1, h2⟩ := bindTm_comp (t := t) ha rfl
    obtain ⟨g2, h3, h4⟩ := bindRow_comp (ts := ts) h2 rfl
    exact ⟨g2, by rw [h1]; exact h3, h4⟩
theorem mem_rowsOf {st : List Fact} {n : Str} {r : Row} : r ∈ rowsOf st n ↔ (n, r) ∈ st := by
  unfold rowsOf
  rw [List.mem_map]
  constructor
  · rintro ⟨f, hf, rfl⟩
    obtain ⟨h1, h2⟩ := List.mem_filter.mp hf
    rw [← of_decide_eq_true h2]
    exact h1
  · intro h
    exact ⟨(n, r), List.mem_filter.mpr ⟨h, decide_eq_true rfl⟩, rfl⟩
theorem foundV_cat (st : List Fact) (b : List Atom) (a : Atom) : foundV st (b ++ [a]) = stepV st (foundV st b) a := by
  unfold foundV
  rw [List.foldl_append]
  rfl
abbrev Arity (st : List Fact) (body : List Atom) : Prop := ∀ a ∈ body, ∀ f ∈ st, f.1 = a.1 → f.2.length = a.2.length
/-- what a valuation found is -/
structure FV (st : List Fact) (body : List Atom) (v : Vn) : Prop where
  nd : (v.map (·.1)).Nodup
  inst : ∀ a ∈ body, instA v a ∈ st
  bnd : ∀ a ∈ body, Bound v a.2
  keys : ∀ n, n ∈ v.map (·.1) → ∃ a ∈ body, Tm.x n ∈ a.2
theorem found_sound : ∀ (n : Nat) {st : List Fact} {body : List Atom}, body.length = n → Arity st body → ∀ v ∈ foundV st body, FV st body v
  | 0, st, body, hn, _, v, hv => by
    have e : body = [] := List.eq_nil_of_length_eq_zero hn
    subst e
    have : v = [] := by simpa [foundV] using hv
    subst this
    exact ⟨List.nodup_nil, fun a ha => (by cases ha), fun a ha => (by cases ha), fun n hn => (by cases hn)⟩
  | n + 1, st, body, hn, har, v, hv => by
    obtain ⟨b, a, rfl⟩ : ∃ b a, body = b ++ [a] := ⟨body.dropLast, body.getLast (fun z => by rw [z] at hn; cases hn), (List.dropLast_concat_getLast _).symm⟩
    rw [foundV_cat] at hv
    unfold stepV at hv
    obtain ⟨u, hu, hm⟩ := List.mem_flatMap.mp hv
    unfold moreV at hm
    obtain ⟨r, hr, hb⟩ := List.mem_filterMap.mp hm
    have hst := mem_rowsOf.mp hr
    have hl : r.length = a.2.length := har a (by simp) _ hst rfl
    have ih := found_sound n (st := st) (body := b) (by simpa using hn) (fun a' ha' => har a' (List.mem_append_left _ ha')) u hu
    obtain ⟨sp, er⟩ := bindRow_sound hl hb
    refine ⟨sp.nd ih.nd, fun a' ha' => ?_, fun a' ha' => ?_, fun n hn => ?_⟩
    · rcases List.mem_append.mp ha' with q | q
      · have : instA v a' = instA u a' := by unfold instA; rw [valTs_ext sp.ext (ih.bnd a' q)]
        rw [this]
        exact ih.inst a' q
      · rw [List.mem_singleton] at q
        subst q
        unfold instA
        rw [er]
        exact hst
    · rcases List.mem_append.mp ha' with q | q
      · exact bound_ext sp.ext (ih.bnd a' q)
      · rw [List.mem_singleton] at q
        subst q
        exact sp.bnd
    · rcases sp.keys n hn with q | q
      · obtain ⟨a', h1, h2⟩ := ih.keys n q
        exact ⟨a', List.mem_append_left _ h1, h2⟩
      · exact ⟨a, by simp, q⟩
theorem found_comp : ∀ (n : Nat) {st : List Fact} {body : List Atom} {th : Str → Vl}, body.length = n → (∀ a ∈ body, instT th a ∈ st) → ∃ v ∈ foundV st body, Agr v th
  | 0, st, body, th, hn, _ => by
    have e : body = [] := List.eq_nil_of_length_eq_zero hn
    subst e
    exact ⟨[], by simp [foundV], fun n a h => (by cases h)⟩
  | n + 1, st, body, th, hn, h => by
    obtain ⟨b, a, rfl⟩ : ∃ b a, body = b ++ [a] := ⟨body.dropLast, body.getLast (fun z => by rw [z] at hn; cases hn), (List.dropLast_concat_getLast _).symm⟩
    obtain ⟨u, hu, ag⟩ := found_comp n (st := st) (body := b) (by simpa using hn) fun a' ha' => h a' (List.mem_append_left _ ha')
    obtain ⟨g, h1, h2⟩ := bindRow_comp (ts := a.2) ag rfl
    refine ⟨g, ?_, h2⟩
    rw [foundV_cat]
    unfold stepV
    refine List.mem_flatMap.mpr ⟨u, hu, ?_⟩
    unfold moreV
    exact List.mem_filterMap.mpr ⟨_, mem_rowsOf.mpr (h a (by simp)), h1⟩
theorem found_sat {st : List Fact} {body : List Atom} (har : Arity st body) : foundV st body ≠ [] ↔ Sat st body := by
  constructor
  · intro h
    obtain ⟨v, hv⟩ := List.exists_mem_of_ne_nil _ h
    exact ⟨thV v, fun a ha => by rw [← instA_th]; exact (found_sound _ rfl har v hv).inst a ha⟩
  · rintro ⟨th, h⟩ e
    obtain ⟨v, hv, _⟩ := found_comp _ rfl h
    rw [e] at hv
    cases hv
theorem Sat.mono {st st' : List Fact} {body : List Atom} (h : Sat st body) (sub : ∀ f ∈ st, f ∈ st') : Sat st' body := let ⟨t, ht⟩ := h; ⟨t, fun a ha => sub _ (ht a ha)⟩
/-- names in another order -/
theorem getV_perm {u v : Vn} (p : u.Perm v) (hnd : (v.map (·.1)).Nodup) (n : Str) : getV u n = getV v n := by
  have hu : (u.map (·.1)).Nodup := (p.map (·.1)).nodup_iff.mpr hnd
  cases q : getV v n with
  | none =>
    rw [getV_none] at q ⊢
    exact fun h => q ((p.map (·.1)).mem_iff.mp h)
  | some a => exact map_getV u hu (n, a) (p.mem_iff.mpr (getV_mem q))
theorem valT_perm {u v : Vn} (p : u.Perm v) (hnd : (v.map (·.1)).Nodup) (t : Tm) : valT u t = valT v t := by
  cases t with
  | v a => rfl
  | x n =>
    show (getV u n).getD _ = (getV v n).getD _
    rw [getV_perm p hnd]
theorem instA_perm {u v : Vn} (p : u.Perm v) (hnd : (v.map (·.1)).Nodup) (a : Atom) : instA u a = instA v a := by
  unfold instA
  rw [List.map_congr_left fun t _ => valT_perm p hnd t]
theorem bound_perm {u v : Vn} (p : u.Perm v) (hnd : (v.map (·.1)).Nodup) {ts : List Tm} (h : Bound v ts) : Bound u ts := fun n hn => by
  rw [getV_perm p hnd]
  exact h n hn
end Em
/-! part ma2 -/
set_option Elab.async false
set_option linter.all false
set_option maxRecDepth 100000
set_option maxHeartbeats 4000000
set_option autoImplicit false
/-! Ma2: sizes. -/
namespace Em
open PySem PySem.Spec
/-- valuations may be asked -/
structure VOk (st : List Fact) (body : List Atom) : Prop where
  fits : Fits st body
  nd : ∀ v ∈ foundV st body, (v.map (·.1)).Nodup
  one : (foundV st body).length ≤ 1 ∨ ∀ v ∈ foundV st body, v ≠ []
structure Tiny (st : List Fact) (body : List Atom) : Prop where
  nd : st.Nodup
  num : st.length ≤ 8
  row : ∀ f ∈ st, f.2.length ≤ 8
  bodyN : body.length ≤ 3
  ar : Arity st body
  arN : ∀ a ∈ body, a.2.length ≤ 8
theorem rowsOf_len (st : List Fact) (n : Str) : (rowsOf st n).length ≤ st.length := by
  unfold rowsOf
  rw [List.length_map]
  exact List.length_filter_le _ _
theorem flatMap_le {α β : Type} {f : α → List β} {k : Nat} : ∀ (l : List α), (∀ a ∈ l, (f a).length ≤ k) → (l.flatMap f).length ≤ l.length * k
  | [], _ => by simp
  | a :: l, h => by
    rw [List.flatMap_cons, List.length_append, List.length_cons, Nat.succ_mul]
    have := h a List.mem_cons_self
    have := flatMap_le l fun b hb => h b (List.mem_cons_of_mem _ hb)
    omega
theorem found_num {st : List Fact} (hs : st.length ≤ 8) : ∀ (n : Nat) {body : List Atom}, body.length = n → (foundV st body).length ≤ 8 ^ n
  | 0, body, hn => by
    have e : body = [] := List.eq_nil_of_length_eq_zero hn
    subst e
    simp [foundV]
  | n + 1, body, hn => by
    obtain ⟨b, a, rfl⟩ : ∃ b a, body = b ++ [a] := ⟨body.dropLast, body.getLast (fun z => by rw [z] at hn; cases hn), (List.dropLast_concat_getLast _).symm⟩
    rw [foundV_cat]
    unfold stepV
    refine Nat.le_trans (flatMap_le (k := 8) _ fun v _ => ?_) ?_
    · unfold moreV
      exact Nat.le_trans (List.length_filterMap_le _ _) (Nat.le_trans (rowsOf_len _ _) hs)
    · rw [Nat.pow_succ]
      exact Nat.mul_le_mul_right _ (found_num hs n (by simpa using hn))
theorem found_len {st : List Fact} : ∀ (n : Nat) {body : List Atom}, body.length = n → Arity st body → (∀ a ∈ body, a.2.length ≤ 8) → ∀ v ∈ foundV st body, v.length ≤ 8 * n
  | 0, body, hn, _, _, v, hv => by
    have e : body = [] := List.eq_nil_of_length_eq_zero hn
    subst e
    have : v = [] := by simpa [foundV] using hv
    subst this
    exact Nat.zero_le _
  | n + 1, body, hn, har, ha8, v, hv => by
    obtain ⟨b, a, rfl⟩ : ∃ b a, body = b ++ [a] := ⟨body.dropLast, body.getLast (fun z => by rw [z] at hn; cases hn), (List.dropLast_concat_getLast _).symm⟩
    rw [foundV_cat] at hv
    unfold stepV at hv
    obtain ⟨u, hu, hm⟩ := List.mem_flatMap.mp hv
    unfold moreV at hm
    obtain ⟨r, hr, hb⟩ := List.mem_filterMap.mp hm
    have hl : r.length = a.2.length := har a (by simp) _ (mem_rowsOf.mp hr) rfl
    have ih := found_len n (by simpa using hn) (fun a' h' => har a' (List.mem_append_left _ h')) (fun a' h' => ha8 a' (List.mem_append_left _ h')) u hu
    have := (bindRow_sound hl hb).1.len
    have := ha8 a (by simp)
    omega
theorem fm_one {α β : Type} {f : α → Option β} {c : α} : ∀ {l : List α}, l.Nodup → (∀ x ∈ l, f x ≠ none → x = c) → (l.filterMap f).length ≤ 1
  | [], _, _ => Nat.zero_le _
  | a :: l, hnd, h => by
    rw [List.nodup_cons] at hnd
    rw [List.filterMap_cons]
    cases q : f a with
    | none => exact fm_one hnd.2 fun x hx => h x (List.mem_cons_of_mem _ hx)
    | some b =>
      have hac : a = c := h a List.mem_cons_self (by rw [q]; exact fun z => nomatch z)
      have : l.filterMap f = [] := by
        rw [List.filterMap_eq_nil_iff]
        intro x hx
        cases q2 : f x with
        | none => rfl
        | some _ =>
          have := h x (List.mem_cons_of_mem _ hx) (by rw [q2]; exact fun z => nomatch z)
          exact absurd (by rw [hac, ← this]; exact hx) hnd.1
      rw [this]
      exact Nat.le_refl _
theorem rowsOf_nodup {st : List Fact} (h : st.Nodup) (n : Str) : (rowsOf st n).Nodup := by
  unfold rowsOf
  have h2 : (st.filter fun f => decide (f.1 = n)).Nodup := h.filter _
  refine List.Pairwise.map _ (R := fun a b : Fact => a ≠ b ∧ a.1 = n ∧ b.1 = n) (fun a b hab e => hab.1 (Prod.ext (hab.2.1.trans hab.2.2.symm) e)) ?_
  refine List.Pairwise.imp_of_mem (R := fun a b : Fact => a ≠ b) (fun {a b} ha hb hab => ⟨hab, of_decide_eq_true (List.mem_filter.mp ha).2, of_decide_eq_true (List.mem_filter.mp hb).2⟩) h2
theorem found_one {st : List Fact} (hst : st.Nodup) : ∀ (n : Nat) {body : List Atom}, body.length = n → Arity st body → (∀ a ∈ body, ∀ m, Tm.x m ∉ a.2) → (foundV st body).length ≤ 1
  | 0, body, hn, _, _ => by
    have e : body = [] := List.eq_nil_of_length_eq_zero hn
    subst e
    simp [foundV]
  | n + 1, body, hn, har, hno => by
    obtain ⟨b, a, rfl⟩ : ∃ b a, body = b ++ [a] := ⟨body.dropLast, body.getLast (fun z => by rw [z] at hn; cases hn), (List.dropLast_concat_getLast _).symm⟩
    rw [foundV_cat]
    unfold stepV
    have ih := found_one hst n (body := b) (by simpa using hn) (fun a' h' => har a' (List.mem_append_left _ h')) fun a' h' => hno a' (List.mem_append_left _ h')
    refine Nat.le_trans (flatMap_le (k := 1) _ fun v _ => ?_) (by omega)
    unfold moreV
    refine fm_one (c := a.2.map (valT [])) (rowsOf_nodup hst _) fun r hr hne => ?_
    cases q : bindRow a.2 r v with
    | none => exact absurd q hne
    | some g =>
      have er := (bindRow_sound (har a (by simp) (a.1, r) (mem_rowsOf.mp hr) rfl) q).2
      have er : a.2.map (valT g) = r := er
      rw [← er]
      refine List.map_congr_left fun t ht => ?_
      cases t with
      | v x => rfl
      | x m => exact absurd ht (hno a (by simp) m)
theorem Tiny.take {st : List Fact} {body : List Atom} (h : Tiny st body) (i : Nat) : Tiny st (body.take i) :=
  ⟨h.nd, h.num, h.row, Nat.le_trans (List.length_take_le' ..) h.bodyN, fun a ha => h.ar a (List.mem_of_mem_take ha), fun a ha => h.arN a (List.mem_of_mem_take ha)⟩
theorem Tiny.ok {st : List Fact} {body : List Atom} (h : Tiny st body) : VOk st body := by
  have num : ∀ {b : List Atom}, Tiny st b → (foundV st b).length ≤ 512 := fun {b} hb => by
    refine Nat.le_trans (found_num hb.num b.length rfl) ?_
    exact Nat.le_trans (Nat.pow_le_pow_right (by decide) hb.bodyN) (by decide)
  refine ⟨⟨h.ar, fun i => Nat.lt_of_le_of_lt (num (h.take i)) (by decide), fun i v hv => ?_, fun f hf => Nat.le_trans (h.row f hf) (by decide), Nat.lt_of_le_of_lt h.num (by decide), Nat.lt_of_le_of_lt h.bodyN (by decide)⟩, fun v hv => (found_sound _ rfl h.ar v hv).nd, ?_⟩
  · have := found_len _ rfl (h.take i).ar (h.take i).arN v hv
    have := (h.take i).bodyN
    omega
  · by_cases q : ∃ a ∈ body, ∃ m, Tm.x m ∈ a.2
    · refine .inr fun v hv e => ?_
      obtain ⟨a, ha, m, hm⟩ := q
      obtain ⟨x, hx⟩ := (found_sound _ rfl h.ar v hv).bnd a ha m hm
      rw [e] at hx
      cases hx
    · exact .inl (found_one h.nd _ rfl h.ar fun a ha m hm => q ⟨a, ha, m, hm⟩)
end Em
/-! part em11 -/
set_option Elab.async false
set_option linter.all false
set_option maxRecDepth 100000
set_option maxHeartbeats 4000000
set_option autoImplicit false
namespace Em
open PySem PySem.Spec PyProof.Rows L2 Dl
abbrev dnD (b : Bl) : List (NestedKey × PyData) := kl nkFact rowsD b
def KeysNd (b : Bl) : Prop := (b.map (·.1)).Nodup
theorem find_nd : ∀ {b : Bl} {g : Fact × List Row}, KeysNd b → g ∈ b → b.find? (fun p => decide (p.1 = g.1)) = some g
  | a :: b, g, h, hg => by
    unfold KeysNd at h
    rw [List.map_cons, List.nodup_cons] at h
    rw [List.find?_cons]
    rcases List.mem_cons.mp hg with q | q
    · subst q; simp
    · have : a.1 ≠ g.1 := fun e => h.1 (by rw [e]; exact List.mem_map_of_mem q)
      rw [show decide (a.1 = g.1) = false from decide_eq_false this]
      exact find_nd h.2 q
theorem look_dn {b : Bl} {g : Fact × List Row} (h : KeysNd b) (hg : g ∈ b) : lookN (dnD b) (nkFact g.1) = some (rowsD g.2) := by
  rw [look_kl nkFact_inj, find_nd h hg]
  rfl
theorem take_filter_succ {α : Type} {p : α → Bool} {l : List α} {i : Nat} {a : α} (h : l[i]? = some a) : (l.take (i + 1)).filter p = (l.take i).filter p ++ (if p a = true then [a] else []) := by
  rw [List.take_add_one, h, List.filter_append]
  show _ ++ List.filter p [a] = _
  rw [List.filter_cons]
  rfl
theorem nd_before {b : Bl} {i : Nat} {g : Fact × List Row} (h : KeysNd b) (hi : b[i]? = some g) : ∀ p ∈ b.take i, p.1 ≠ g.1 := fun p hp e => by
  obtain ⟨j, hj, ep⟩ := List.mem_iff_getElem.mp hp
  rw [List.length_take] at hj
  rw [List.getElem_take] at ep
  have hil := (List.getElem?_eq_some_iff.mp hi)
  have := List.pairwise_iff_getElem.mp h j i (by rw [List.length_map]; omega) (by rw [List.length_map]; exact hil.1) (by omega)
  rw [List.getElem_map, List.getElem_map, ep, hil.2] at this
  exact this e
section
variable {P : Program} {w : World} {K : PySem.W.Frag} {mg : Str → Option Value} {base : Heap}
def GrC (s : Sch) (st : List Fact) : Prop := small s.length ∧ small st.length ∧ ∀ f ∈ st, ∃ k, keyLen s f.1 = some k
def isOpen (g : Fact × List Row) : Bool := decide (1 < g.2.length)
def G_open_rows : GD := fun as δ Z => ∃ (s : Sch) (st : List Fact), as = [.v (.d (scD s)), .v (.d (stD st))] ∧ GrC s st ∧ ∀ gs, IsGr s st gs → gs.length ≤ st.length → Z (.dn (dnD (gs.filter isOpen))) δ
theorem df_open_rows (F : Facts K mg) : Df P w K mg base 4 "open_rows" 2 G_open_rows :=
  df_body F.d_open_rows sc_open_rows rfl (fun _ _ _ _ _ _ us hl => match us, hl with | [_, _], _ => rfl) fun f cdv A outer sh H E c as δ Z hr hl hG => by
  obtain ⟨s, st, rfl, ⟨h1, h2, h3⟩, hz⟩ := hG
  refine ss_one (se_ret (ee_newN (en_dc (own := [("name", 2), ("key", 3), ("rows", 4)]) hr (eic_of (ei_tup (ee_callP (df_blocks_of F) hr (ea_cons (ee_var 0 rfl (ea_one (ee_var 1 rfl ⟨rfl, s, st, rfl, h1, h2, h3, fun gs hgr hgl => ?_⟩))))))) sc_open_rows.nd (blkOk_by (N := N_open_rows) (sc := defScope s_open_rows) (by decide +kernel)))))
  have gnd : KeysNd gs := hgr.nd
  show DcZ _ _ _ _ _ _ _ _ _ _ (List.map _ (List.map _ gs)) _
  rw [List.map_map]
  refine ⟨by rw [List.length_map]; exact small_line (Nat.lt_of_le_of_lt hgl h2), fun i acc δ' => δ' = δ ∧ acc = dnD ((gs.take i).filter isOpen), ⟨rfl, rfl⟩, fun i y acc δi hy ⟨e1, e2⟩ => ?_, fun acc δ' ⟨e1, e2⟩ => ?_⟩
  · subst e1 e2
    rw [List.getElem?_map] at hy
    cases q : gs[i]? with
    | none => rw [q] at hy; cases hy
    | some g =>
      rw [q] at hy
      cases hy
      refine ⟨_, fun b δ2 => b = isOpen g ∧ δ2 = δi, fun s H C cl fp => eg_tup (ws := [.d (.str g.1.1), .d (rowD g.1.2), .d (rowsD g.2)]) rfl (egs_cons (eg_name 2 (egs_cons (eg_name 3 (egs_cons (eg_name 4 (egs_nil rfl) sc_open_rows.nd)) sc_open_rows.nd)) sc_open_rows.nd)), fun s H C cl fp => ets_one (et_gt (ee_len F.z_len (ee_var 4 rfl ⟨g.2.length, congrArg some (List.length_map ..), ee_int ?_⟩))), fun δ2 hh => ?_, fun δ2 hh => ?_⟩
      · refine ⟨?_, rfl⟩
        unfold isOpen
        exact decide_eq_decide.mpr (by omega)
      · obtain ⟨eo, e⟩ := hh
        subst e
        intro s H C cl fp
        refine ee_tup (ea_cons (ee_var 2 rfl (ea_one (ee_var 3 rfl ⟨[.text g.1.1, nkRow g.1.2], by rw [datas_fact], depth_nkFact g.1, fun s H C cl fp => ee_var 4 rfl ⟨rfl, ?_⟩⟩))))
        rw [take_filter_succ q, if_pos eo.symm]
        refine put_new (ek := nkFact) (ed := rowsD) (a := g.1) (b := g.2) nkFact_inj fun p hp => ?_
        exact nd_before gnd q p (List.mem_filter.mp hp).1
      · obtain ⟨eo, e⟩ := hh
        subst e
        refine ⟨rfl, ?_⟩
        rw [take_filter_succ q, if_neg (by rw [← eo]; exact Bool.false_ne_true), List.append_nil]
  · subst e1 e2
    rw [List.length_map, List.take_length]
    exact ⟨_, rfl, hz gs hgr hgl⟩
def G_places_of : GD := fun as δ Z => ∃ (s : Sch) (st : List Fact), as = [.v (.d (scD s)), .v (.d (stD st))] ∧ GrC s st ∧ ∀ gs, IsGr s st gs → gs.length ≤ st.length → Z (.dn (dnD gs)) δ
theorem df_places_of (F : Facts K mg) : Df P w K mg base 4 "places_of" 2 G_places_of :=
  df_body F.d_places_of sc_places_of rfl (fun _ _ _ _ _ _ us hl => match us, hl with | [_, _], _ => rfl) fun f cdv A outer sh H E c as δ Z hr hl hG => by
  obtain ⟨s, st, rfl, ⟨h1, h2, h3⟩, hz⟩ := hG
  refine ss_one (se_ret (ee_newN (en_dc (own := [("name", 2), ("key", 3), ("rows", 4)]) hr (eic_of (ei_tup (ee_callP (df_blocks_of F) hr (ea_cons (ee_var 0 rfl (ea_one (ee_var 1 rfl ⟨rfl, s, st, rfl, h1, h2, h3, fun gs hgr hgl => ?_⟩))))))) sc_places_of.nd (blkOk_by (N := N_places_of) (sc := defScope s_places_of) (by decide +kernel)))))
  have gnd : KeysNd gs := hgr.nd
  show DcZ _ _ _ _ _ _ _ _ _ _ (List.map _ (List.map _ gs)) _
  rw [List.map_map]
  refine ⟨by rw [List.length_map]; exact small_line (Nat.lt_of_le_of_lt hgl h2), fun i acc δ' => δ' = δ ∧ acc = dnD (gs.take i), ⟨rfl, rfl⟩, fun i y acc δi hy ⟨e1, e2⟩ => ?_, fun acc δ' ⟨e1, e2⟩ => ?_⟩
  · subst e1 e2
    rw [List.getElem?_map] at hy
    cases q : gs[i]? with
    | none => rw [q] at hy; cases hy
    | some g =>
      rw [q] at hy
      cases hy
      refine ⟨_, fun b δ2 => b = true ∧ δ2 = δi, fun s H C cl fp => eg_tup (ws := [.d (.str g.1.1), .d (rowD g.1.2), .d (rowsD g.2)]) rfl (egs_cons (eg_name 2 (egs_cons (eg_name 3 (egs_cons (eg_name 4 (egs_nil rfl) sc_places_of.nd)) sc_places_of.nd)) sc_places_of.nd)), fun s H C cl fp => ets_nil ⟨rfl, rfl⟩, fun δ2 hh => ?_, fun δ2 hh => Bool.noConfusion hh.1⟩
      obtain ⟨_, e⟩ := hh
      subst e
      intro s H C cl fp
      refine ee_tup (ea_cons (ee_var 2 rfl (ea_one (ee_var 3 rfl ⟨[.text g.1.1, nkRow g.1.2], by rw [datas_fact], depth_nkFact g.1, fun s H C cl fp => ee_var 4 rfl ⟨rfl, ?_⟩⟩))))
      rw [List.take_add_one, q]
      exact put_new (ek := nkFact) (ed := rowsD) (a := g.1) (b := g.2) nkFact_inj (nd_before gnd q)
  · subst e1 e2
    rw [List.length_map, List.take_length]
    exact ⟨_, rfl, hz gs hgr hgl⟩
def choose (b : Bl) (k : Fact) (r : Row) : Bl := b.map fun g => if g.1 = k then (g.1, [r]) else g
theorem choose_keys (b : Bl) (k : Fact) (r : Row) : (choose b k r).map (·.1) = b.map (·.1) := by
  unfold choose
  rw [List.map_map]
  refine List.map_congr_left fun g _ => ?_
  show (if g.1 = k then (g.1, [r]) else g).1 = g.1
  split <;> rfl
def G_chosen_blocks : GD := fun as δ Z => ∃ (b : Bl) (k : Fact) (r : Row), as = [.v (.dn (dnD b)), .v (.dn [(nkFact k, rowD r)])] ∧ small b.length ∧ KeysNd b ∧ Z (.dn (dnD (choose b k r))) δ
theorem df_chosen_blocks (F : Facts K mg) : Df P w K mg base 1 "chosen_blocks" 2 G_chosen_blocks :=
  df_body F.d_chosen_blocks sc_chosen_blocks rfl (fun _ _ _ _ _ _ us hl => match us, hl with | [_, _], _ => rfl) fun f cdv A outer sh H E c as δ Z hr hl hG => by
  obtain ⟨b, k, r, rfl, hs, hnd, hz⟩ := hG
  refine ss_one (se_ret (ee_newN (en_dc (own := [("place", 2)]) hr (eic_of (ei_dn (ee_var 0 rfl ?_))) sc_chosen_blocks.nd (blkOk_by (N := N_chosen_blocks) (sc := defScope s_chosen_blocks) (by decide +kernel)))))
  show DcZ _ _ _ _ _ _ _ _ _ _ (List.map _ (List.map _ b)) _
  rw [List.map_map]
  refine ⟨by rw [List.length_map]; exact small_line hs, fun i acc δ' => δ' = δ ∧ acc = dnD (choose (b.take i) k r), ⟨rfl, rfl⟩, fun i y acc δi hy ⟨e1, e2⟩ => ?_, fun acc δ' ⟨e1, e2⟩ => ?_⟩
  · subst e1 e2
    rw [List.getElem?_map] at hy
    cases q : b[i]? with
    | none => rw [q] at hy; cases hy
    | some g =>
      rw [q] at hy
      cases hy
      have hg := List.mem_of_getElem? q
      have e0 : IW.one (.d (nkFact g.1).data) = .one (.d (faD g.1)) := by rw [data_fact]
      have hsucc : choose (b.take (i + 1)) k r = choose (b.take i) k r ++ [if g.1 = k then (g.1, [r]) else g] := by unfold choose; rw [take_map_succ q]
      have hput : ∀ rs, (if g.1 = k then (g.1, [r]) else g) = (g.1, rs) → putN (dnD (choose (b.take i) k r)) (nkFact g.1) (rowsD rs) = dnD (choose (b.take (i + 1)) k r) := fun rs e => by
        rw [hsucc, e]
        refine put_new (ek := nkFact) (ed := rowsD) nkFact_inj fun p hp => ?_
        have : p.1 ∈ (choose (b.take i) k r).map (·.1) := List.mem_map_of_mem hp
        rw [choose_keys] at this
        obtain ⟨p', hp', e'⟩ := List.mem_map.mp this
        rw [← e']
        exact nd_before hnd q p' hp'
      show ∃ R Zt, (Blk _ _ fun X' => EG X' _ _ (IW.one (.d (nkFact g.1).data)) _ _ _ _) ∧ _
      rw [e0]
      refine ⟨_, fun b δ2 => b = true ∧ δ2 = δi, fun s H C cl fp => eg_name 2 rfl sc_chosen_blocks.nd, fun s H C cl fp => ets_nil ⟨rfl, rfl⟩, fun δ2 hh => ?_, fun δ2 hh => Bool.noConfusion hh.1⟩
      obtain ⟨_, e⟩ := hh
      subst e
      intro s H C cl fp
      refine ee_var 2 rfl ⟨[.text g.1.1, nkRow g.1.2], by rw [datas_fact]; rfl, depth_nkFact g.1, fun s H C cl fp => ?_⟩
      refine ee_if (et_inDn hr (ee_var 2 rfl ⟨[.text g.1.1, nkRow g.1.2], by rw [datas_fact]; rfl, depth_nkFact g.1, ee_var 1 rfl ?_⟩))
      have look1 : lookN [(nkFact k, rowD r)] (nkFact g.1) = if g.1 = k then some (rowD r) else none := by
        unfold lookN
        by_cases e : g.1 = k
        · rw [if_pos e, e]; simp
        · rw [if_neg e]
          have : nkFact k ≠ nkFact g.1 := fun z => e (nkFact_inj z).symm
          simp [this]
      show (if (lookN [(nkFact k, rowD r)] (nkFact g.1)).isSome = true then _ else _)
      rw [look1]
      by_cases e : g.1 = k
      · rw [if_pos e]
        refine ee_tup (ea_one (ee_dnget hr (ee_var 1 rfl (ee_var 2 rfl ⟨[.text g.1.1, nkRow g.1.2], by rw [datas_fact]; rfl, depth_nkFact g.1, rowD r, by rw [← if_pos (c := g.1 = k) (t := some (rowD r)) (e := none) e]; exact look1, rfl, ?_⟩))))
        exact hput [r] (if_pos e)
      · rw [if_neg e]
        refine ee_dnget hr (ee_var 0 rfl (ee_var 2 rfl ⟨[.text g.1.1, nkRow g.1.2], by rw [datas_fact]; rfl, depth_nkFact g.1, rowsD g.2, look_dn hnd hg, rfl, ?_⟩))
        exact hput g.2 (if_neg e)
  · subst e1 e2
    rw [List.length_map, List.take_length]
    exact ⟨_, rfl, hz⟩
end
end Em
/-! part em12 -/
set_option Elab.async false
set_option linter.all false
set_option maxRecDepth 100000
set_option maxHeartbeats 4000000
set_option autoImplicit false
namespace Em
open PySem PySem.Spec PyProof.Rows L2 Dl
theorem ei_dnM {X : Cx} {c : Cc} {tg e : Expr} {ρ : En} {δ : List Int} (b : Bl) {Z : List IW → List Int → Prop} (h : EE X c e ρ δ fun a δ1 => a = .v (.dn (dnD b)) ∧ Z (b.map fun g => .one (.d (faD g.1))) δ1) : EI X c tg e ρ δ Z :=
  ei_dn (ee_imp h fun a δ1 ⟨e, z⟩ => by
    subst e
    show Z (List.map _ (List.map _ b)) δ1
    rw [List.map_map]
    have : b.map ((fun kv : NestedKey × PyData => IW.one (.d kv.1.data)) ∘ fun p : Fact × List Row => (nkFact p.1, rowsD p.2)) = b.map fun g => .one (.d (faD g.1)) := List.map_congr_left fun g _ => congrArg (fun z => IW.one (.d z)) (data_fact g.1)
    rw [this]
    exact z)
section
variable {P : Program} {w : World} {K : PySem.W.Frag} {mg : Str → Option Value} {base : Heap}
def isOne (g : Fact × List Row) : Bool := decide (g.2.length = 1)
def oneF (g : Fact × List Row) : Fact := (g.1.1, g.2.headD [])
def settled (b : Bl) : List Fact := (b.filter isOne).map oneF
def G_settled_facts : GD := fun as δ Z => ∃ b : Bl, as = [.v (.dn (dnD b))] ∧ small b.length ∧ KeysNd b ∧ Z (.d (stD (settled b))) δ
theorem df_settled_facts (F : Facts K mg) : Df P w K mg base 1 "settled_facts" 1 G_settled_facts :=
  df_body F.d_settled_facts sc_settled_facts rfl (fun _ _ _ _ _ _ us hl => match us, hl with | [_], _ => rfl) fun f cdv A outer sh H E c as δ Z hr hl hG => by
  obtain ⟨b, rfl, hs, hnd, hz⟩ := hG
  refine ss_one (se_ret (ee_tuple F.z_tuple (ee_new (en_lc (own := [("place", 1)]) (eic_of (ei_dnM b (ee_var 0 rfl ⟨rfl, ?_⟩))) sc_settled_facts.nd (blkOk_by (N := N_settled_facts) (sc := defScope s_settled_facts) (by decide +kernel))))))
  refine lcz_filter (f := fun g => faD (oneF g)) (t := isOne) (small_line hs) (fun g hg => ⟨_, fun s H C cl fp => eg_name 1 rfl sc_settled_facts.nd, fun s H C cl fp => ?_, fun h1 s H C cl fp => ?_⟩) ⟨rfl, ?_⟩
  · refine et_eq hr (ee_len F.z_len (ee_dnget hr (ee_var 0 rfl (ee_var 1 rfl ⟨[.text g.1.1, nkRow g.1.2], by rw [datas_fact]; rfl, depth_nkFact g.1, rowsD g.2, look_dn hnd hg, g.2.length, congrArg some (List.length_map ..), ee_int ⟨okD_int _, okD_int _, ?_, rfl⟩⟩))))
    rw [int_eqv]
    exact decide_eq_decide.mpr (by omega)
  · refine ee_tup (ea_cons (ee_ixT (ee_var 1 rfl (ee_int ⟨.str g.1.1, rfl, ?_⟩))))
    refine ea_one (ee_ixT (ee_dnget hr (ee_var 0 rfl (ee_var 1 rfl ⟨[.text g.1.1, nkRow g.1.2], by rw [datas_fact]; rfl, depth_nkFact g.1, rowsD g.2, look_dn hnd hg, ee_int ⟨rowD (g.2.headD []), ?_, rfl, rfl⟩⟩))))
    have h2 : g.2.length = 1 := of_decide_eq_true h1
    cases e : g.2 with
    | nil => rw [e] at h2; cases h2
    | cons r l => exact at_map (i := 0) (l := r :: l) rfl
  · unfold settled at hz
    have e : stD ((b.filter isOne).map oneF) = .tuple ((b.filter isOne).map fun g => faD (oneF g)) := by unfold stD; rw [List.map_map]; rfl
    rw [e] at hz
    exact hz
def allF (b : Bl) : List Fact := b.flatMap fun g => g.2.map fun r => (g.1.1, r)
def G_all_facts : GD := fun as δ Z => ∃ b : Bl, as = [.v (.dn (dnD b))] ∧ small (allF b).length ∧ KeysNd b ∧ Z (.d (stD (allF b))) δ
def pick {α β : Type} (f : α → List β) (l : List α) (i : Nat) : List β := match l[i]? with | some a => f a | none => []
theorem pick_at {α β : Type} {f : α → List β} {l : List α} {i : Nat} {a : α} (h : l[i]? = some a) : pick f l i = f a := by
  unfold pick
  rw [h]
theorem range_flat {α β : Type} (f : α → List β) (l : List α) : (List.range l.length).flatMap (pick f l) = l.flatMap f := by
  have gen : ∀ n, n ≤ l.length → (List.range n).flatMap (pick f l) = (l.take n).flatMap f := fun n => by
    induction n with
    | zero => intro _; rfl
    | succ n ih =>
      intro hn
      have hg : l[n]? = some l[n] := List.getElem?_eq_getElem hn
      rw [range_flat_succ, ih (by omega), take_flat_succ hg, pick_at hg]
  have := gen l.length (Nat.le_refl _)
  rw [List.take_length] at this
  exact this
def rowFs (g : Fact × List Row) : List PyData := g.2.map fun r => faD (g.1.1, r)
theorem df_all_facts (F : Facts K mg) : Df P w K mg base 1 "all_facts" 1 G_all_facts :=
  df_body F.d_all_facts sc_all_facts rfl (fun _ _ _ _ _ _ us hl => match us, hl with | [_], _ => rfl) fun f cdv A outer sh H E c as δ Z hr hl hG => by
  obtain ⟨b, rfl, hs, hnd, hz⟩ := hG
  refine ss_one (se_ret (ee_tuple F.z_tuple (ee_new (en_lc2 (own := [("place", 1), ("row", 2)]) (vs := [1, 2]) (vs1 := [2]) (eic_of (ei_dnM b (ee_var 0 rfl ⟨rfl, ?_⟩))) sc_all_facts.nd (blkOk_by (N := N_all_facts) (sc := defScope s_all_facts) (by decide +kernel)) (by simp)))))
  have ef : (List.range (b.map fun g => IW.one (.d (faD g.1))).length).flatMap (pick rowFs b) = (allF b).map faD := by
    rw [List.length_map, range_flat rowFs b]
    unfold allF
    rw [List.map_flatMap]
    congr 1
    funext g
    rw [List.map_map]
    rfl
  refine ⟨pick rowFs b, by rw [ef, List.length_map]; exact small_line hs, fun i y hy => ?_, rfl, ?_⟩
  · rw [List.getElem?_map] at hy
    cases q : b[i]? with
    | none => rw [q] at hy; cases hy
    | some g =>
      rw [q] at hy
      cases hy
      have hg := List.mem_of_getElem? q
      refine ⟨_, fun s H C cl fp => eg_name 1 rfl sc_all_facts.nd, rfl, g.2.map fun r => .one (.d (rowD r)), fun s H C cl fp => ei_tupM rowD g.2 (ee_dnget hr (ee_var 0 rfl (ee_var 1 rfl ⟨[.text g.1.1, nkRow g.1.2], by rw [datas_fact]; rfl, depth_nkFact g.1, rowsD g.2, look_dn hnd hg, rfl, rfl, rfl⟩))), by rw [pick_at q]; unfold rowFs; rw [List.length_map, List.length_map], fun j y1 hy1 => ?_⟩
      rw [List.getElem?_map] at hy1
      cases q1 : g.2[j]? with
      | none => rw [q1] at hy1; cases hy1
      | some r =>
        rw [q1] at hy1
        cases hy1
        refine ⟨_, fun s H C cl fp => eg_name 2 rfl sc_all_facts.nd, faD (g.1.1, r), by rw [pick_at q]; unfold rowFs; rw [List.getElem?_map, q1]; rfl, fun s H C cl fp => ?_⟩
        exact ee_tup (ea_cons (ee_ixT (ee_var 1 rfl (ee_int ⟨.str g.1.1, rfl, ea_one (ee_var 2 rfl ⟨rfl, rfl⟩)⟩))))
  · rw [ef]
    exact hz
end
end Em
/-! part em13 -/
set_option Elab.async false
set_option linter.all false
set_option maxRecDepth 100000
set_option maxHeartbeats 4000000
set_option autoImplicit false
namespace Em
open PySem PySem.Spec PyProof.Rows L2 Dl
theorem ss_opq {X : Cx} {c : Cc} {ρ : En} {δ : List Int} {sts : List Stmt} {Z : Ot → Prop} (i : Nat) {w : Wd} (e : ρ[i]? = some (some (.ow w))) (h : SS X c sts (ρ.set i (some (.v .opq))) δ Z) : SS X c sts ρ δ Z :=
  PSs.le h fun D σ H ⟨ps, g, k⟩ => by
    obtain ⟨p, hp, _⟩ := g.own e
    have g2 := g.put (show RepW (bx X) (cut H (c.xs ++ ps)) (.ref p) .opq from ⟨p, rfl⟩) i
    have hset : σ.set i (some (.ref p)) = σ := by
      refine List.ext_getElem? fun k => ?_
      by_cases hk : i = k
      · subst hk
        rw [List.getElem?_set_self (List.getElem?_eq_some_iff.mp hp).1, hp]
      · rw [List.getElem?_set_ne hk]
    rw [hset] at g2
    exact ⟨ps, g2, k⟩
/-- the used facts agree in the open blocks -/
def Agree (s : Sch) (opn : Bl) (fs : List Fact) : Prop := ∀ f ∈ fs, ∀ g ∈ fs, placeF s f = placeF s g → (∃ b ∈ opn, b.1 = placeF s f) → f.2 = g.2
section
variable {P : Program} {w : World} {K : PySem.W.Frag} {mg : Str → Option Value} {base : Heap}
abbrev spDn (l : List (Fact × Row)) : List (NestedKey × PyData) := kl nkFact rowD l
structure SpOk (s : Sch) (opn : Bl) (fs : List Fact) (sp : List (Fact × Row)) : Prop where
  get : ∀ f ∈ fs, (∃ b ∈ opn, b.1 = placeF s f) → (sp.find? fun p => decide (p.1 = placeF s f)) = some (placeF s f, f.2)
  from' : ∀ p ∈ sp, ∃ f ∈ fs, p = (placeF s f, f.2) ∧ ∃ b ∈ opn, b.1 = placeF s f
def G_support_of : GD := fun as δ Z => ∃ (s : Sch) (opn : Bl) (j : Join) (v : Vn), as = [.v (.d (scD s)), .v (.dn (dnD opn)), .v (.d (jnD j)), .v (.d (valD v))] ∧ small s.length ∧ (∀ a ∈ j.2, ∃ k, keyLen s a.1 = some k) ∧
  (v.map (·.1)).Nodup ∧ small v.length ∧ small j.2.length ∧ (∀ a ∈ j.2, Bound v a.2 ∧ small a.2.length) ∧ (Agree s opn (factsUsed v j.2) → Z .opq δ) ∧ (¬ Agree s opn (factsUsed v j.2) → Z (.d .none) δ)
theorem df_support_of (F : Facts K mg) : Df P w K mg base 3 "support_of" 4 G_support_of :=
  df_body F.d_support_of sc_support_of rfl (fun _ _ _ _ _ _ us hl => match us, hl with | [_, _, _, _], _ => rfl) fun f cdv A outer sh H E c as δ Z hr hl hG => by
  obtain ⟨s, opn, j, v, rfl, hs, hk, hnd, hsv, hsj, hb, hz1, hz2⟩ := hG
  generalize hfs : factsUsed v j.2 = fs at hz1 hz2
  have hfl : small fs.length := by rw [← hfs]; unfold factsUsed; rw [List.length_map]; exact hsj
  have hfk : ∀ f ∈ fs, ∃ k, keyLen s f.1 = some k := fun f hf => by
    rw [← hfs] at hf
    unfold factsUsed at hf
    obtain ⟨a, ha, rfl⟩ := List.mem_map.mp hf
    exact hk a ha
  refine ss_cons (se_setN 4 (en_dn0 ?_) sc_support_of.nd)
  refine ss_cons (se_forM fs (fun f => .one (.d (faD f))) (fun i ρ' δ' => δ' = δ ∧ ∃ sp o5 o6, ρ' = [some (.v (.d (scD s))), some (.v (.dn (dnD opn))), some (.v (.d (jnD j))), some (.v (.d (valD v))), some (.ow (.dn (spDn sp))), o5, o6] ∧ sp.length ≤ i ∧ SpOk s opn (fs.take i) sp)
    (ei_listM faD fs (ee_callP (df_facts_used F) hr (ea_cons (ee_var 2 rfl (ea_one (ee_var 3 rfl ⟨rfl, j, v, rfl, hnd, hsv, hsj, hb, by rw [hfs], rfl, rfl, [], _, _, rfl, Nat.zero_le _, ⟨fun f hf => (by cases hf), fun p hp => (by cases hp)⟩⟩)))))) ?_ ?_)
  · rintro i f ρi δi hfi ⟨rfl, sp, o5, o6, rfl, hsp, ok⟩
    have hfm := List.mem_of_getElem? hfi
    obtain ⟨k, hkk⟩ := hfk f hfm
    have ek : keyN s f.1 = k := by unfold keyN; rw [hkk]; rfl
    have hpl : placeF s f = (f.1, f.2.take k) := by unfold placeF placeOf; rw [ek]
    have hts : fs.take (i + 1) = fs.take i ++ [f] := by rw [List.take_add_one, hfi]; rfl
    have hil : i < fs.length := (List.getElem?_eq_some_iff.mp hfi).1
    refine ⟨[5], eg_name 5 ?_ sc_support_of.nd⟩
    refine ss_cons (se_set 6 (ee_tup (ea_cons (ee_ixT (ee_var 5 rfl (ee_int ⟨.str f.1, rfl, ?_⟩))))) sc_support_of.nd)
    refine ea_one (ee_callP (df_key_of F) hr (ea_cons (ee_var 0 rfl (ea_one (ee_var 5 rfl ⟨rfl, s, f, k, rfl, hs, hkk, ?_⟩)))))
    have e6 : PyData.tuple [.str f.1, rowD (f.2.take k)] = faD (placeF s f) := by rw [hpl]; rfl
    show SS _ _ _ [some (.v (.d (scD s))), some (.v (.dn (dnD opn))), some (.v (.d (jnD j))), some (.v (.d (valD v))), some (.ow (.dn (spDn sp))), some (.v (.d (faD f))), some (.v (.d (PyData.tuple [.str f.1, rowD (f.2.take k)])))] _ _
    rw [e6]
    generalize hpf : placeF s f = pl at e6 ok
    have hkey : Dl.Arg.v (Wd.d (faD pl)) = .v (.d (.tuple (NestedKey.datas [.text pl.1, nkRow pl.2]))) := by rw [datas_fact]; rfl
    refine ss_one (se_ifM (emt_and (et_inDn hr (ee_var 6 rfl ⟨[.text pl.1, nkRow pl.2], hkey, depth_nkFact pl, ee_var 1 rfl ?_⟩))))
    have hlook : lookN (dnD opn) (nkFact pl) = (opn.find? fun p => decide (p.1 = pl)).map fun p => rowsD p.2 := look_kl nkFact_inj pl opn
    show (if (lookN (dnD opn) (nkFact pl)).isSome = true then _ else _)
    rw [hlook, Option.isSome_map]
    by_cases hop : (opn.find? fun p => decide (p.1 = pl)).isSome = true
    · rw [if_pos hop]
      rw [List.find?_isSome] at hop
      obtain ⟨b, hb1, hb2⟩ := hop
      have hopen : ∃ b ∈ opn, b.1 = placeF s f := ⟨b, hb1, by rw [hpf]; exact of_decide_eq_true hb2⟩
      have hrow : atI [PyData.str f.1, rowD f.2] 1 = some (rowD f.2) := rfl
      refine emt_ne hr (em_setdN 4 hr rfl (ee_var 6 rfl ⟨[.text pl.1, nkRow pl.2], hkey, depth_nkFact pl, ee_ixT (ee_var 5 rfl (ee_int ⟨rowD f.2, rfl, ?_, fun d' hd' => ?_, fun hn => ?_⟩))⟩))
      · show (List.map _ sp).length < sizeLine
        rw [List.length_map]
        exact small_line (Nat.lt_of_le_of_lt (Nat.le_trans hsp (Nat.le_of_lt hil)) hfl)
      · have h1 : lookN (spDn sp) (nkFact pl) = (sp.find? fun p => decide (p.1 = pl)).map fun p => rowD p.2 := look_kl nkFact_inj pl sp
        have hd2 : lookN (spDn sp) (nkFact pl) = some d' := hd'
        rw [h1] at hd2
        obtain ⟨q, hq, rfl⟩ := Option.map_eq_some_iff.mp hd2
        have hqm := List.mem_of_find?_eq_some hq
        have hqp : q.1 = pl := of_decide_eq_true (List.find?_some (p := fun p : Fact × Row => decide (p.1 = pl)) hq)
        refine ee_ixT (ee_var 5 rfl (ee_int ⟨rowD f.2, rfl, ok_row _, ok_row _, ?_⟩))
        rw [eqv_row]
        by_cases e : q.2 = f.2
        · rw [decide_eq_true e]
          refine ss_nil ⟨rfl, sp, some (.v (.d (faD f))), some (.v (.d (faD pl))), rfl, Nat.le_succ_of_le hsp, ?_⟩
          rw [hts]
          refine ⟨fun g hg ho => ?_, fun p hp => ?_⟩
          · rcases List.mem_append.mp hg with hg | hg
            · exact ok.get g hg ho
            · rw [List.mem_singleton] at hg
              subst hg
              rw [hpf, hq]
              exact congrArg some (Prod.ext hqp e)
          · obtain ⟨g, hg, h⟩ := ok.from' p hp
            exact ⟨g, List.mem_append_left _ hg, h⟩
        · rw [decide_eq_false e]
          refine ss_one (se_ret (ee_non (hz2 fun ag => e ?_)))
          obtain ⟨g, hg, h1, h2⟩ := ok.from' q hqm
          have hgf : g ∈ fs := List.mem_of_mem_take hg
          have e1 : q.1 = placeF s g := congrArg Prod.fst h1
          have e2 : q.2 = g.2 := congrArg Prod.snd h1
          rw [e2]
          exact ag g hgf f hfm (by rw [← e1, hqp, hpf]) h2
      · have hn2 : lookN (spDn sp) (nkFact pl) = none := hn
        have hnone : sp.find? (fun p => decide (p.1 = pl)) = none := by
          rw [look_kl nkFact_inj pl sp, Option.map_eq_none_iff] at hn2
          exact hn2
        have hput : putN (spDn sp) (nkFact pl) (rowD f.2) = spDn (sp ++ [(pl, f.2)]) := put_new nkFact_inj fun p hp e => by
          have := List.find?_eq_none.mp hnone p hp
          exact this (decide_eq_true e)
        refine ee_ixT (ee_var 5 rfl (ee_int ⟨rowD f.2, rfl, ok_row _, ok_row _, ?_⟩))
        rw [eqv_row, decide_eq_true rfl]
        refine ss_nil ⟨rfl, sp ++ [(pl, f.2)], some (.v (.d (faD f))), some (.v (.d (faD pl))), by rw [← hput]; rfl, by rw [List.length_append]; exact Nat.succ_le_succ hsp, ?_⟩
        rw [hts]
        refine ⟨fun g hg ho => ?_, fun p hp => ?_⟩
        · rw [List.find?_append]
          rcases List.mem_append.mp hg with hg | hg
          · rw [ok.get g hg ho]
            rfl
          · rw [List.mem_singleton] at hg
            subst hg
            rw [hpf, hnone]
            simp
        · rcases List.mem_append.mp hp with hp | hp
          · obtain ⟨g, hg, h⟩ := ok.from' p hp
            exact ⟨g, List.mem_append_left _ hg, h⟩
          · rw [List.mem_singleton] at hp
            subst hp
            exact ⟨f, List.mem_append_right _ (List.mem_singleton.mpr rfl), by rw [hpf], hopen⟩
    · rw [if_neg hop]
      have hno : ¬ ∃ b ∈ opn, b.1 = placeF s f := fun ⟨b, h1, h2⟩ => hop (by rw [List.find?_isSome]; exact ⟨b, h1, decide_eq_true (by rw [← hpf]; exact h2)⟩)
      refine ss_nil ⟨rfl, sp, some (.v (.d (faD f))), some (.v (.d (faD pl))), rfl, Nat.le_succ_of_le hsp, ?_⟩
      rw [hts]
      refine ⟨fun g hg ho => ?_, fun p hp => ?_⟩
      · rcases List.mem_append.mp hg with hg | hg
        · exact ok.get g hg ho
        · rw [List.mem_singleton] at hg
          subst hg
          exact absurd ho hno
      · obtain ⟨g, hg, h⟩ := ok.from' p hp
        exact ⟨g, List.mem_append_left _ hg, h⟩
  · rintro ρ' δ' ⟨rfl, sp, o5, o6, rfl, hsp, ok⟩
    rw [List.take_length] at ok
    refine ss_opq 4 rfl (ss_one (se_ret (ee_var 4 rfl (hz1 fun f hf g hg e ho => ?_))))
    have h1 := ok.get f hf ho
    have h2 := ok.get g hg (by rw [← e]; exact ho)
    rw [← e, h1] at h2
    have h3 : ((placeF s f, f.2) : Fact × Row) = (placeF s f, g.2) := Option.some.inj h2
    exact (Prod.mk.inj h3).2
end
end Em
/-! part ma3 -/
set_option Elab.async false
set_option linter.all false
set_option maxRecDepth 100000
set_option maxHeartbeats 4000000
set_option autoImplicit false
/-! Ma3: blocks and choices. -/
namespace Em
open PySem PySem.Spec
structure BOk (s : Sch) (U : List Fact) (b : Bl) : Prop where
  nd : KeysNd b
  ne : ∀ g ∈ b, g.2 ≠ []
  pl : ∀ g ∈ b, ∀ r ∈ g.2, placeF s (g.1.1, r) = g.1
  key : ∀ g ∈ b, ∃ k, keyLen s g.1.1 = some k
  rnd : ∀ g ∈ b, g.2.Nodup
  sub : ∀ f ∈ allF b, f ∈ U
theorem nodup_len {α : Type} [DecidableEq α] : ∀ {l m : List α}, l.Nodup → (∀ x ∈ l, x ∈ m) → l.length ≤ m.length
  | [], _, _, _ => Nat.zero_le _
  | a :: l, m, h, hs => by
    rw [List.nodup_cons] at h
    have ha := hs a List.mem_cons_self
    have : l.length ≤ (m.erase a).length := nodup_len h.2 fun x hx => (List.mem_erase_of_ne fun e => h.1 (by rw [← e]; exact hx)).mpr (hs x (List.mem_cons_of_mem _ hx))
    rw [List.length_erase_of_mem ha] at this
    have := List.length_pos_of_mem ha
    rw [List.length_cons]
    omega
theorem mem_allF {b : Bl} {f : Fact} : f ∈ allF b ↔ ∃ g ∈ b, f.1 = g.1.1 ∧ f.2 ∈ g.2 := by
  unfold allF
  rw [List.mem_flatMap]
  constructor
  · rintro ⟨g, hg, hf⟩
    obtain ⟨r, hr, rfl⟩ := List.mem_map.mp hf
    exact ⟨g, hg, rfl, hr⟩
  · rintro ⟨g, hg, h1, h2⟩
    exact ⟨g, hg, List.mem_map.mpr ⟨f.2, h2, by rw [← h1]⟩⟩
theorem BOk.tail {s : Sch} {U : List Fact} {g : Fact × List Row} {b : Bl} (h : BOk s U (g :: b)) : BOk s U b := by
  have hn := h.nd
  unfold KeysNd at hn
  rw [List.map_cons, List.nodup_cons] at hn
  refine ⟨hn.2, fun x hx => h.ne x (List.mem_cons_of_mem _ hx), fun x hx => h.pl x (List.mem_cons_of_mem _ hx), fun x hx => h.key x (List.mem_cons_of_mem _ hx), fun x hx => h.rnd x (List.mem_cons_of_mem _ hx), fun f hf => h.sub f ?_⟩
  obtain ⟨x, hx, e⟩ := mem_allF.mp hf
  exact mem_allF.mpr ⟨x, List.mem_cons_of_mem _ hx, e⟩
theorem allF_nd {s : Sch} {U : List Fact} : ∀ {b : Bl}, BOk s U b → (allF b).Nodup
  | [], _ => List.nodup_nil
  | g :: b, h => by
    have e : allF (g :: b) = (g.2.map fun r => (g.1.1, r)) ++ allF b := by unfold allF; rw [List.flatMap_cons]
    rw [e]
    have hn := h.nd
    unfold KeysNd at hn
    rw [List.map_cons, List.nodup_cons] at hn
    refine List.nodup_append.mpr ⟨?_, allF_nd h.tail, fun f hf f' hf' ee => ?_⟩
    · exact List.Pairwise.map _ (fun a c hac e => hac (Prod.mk.inj e).2) (h.rnd g List.mem_cons_self)
    · subst ee
      obtain ⟨r, hr, rfl⟩ := List.mem_map.mp hf
      obtain ⟨x, hx, e1, e2⟩ := mem_allF.mp hf'
      have p1 := h.pl g List.mem_cons_self r hr
      have p2 := h.pl x (List.mem_cons_of_mem _ hx) r e2
      have e1' : g.1.1 = x.1.1 := e1
      rw [← e1', p1] at p2
      exact hn.1 (by rw [p2]; exact List.mem_map_of_mem hx)
theorem settled_sub {b : Bl} {f : Fact} (h : f ∈ settled b) : ∃ g ∈ b, g.2 = [f.2] ∧ f.1 = g.1.1 := by
  unfold settled at h
  obtain ⟨g, hg, rfl⟩ := List.mem_map.mp h
  obtain ⟨h1, h2⟩ := List.mem_filter.mp hg
  have h3 : g.2.length = 1 := of_decide_eq_true h2
  refine ⟨g, h1, ?_, rfl⟩
  cases e : g.2 with
  | nil => rw [e] at h3; cases h3
  | cons r l =>
    cases l with
    | nil => show [r] = [g.2.headD []]; rw [e]; rfl
    | cons _ _ => rw [e] at h3; simp at h3
theorem mem_settled {b : Bl} {g : Fact × List Row} {r : Row} (h : g ∈ b) (e : g.2 = [r]) : (g.1.1, r) ∈ settled b := by
  unfold settled
  refine List.mem_map.mpr ⟨g, List.mem_filter.mpr ⟨h, ?_⟩, ?_⟩
  · unfold isOne
    rw [e]
    rfl
  · unfold oneF
    rw [e]
    rfl
theorem settled_all {b : Bl} {f : Fact} (h : f ∈ settled b) : f ∈ allF b := by
  obtain ⟨g, hg, e1, e2⟩ := settled_sub h
  exact mem_allF.mpr ⟨g, hg, e2, by rw [e1]; exact List.mem_singleton.mpr rfl⟩
theorem settled_nd {s : Sch} {U : List Fact} {b : Bl} (h : BOk s U b) : (settled b).Nodup := by
  unfold settled
  have h2 : (b.filter isOne).Pairwise fun a c => a.1 ≠ c.1 := (List.pairwise_map.mp h.nd).filter _
  rw [List.Nodup, List.pairwise_map]
  refine List.Pairwise.imp_of_mem (fun {a c} ha hc hac e => hac ?_) h2
  obtain ⟨h3, h4⟩ := List.mem_filter.mp ha
  obtain ⟨h5, h6⟩ := List.mem_filter.mp hc
  have g1 : ∀ g : Fact × List Row, g ∈ b → isOne g = true → (oneF g).2 ∈ g.2 := fun g hg _ => by
    unfold oneF
    cases q : g.2 with
    | nil => exact absurd q (h.ne g hg)
    | cons r l => exact List.mem_cons_self
  have p1 := h.pl a h3 _ (g1 a h3 h4)
  have p2 := h.pl c h5 _ (g1 c h5 h6)
  have e1 : (oneF a) = (a.1.1, (oneF a).2) := rfl
  have e2 : (oneF c) = (c.1.1, (oneF c).2) := rfl
  rw [← e1] at p1
  rw [← e2] at p2
  rw [← p1, ← p2, e]
theorem mem_choose {b : Bl} {k : Fact} {r : Row} {g : Fact × List Row} (h : g ∈ choose b k r) : ∃ g0 ∈ b, g.1 = g0.1 ∧ ((g0.1 = k ∧ g.2 = [r]) ∨ (g0.1 ≠ k ∧ g.2 = g0.2)) := by
  unfold choose at h
  obtain ⟨g0, h0, rfl⟩ := List.mem_map.mp h
  by_cases e : g0.1 = k
  · rw [if_pos e]
    exact ⟨g0, h0, rfl, .inl ⟨e, rfl⟩⟩
  · rw [if_neg e]
    exact ⟨g0, h0, rfl, .inr ⟨e, rfl⟩⟩
theorem choose_of {b : Bl} {k : Fact} {r : Row} {g : Fact × List Row} (h : g ∈ b) : (if g.1 = k then (g.1, [r]) else g) ∈ choose b k r := by
  unfold choose
  exact List.mem_map.mpr ⟨g, h, rfl⟩
theorem nd_inj {b : Bl} (h : KeysNd b) {x y : Fact × List Row} (hx : x ∈ b) (hy : y ∈ b) (e : x.1 = y.1) : x = y := Dl.nodup_inj h hx hy e
theorem BOk.choose {s : Sch} {U : List Fact} {b : Bl} (h : BOk s U b) {g : Fact × List Row} (hg : g ∈ b) {r : Row} (hr : r ∈ g.2) : BOk s U (choose b g.1 r) := by
  have sub2 : ∀ x ∈ Em.choose b g.1 r, ∃ g0 ∈ b, x.1 = g0.1 ∧ ∀ y ∈ x.2, y ∈ g0.2 := fun x hx => by
    obtain ⟨g0, h0, e1, e2⟩ := mem_choose hx
    refine ⟨g0, h0, e1, fun y hy => ?_⟩
    rcases e2 with ⟨e3, e4⟩ | ⟨_, e4⟩
    · rw [e4, List.mem_singleton] at hy
      rw [hy, nd_inj h.nd h0 hg e3]
      exact hr
    · rw [e4] at hy
      exact hy
  refine ⟨?_, fun x hx => ?_, fun x hx y hy => ?_, fun x hx => ?_, fun x hx => ?_, fun f hf => ?_⟩
  · show ((Em.choose b g.1 r).map (·.1)).Nodup
    rw [choose_keys]
    exact h.nd
  · obtain ⟨g0, h0, e1, e2⟩ := mem_choose hx
    rcases e2 with ⟨_, e4⟩ | ⟨_, e4⟩
    · rw [e4]; exact fun z => by cases z
    · rw [e4]; exact h.ne g0 h0
  · obtain ⟨g0, h0, e1, e2⟩ := sub2 x hx
    rw [e1]
    exact h.pl g0 h0 y (e2 y hy)
  · obtain ⟨g0, h0, e1, _⟩ := sub2 x hx
    rw [e1]
    exact h.key g0 h0
  · obtain ⟨g0, h0, e1, e2⟩ := mem_choose hx
    rcases e2 with ⟨_, e4⟩ | ⟨_, e4⟩
    · rw [e4]; simp
    · rw [e4]; exact h.rnd g0 h0
  · obtain ⟨x, hx, e1, e2⟩ := mem_allF.mp hf
    obtain ⟨g0, h0, e3, e4⟩ := sub2 x hx
    exact h.sub f (mem_allF.mpr ⟨g0, h0, by rw [e1, e3], e4 _ e2⟩)
def opens (b : Bl) : Nat := (b.filter isOpen).length
theorem opens_choose {b : Bl} (hnd : KeysNd b) {g : Fact × List Row} (hg : g ∈ b) (ho : isOpen g = true) (r : Row) : opens (choose b g.1 r) < opens b := by
  unfold opens Em.choose
  induction b with
  | nil => cases hg
  | cons a b ih =>
    unfold KeysNd at hnd
    rw [List.map_cons, List.nodup_cons] at hnd
    rw [List.map_cons, List.filter_cons, List.filter_cons]
    rcases List.mem_cons.mp hg with q | q
    · subst q
      rw [if_pos rfl, if_pos ho, if_neg (by unfold isOpen; simp)]
      have : b.map (fun x => if x.1 = g.1 then (x.1, [r]) else x) = b := by
        have gen : ∀ l : Bl, (∀ x ∈ l, x.1 ≠ g.1) → l.map (fun x => if x.1 = g.1 then (x.1, [r]) else x) = l := fun l => by
          induction l with
          | nil => intro _; rfl
          | cons y l ih =>
            intro hl
            rw [List.map_cons, if_neg (hl y List.mem_cons_self), ih fun x hx => hl x (List.mem_cons_of_mem _ hx)]
        exact gen b fun x hx e => hnd.1 (by rw [← e]; exact List.mem_map_of_mem hx)
      rw [this, List.length_cons]
      omega
    · have hne : a.1 ≠ g.1 := fun e => hnd.1 (by rw [e]; exact List.mem_map_of_mem q)
      rw [if_neg hne]
      have := ih hnd.2 q
      split
      · rw [List.length_cons, List.length_cons]; omega
      · exact this
/-- a choice in each block -/
def mend (b : Bl) (c : Fact → Row) : List Fact := b.map fun g => (g.1.1, c g.1)
def Pick (b : Bl) (c : Fact → Row) : Prop := ∀ g ∈ b, c g.1 ∈ g.2
def Holds' (st : List Fact) (q : Qn) : Prop := ∃ j ∈ q.2, Sat st j.2
def AllSel (b : Bl) (q : Qn) : Prop := ∀ c, Pick b c → Holds' (mend b c) q
theorem mend_choose (b : Bl) (k : Fact) (r : Row) (c : Fact → Row) : mend (choose b k r) c = mend b c := by
  unfold mend Em.choose
  rw [List.map_map]
  refine List.map_congr_left fun g _ => ?_
  show ((if g.1 = k then (g.1, [r]) else g).1.1, c (if g.1 = k then (g.1, [r]) else g).1) = _
  split <;> rfl
theorem allSel_split {b : Bl} {q : Qn} (hnd : KeysNd b) {g : Fact × List Row} (hg : g ∈ b) : AllSel b q ↔ ∀ r ∈ g.2, AllSel (choose b g.1 r) q := by
  constructor
  · intro h r hr c hc
    rw [mend_choose]
    refine h c fun x hx => ?_
    have h2 := hc _ (choose_of (k := g.1) (r := r) hx)
    by_cases e : x.1 = g.1
    · rw [if_pos e] at h2
      have h3 : c x.1 = r := by simpa using h2
      rw [h3, nd_inj hnd hx hg e]
      exact hr
    · rw [if_neg e] at h2
      exact h2
  · intro h c hc
    have h2 := h (c g.1) (hc g hg) c fun x hx => ?_
    · rw [mend_choose] at h2
      exact h2
    · obtain ⟨g0, h0, e1, e2⟩ := mem_choose hx
      rcases e2 with ⟨e3, e4⟩ | ⟨_, e4⟩
      · rw [e4, e1, e3]
        exact List.mem_singleton.mpr rfl
      · rw [e4, e1]
        exact hc g0 h0
theorem allSel_leaf {b : Bl} {q : Qn} (h : Holds' (settled b) q) : AllSel b q := fun c hc => by
  obtain ⟨j, hj, hs⟩ := h
  refine ⟨j, hj, hs.mono fun f hf => ?_⟩
  obtain ⟨g, hg, e1, e2⟩ := settled_sub hf
  have h2 := hc g hg
  rw [e1, List.mem_singleton] at h2
  unfold mend
  exact List.mem_map.mpr ⟨g, hg, Prod.ext e2.symm h2⟩
theorem mend_all {b : Bl} {c : Fact → Row} (hc : Pick b c) : ∀ f ∈ mend b c, f ∈ allF b := fun f hf => by
  unfold mend at hf
  obtain ⟨g, hg, rfl⟩ := List.mem_map.mp hf
  exact mem_allF.mpr ⟨g, hg, rfl, hc g hg⟩
theorem pick_ex {b : Bl} (hnd : KeysNd b) (hne : ∀ g ∈ b, g.2 ≠ []) : ∃ c, Pick b c := by
  refine ⟨fun k => ((b.find? fun p => decide (p.1 = k)).map fun p => p.2.headD []).getD [], fun g hg => ?_⟩
  show ((b.find? fun p => decide (p.1 = g.1)).map fun p => p.2.headD []).getD [] ∈ g.2
  rw [find_nd hnd hg]
  show g.2.headD [] ∈ g.2
  cases q : g.2 with
  | nil => exact absurd q (hne g hg)
  | cons r l => exact List.mem_cons_self
/-- no valuation of the settled facts, and no open block in one of all facts -/
theorem allSel_fails {s : Sch} {U : List Fact} {b : Bl} {q : Qn} (hb : BOk s U b) (har : ∀ j ∈ q.2, Arity (allF b) j.2) (h1 : ¬ Holds' (settled b) q) (h2 : ∀ j ∈ q.2, ∀ v ∈ foundV (allF b) j.2, ∀ a ∈ j.2, ∀ g ∈ b, g.1 = placeF s (instA v a) → g.2.length ≤ 1) : ¬ AllSel b q := fun hall => by
  obtain ⟨c, hc⟩ := pick_ex hb.nd hb.ne
  obtain ⟨j, hj, hs⟩ := hall c hc
  have hs2 := hs.mono (mend_all hc)
  have hf := (found_sat (har j hj)).mpr hs2
  obtain ⟨v, hv⟩ := List.exists_mem_of_ne_nil _ hf
  refine h1 ⟨j, hj, thV v, fun a ha => ?_⟩
  rw [← instA_th]
  have hin := (found_sound _ rfl (har j hj) v hv).inst a ha
  obtain ⟨g, hg, e1, e2⟩ := mem_allF.mp hin
  have hp := hb.pl g hg _ e2
  have e3 : (g.1.1, (instA v a).2) = instA v a := Prod.ext e1.symm rfl
  rw [e3] at hp
  have hl := h2 j hj v hv a ha g hg hp.symm
  rw [← e3]
  refine mem_settled hg ?_
  cases e4 : g.2 with
  | nil => exact absurd e4 (hb.ne g hg)
  | cons r l =>
    rw [e4] at hl e2
    cases l with
    | nil => rw [List.mem_singleton] at e2; rw [e2]
    | cons _ _ => simp at hl
end Em
/-! part em14 -/
set_option Elab.async false
set_option linter.all false
set_option maxRecDepth 100000
set_option maxHeartbeats 4000000
set_option autoImplicit false
namespace Em
open PySem PySem.Spec PyProof.Rows L2 Dl
section
variable {P : Program} {w : World} {K : PySem.W.Frag} {mg : Str → Option Value} {base : Heap}
def G_leaf_of : GD := fun as δ Z => ∃ (b : Bl) (q : Qn), as = [.v (.dn (dnD b)), .v (.d (qnD q))] ∧ small b.length ∧ KeysNd b ∧ small q.2.length ∧ (∀ j ∈ q.2, VOk (settled b) j.2) ∧
  ((∃ j ∈ q.2, foundV (settled b) j.2 ≠ []) → ∀ ds, Z (.d (.tuple ds)) δ) ∧ ((∀ j ∈ q.2, foundV (settled b) j.2 = []) → Z (.d .none) δ)
theorem df_leaf_of (F : Facts K mg) : Df P w K mg base 7 "leaf_of" 2 G_leaf_of :=
  df_body F.d_leaf_of sc_leaf_of rfl (fun _ _ _ _ _ _ us hl => match us, hl with | [_, _], _ => rfl) fun f cdv A outer sh H E c as δ Z hr hl hG => by
  obtain ⟨b, q, rfl, hs, hnd, hsq, hv, hz1, hz2⟩ := hG
  refine ss_cons (se_set 2 (ee_callP (df_settled_facts F) hr (ea_one (ee_var 0 rfl ⟨rfl, b, rfl, hs, hnd, ?_⟩))) sc_leaf_of.nd)
  refine ss_cons (se_forM (List.range (q.2.map jnD).length) (fun i => .pair [.d (.int (i : Nat)), .d ((q.2.map jnD).getD i .none)])
    (fun i ρ' δ' => δ' = δ ∧ (∃ o3 o4 o5, ρ' = [some (.v (.dn (dnD b))), some (.v (.d (qnD q))), some (.v (.d (stD (settled b)))), o3, o4, o5]) ∧ ∀ j ∈ q.2.take i, foundV (settled b) j.2 = [])
    (ei_enT F.z_enumerate (ee_ixT (ee_var 1 rfl (ee_int ⟨_, rfl, rfl, rfl, ⟨_, _, _, rfl⟩, fun j hj => (by cases hj)⟩)))) ?_ ?_)
  · rintro i k ρi δi hik ⟨rfl, ⟨o3, o4, o5, rfl⟩, hno⟩
    have hi : i < (q.2.map jnD).length := by
      have := (List.getElem?_eq_some_iff.mp hik).1
      rwa [List.length_range] at this
    have ek : k = i := by
      rw [List.getElem?_range hi] at hik
      exact (Option.some.inj hik).symm
    subst ek
    rw [List.length_map] at hi
    have hj : q.2[k]? = some q.2[k] := List.getElem?_eq_getElem hi
    generalize q.2[k] = j at hj
    have hjm := List.mem_of_getElem? hj
    have hg : (q.2.map jnD).getD k .none = jnD j := by rw [List.getD_eq_getElem?_getD, List.getElem?_map, hj]; rfl
    rw [hg]
    refine ⟨[3, 4], eg_tup (ws := [.d (.int (k : Nat)), .d (jnD j)]) rfl (egs_cons (eg_name 3 (egs_cons (eg_name 4 (egs_nil ?_) sc_leaf_of.nd)) sc_leaf_of.nd))⟩
    have hvj := hv j hjm
    refine ss_cons (se_set 5 (ee_callP (df_valuations F) hr (ea_cons (ee_var 2 rfl (ea_one (ee_var 4 rfl ⟨rfl, settled b, j, rfl, hvj.fits, hvj.nd, hvj.one, fun us vs hu hp => ?_⟩))))) sc_leaf_of.nd)
    have hlen : vs.length = (foundV (settled b) j.2).length := hp.length_eq.trans (paired_len hu)
    refine ss_one (se_if (et_gt (ee_len F.z_len (ee_var 5 rfl ⟨vs.length, congrArg some (List.length_map ..), ee_int ?_⟩))))
    show (if decide ((0 : Int) < (vs.length : Nat)) = true then _ else _)
    by_cases h0 : foundV (settled b) j.2 = []
    · rw [decide_eq_false (by rw [hlen, h0]; simp)]
      refine ss_nil ⟨rfl, ⟨_, _, _, rfl⟩, fun j' hj' => ?_⟩
      rw [List.take_add_one, hj] at hj'
      rcases List.mem_append.mp hj' with h | h
      · exact hno j' h
      · have : j' = j := by simpa using h
        rw [this]
        exact h0
    · have hpos : 0 < (foundV (settled b) j.2).length := List.length_pos_iff.mpr h0
      rw [decide_eq_true (by rw [hlen]; omega)]
      cases vs with
      | nil => rw [← hlen] at hpos; simp at hpos
      | cons v vs =>
        exact ss_one (se_ret (ee_tup (ea_cons (ee_str (ea_cons (ee_var 3 rfl (ea_one (ee_ixL (ee_var 5 rfl (ee_int ⟨valD v, at_map (i := 0) (l := v :: vs) rfl, hz1 ⟨j, hjm, h0⟩ _⟩))))))))))
  · rintro ρ' δ' ⟨rfl, ⟨o3, o4, o5, rfl⟩, hno⟩
    rw [List.length_range, List.length_map, List.take_length] at hno
    exact ss_one (se_ret (ee_non (hz2 hno)))
/-- no open block is used -/
def Quiet (s : Sch) (b : Bl) (v : Vn) (a : Atom) : Prop := ∀ g ∈ b, g.1 = placeF s (instA v a) → g.2.length ≤ 1
def G_open_place : GD := fun as δ Z => ∃ (s : Sch) (U : List Fact) (b : Bl) (q : Qn), as = [.v (.d (scD s)), .v (.dn (dnD b)), .v (.d (qnD q))] ∧ small s.length ∧ small (allF b).length ∧ BOk s U b ∧ small q.2.length ∧ (∀ j ∈ q.2, VOk (allF b) j.2 ∧ ∀ a ∈ j.2, small a.2.length) ∧
  (∀ g ∈ b, isOpen g = true → Z (.d (faD g.1)) δ) ∧ ((∀ j ∈ q.2, ∀ v ∈ foundV (allF b) j.2, ∀ a ∈ j.2, Quiet s b v a) → Z (.d .none) δ)
theorem df_open_place (F : Facts K mg) : Df P w K mg base 7 "open_place" 3 G_open_place :=
  df_body F.d_open_place sc_open_place rfl (fun _ _ _ _ _ _ us hl => match us, hl with | [_, _, _], _ => rfl) fun f cdv A outer sh H E c as δ Z hr hl hG => by
  obtain ⟨s, U, b, q, rfl, hss, hsa, hb, hsq, hv, hz1, hz2⟩ := hG
  refine ss_cons (se_set 3 (ee_callP (df_all_facts F) hr (ea_one (ee_var 1 rfl ⟨rfl, b, rfl, hsa, hb.nd, ?_⟩))) sc_open_place.nd)
  refine ss_cons (se_forM q.2 (fun j => .one (.d (jnD j))) (fun i ρ' δ' => δ' = δ ∧ (∃ o4 o5 o6 o7, ρ' = [some (.v (.d (scD s))), some (.v (.dn (dnD b))), some (.v (.d (qnD q))), some (.v (.d (stD (allF b)))), o4, o5, o6, o7]) ∧ ∀ j ∈ q.2.take i, ∀ v ∈ foundV (allF b) j.2, ∀ a ∈ j.2, Quiet s b v a)
    (ei_tupM jnD q.2 (ee_ixT (ee_var 2 rfl (ee_int ⟨_, rfl, rfl, rfl, rfl, ⟨_, _, _, _, rfl⟩, fun j hj => (by cases hj)⟩)))) ?_ ?_)
  · rintro i j ρi δi hji ⟨rfl, ⟨o4, o5, o6, o7, rfl⟩, hq⟩
    have hjm := List.mem_of_getElem? hji
    obtain ⟨hvj, hatm⟩ := hv j hjm
    refine ⟨[4], eg_name 4 ?_ sc_open_place.nd⟩
    have hfs := fun v hv => found_sound _ rfl hvj.fits.ar v hv
    refine ss_one (se_for (ei_list (ee_callP (df_valuations F) hr (ea_cons (ee_var 3 rfl (ea_one (ee_var 4 rfl ⟨rfl, allF b, j, rfl, hvj.fits, hvj.nd, hvj.one, fun us vs hu hp => ?_⟩)))))))
    have hvs : ∀ u ∈ vs, ∃ v ∈ foundV (allF b) j.2, u.Perm v := fun u hu' => by
      obtain ⟨k, hk⟩ := List.getElem?_of_mem (hp.mem_iff.mp hu')
      obtain ⟨v, h1, h2⟩ := paired_left hu hk
      exact ⟨v, List.mem_of_getElem? h1, h2⟩
    have hvs2 : ∀ v ∈ foundV (allF b) j.2, ∃ u ∈ vs, u.Perm v := fun v hv' => by
      obtain ⟨k, hk⟩ := List.getElem?_of_mem hv'
      obtain ⟨u, h1, h2⟩ := paired_at hu hk
      exact ⟨u, hp.mem_iff.mpr (List.mem_of_getElem? h1), h2⟩
    refine ⟨fun k ρ' δ' => δ' = δi ∧ (∃ o5 o6 o7, ρ' = [some (.v (.d (scD s))), some (.v (.dn (dnD b))), some (.v (.d (qnD q))), some (.v (.d (stD (allF b)))), some (.v (.d (jnD j))), o5, o6, o7]) ∧ ∀ u ∈ vs.take k, ∀ a ∈ j.2, Quiet s b u a, ⟨rfl, ⟨_, _, _, rfl⟩, fun u hu => (by cases hu)⟩, fun k y ρk δk hy ⟨e1, ⟨p5, p6, p7, e2⟩, hqk⟩ => ?_, fun ρ' δ' ⟨e1, ⟨p5, p6, p7, e2⟩, hqk⟩ => ?_⟩
    · subst e1 e2
      rw [List.map_map, List.getElem?_map] at hy
      cases qk : vs[k]? with
      | none => rw [qk] at hy; cases hy
      | some u =>
        rw [qk] at hy
        cases hy
        have hum := List.mem_of_getElem? qk
        obtain ⟨v, hvm, hpuv⟩ := hvs u hum
        have fv := hfs v hvm
        have hund : (u.map (·.1)).Nodup := (hpuv.map (·.1)).nodup_iff.mpr fv.nd
        have hul : u.length ≤ 60 := by
          rw [hpuv.length_eq]
          have := hvj.fits.len j.2.length v (by rw [List.take_length]; exact hvm)
          exact this
        refine ⟨[5], eg_name 5 ?_ sc_open_place.nd⟩
        refine ss_one (se_forM j.2 (fun a => .one (.d (atD a))) (fun m ρ' δ' => δ' = δk ∧ (∃ o6 o7, ρ' = [some (.v (.d (scD s))), some (.v (.dn (dnD b))), some (.v (.d (qnD q))), some (.v (.d (stD (allF b)))), some (.v (.d (jnD j))), some (.v (.d (valD u))), o6, o7]) ∧ ∀ a ∈ j.2.take m, Quiet s b u a)
          (ei_tupM atD j.2 (ee_ixT (ee_var 4 rfl (ee_int ⟨_, rfl, rfl, rfl, rfl, ⟨_, _, rfl⟩, fun a ha => (by cases ha)⟩)))) ?_ ?_)
        · rintro m a ρm δm ham ⟨rfl, ⟨o6, o7, rfl⟩, hqm⟩
          have hamem := List.mem_of_getElem? ham
          refine ⟨[6], eg_name 6 ?_ sc_open_place.nd⟩
          have eia : instA u a = instA v a := instA_perm hpuv fv.nd a
          have hin : instA u a ∈ allF b := by rw [eia]; exact fv.inst a hamem
          obtain ⟨g, hg, e1, e2⟩ := mem_allF.mp hin
          have hpl := hb.pl g hg _ e2
          have e3 : (g.1.1, (instA u a).2) = instA u a := Prod.ext e1.symm rfl
          rw [e3] at hpl
          obtain ⟨kk, hkk⟩ := hb.key g hg
          have hkl : keyLen s (instA u a).1 = some kk := by rw [e1]; exact hkk
          have ekn : keyN s (instA u a).1 = kk := by unfold keyN; rw [hkl]; rfl
          have epo : placeOf (instA u a) kk = g.1 := by rw [← hpl]; unfold placeF; rw [ekn]
          refine ss_cons (se_set 7 (ee_callP (df_place_of F) hr (ea_cons (ee_var 0 rfl (ea_one (ee_callP (df_turned_fact F) hr (ea_cons (ee_var 6 rfl (ea_one (ee_new (en_dictT F.z_dict (ee_var 5 rfl ⟨vnD u, by rw [valD_eq], by rw [vn_keys]; exact hund, ?_, rfl, rfl, a, u, rfl, (hatm a hamem), rfl, s, instA u a, kk, rfl, hss, hkl, ?_⟩))))))))))) sc_open_place.nd)
          · unfold vnD
            rw [List.length_map]
            exact Nat.le_trans hul (by decide)
          rw [epo]
          refine ss_one (se_if (et_gt (ee_len F.z_len (ee_dnget hr (ee_var 1 rfl (ee_var 7 rfl ⟨[.text g.1.1, nkRow g.1.2], by rw [datas_fact]; rfl, depth_nkFact g.1, rowsD g.2, look_dn hb.nd hg, g.2.length, congrArg some (List.length_map ..), ee_int ?_⟩))))))
          show (if decide ((1 : Int) < (g.2.length : Nat)) = true then _ else _)
          by_cases ho : 1 < g.2.length
          · rw [decide_eq_true (by omega)]
            exact ss_one (se_ret (ee_var 7 rfl (hz1 g hg (decide_eq_true ho))))
          · rw [decide_eq_false (by omega)]
            refine ss_nil ⟨rfl, ⟨_, _, rfl⟩, fun a' ha' => ?_⟩
            rw [List.take_add_one, ham] at ha'
            rcases List.mem_append.mp ha' with h | h
            · exact hqm a' h
            · have : a' = a := by simpa using h
              rw [this]
              intro g' hg' e'
              rw [hpl] at e'
              rw [nd_inj hb.nd hg' hg e']
              omega
        · rintro ρ' δ' ⟨rfl, ⟨o6, o7, rfl⟩, hqm⟩
          rw [List.take_length] at hqm
          refine ⟨rfl, ⟨_, _, _, rfl⟩, fun u' hu' => ?_⟩
          rw [List.take_add_one, qk] at hu'
          rcases List.mem_append.mp hu' with h | h
          · exact hqk u' h
          · have : u' = u := by simpa using h
            rw [this]
            exact hqm
    · subst e1 e2
      rw [List.map_map, List.length_map, List.take_length] at hqk
      refine ⟨rfl, ⟨_, _, _, _, rfl⟩, fun j' hj' v hv' a ha => ?_⟩
      rw [List.take_add_one, hji] at hj'
      rcases List.mem_append.mp hj' with h | h
      · exact hq j' h v hv' a ha
      · have : j' = j := by simpa using h
        subst this
        obtain ⟨u, hu', hpuv⟩ := hvs2 v hv'
        have := hqk u hu' a ha
        unfold Quiet at this ⊢
        rw [instA_perm hpuv (hfs v hv').nd a] at this
        exact this
  · rintro ρ' δ' ⟨rfl, ⟨o4, o5, o6, o7, rfl⟩, hq⟩
    rw [List.take_length] at hq
    exact ss_one (se_ret (ee_non (hz2 hq)))
end
end Em
/-! part em15 -/
set_option Elab.async false
set_option linter.all false
set_option maxRecDepth 100000
set_option maxHeartbeats 4000000
set_option autoImplicit false
namespace Em
open PySem PySem.Spec PyProof.Rows L2 Dl
/-- the question may be asked of any facts of U -/
structure QOk (s : Sch) (U : List Fact) (q : Qn) : Prop where
  sch : small s.length
  num : small U.length
  qs : small q.2.length
  at' : ∀ j ∈ q.2, ∀ a ∈ j.2, small a.2.length
  ok : ∀ j ∈ q.2, ∀ st : List Fact, st.Nodup → (∀ f ∈ st, f ∈ U) → VOk st j.2
theorem BOk.all_small {s : Sch} {U : List Fact} {b : Bl} (h : BOk s U b) (hU : small U.length) : small (allF b).length := Nat.lt_of_le_of_lt (nodup_len (allF_nd h) h.sub) hU
theorem rows_small {b : Bl} (h : small (allF b).length) {g : Fact × List Row} (hg : g ∈ b) : small g.2.length := by
  refine Nat.lt_of_le_of_lt ?_ h
  unfold allF
  have gen : ∀ l : Bl, g ∈ l → g.2.length ≤ (l.flatMap fun g => g.2.map fun r => ((g.1.1, r) : Fact)).length := fun l => by
    induction l with
    | nil => intro h; cases h
    | cons a l ih =>
      intro h
      rw [List.flatMap_cons, List.length_append, List.length_map]
      rcases List.mem_cons.mp h with q | q
      · rw [q]; omega
      · have := ih q
        omega
  exact gen b hg
theorem blocks_small {b : Bl} (hne : ∀ g ∈ b, g.2 ≠ []) (h : small (allF b).length) : small b.length := by
  refine Nat.lt_of_le_of_lt ?_ h
  unfold allF
  clear h
  induction b with
  | nil => exact Nat.zero_le _
  | cons a l ih =>
    rw [List.flatMap_cons, List.length_append, List.length_map, List.length_cons]
    have := ih fun g hg => hne g (List.mem_cons_of_mem _ hg)
    have : 0 < a.2.length := List.length_pos_iff.mpr (hne a List.mem_cons_self)
    omega
theorem fails_ne : decide (("fails" : Str) = "sure") = false := by decide
theorem sure_ne : decide (("sure" : Str) = "fails") = false := by decide
section
variable {P : Program} {w : World} {K : PySem.W.Frag} {mg : Str → Option Value} {base : Heap}
def G_grown (n : Nat) : GD := fun as δ Z => ∃ (s : Sch) (U : List Fact) (b : Bl) (q : Qn), as = [.v (.d (scD s)), .v (.dn (dnD b)), .v (.d (qnD q))] ∧ BOk s U b ∧ QOk s U q ∧ opens b ≤ n ∧
  (AllSel b q → ∀ d, Z (.d (.tuple [.str "sure", d])) δ) ∧ (¬ AllSel b q → ∀ d, Z (.d (.tuple [.str "fails", d])) δ)
theorem grown_step (F : Facts K mg) (n : Nat) (rec : ∀ m, n = m + 1 → Df P w K mg base (8 + m) "grown" 3 (G_grown m)) : Df P w K mg base (8 + n) "grown" 3 (G_grown n) := by
  rw [show 8 + n = (7 + n) + 1 by omega]
  refine df_body F.d_grown sc_grown rfl (fun _ _ _ _ _ _ us hl => match us, hl with | [_, _, _], _ => rfl) fun f cdv A outer sh H E c as δ Z hr hl hG => ?_
  obtain ⟨s, U, b, q, rfl, hb, hq, hn, hz1, hz2⟩ := hG
  have hsa := hb.all_small hq.num
  have hsb := blocks_small hb.ne hsa
  have har : ∀ j ∈ q.2, Arity (allF b) j.2 := fun j hj => (hq.ok j hj _ (allF_nd hb) hb.sub).fits.ar
  have hset : ∀ j ∈ q.2, VOk (settled b) j.2 := fun j hj => hq.ok j hj _ (settled_nd hb) fun f hf => hb.sub f (settled_all hf)
  refine ss_cons (se_set 3 (ee_callP (df_leaf_of F) hr (ea_cons (ee_var 1 rfl (ea_one (ee_var 2 rfl ⟨rfl, b, q, rfl, hsb, hb.nd, hq.qs, hset, fun hex ds => ?_, fun hno => ?_⟩)))) (Nat.le_add_right 7 n)) sc_grown.nd)
  · refine ss_cons (se_if (et_notN (ee_var 3 rfl ?_)))
    obtain ⟨j, hj, hne⟩ := hex
    exact ss_one (se_ret (ee_tup (ea_cons (ee_str (ea_one (ee_var 3 rfl (hz1 (allSel_leaf ⟨j, hj, (found_sat (hset j hj).fits.ar).mp hne⟩) _))))))) 
  · refine ss_cons (se_if (et_notN (ee_var 3 rfl (ss_nil ?_))))
    have hnl : ¬ Holds' (settled b) q := fun ⟨j, hj, hs⟩ => (found_sat (hset j hj).fits.ar).mpr hs (hno j hj)
    refine ss_cons (se_set 4 (ee_callP (df_open_place F) hr (ea_cons (ee_var 0 rfl (ea_cons (ee_var 1 rfl (ea_one (ee_var 2 rfl ⟨rfl, s, U, b, q, rfl, hq.sch, hsa, hb, hq.qs, fun j hj => ⟨hq.ok j hj _ (allF_nd hb) hb.sub, hq.at' j hj⟩, fun g hg ho => ?_, fun hquiet => ?_⟩)))))) (Nat.le_add_right 7 n)) sc_grown.nd)
    · refine ss_cons (se_if (et_isN (ee_var 4 rfl (ss_nil ?_))))
      refine ss_cons (se_setN 6 (en_l (ea_nil ?_)) sc_grown.nd)
      have hgs := rows_small hsa hg
      refine ss_cons (se_forM g.2 (fun r => .one (.d (rowD r))) (fun i ρ' δ' => δ' = δ ∧ (∃ bs o7 o8 o9, ρ' = [some (.v (.d (scD s))), some (.v (.dn (dnD b))), some (.v (.d (qnD q))), some (.v (.d .none)), some (.v (.d (faD g.1))), none, some (.ow (.d (.list bs))), o7, o8, o9] ∧ bs.length = i) ∧ ∀ r ∈ g.2.take i, AllSel (choose b g.1 r) q)
        (ei_tupM rowD g.2 (ee_dnget hr (ee_var 1 rfl (ee_var 4 rfl ⟨[.text g.1.1, nkRow g.1.2], by rw [datas_fact]; rfl, depth_nkFact g.1, rowsD g.2, look_dn hb.nd hg, rfl, rfl, rfl, ⟨[], _, _, _, rfl, rfl⟩, fun r hr => (by cases hr)⟩)))) ?_ ?_)
      · rintro i r ρi δi hri ⟨rfl, ⟨bs, o7, o8, o9, rfl, hbs⟩, hall⟩
        have hrm := List.mem_of_getElem? hri
        have hil : i < g.2.length := (List.getElem?_eq_some_iff.mp hri).1
        have hoc := opens_choose hb.nd hg ho r
        obtain ⟨m, hm⟩ : ∃ m, n = m + 1 := ⟨n - 1, by omega⟩
        refine ⟨[7], eg_name 7 ?_ sc_grown.nd⟩
        refine ss_cons (se_asg (ee_callP (rec m hm) hr (ea_cons (ee_var 0 rfl (ea_cons (ee_callP (df_chosen_blocks F) hr (ea_cons (ee_var 1 rfl (ea_one (ee_newN (en_dn1 hr (ee_var 4 rfl ⟨[.text g.1.1, nkRow g.1.2], by rw [datas_fact]; rfl, depth_nkFact g.1, ee_var 7 rfl ⟨_, rfl, rfl, b, g.1, r, rfl, hsb, hb.nd, ea_one (ee_var 2 rfl ⟨rfl, s, U, choose b g.1 r, q, rfl, hb.choose hg hrm, hq, by omega, fun hsel d => ?_, fun hnsel d => ?_⟩)⟩⟩)))))) (by omega))))) (by omega)))
        · refine ⟨[8, 9], eg_tup (ws := [.d (.str "sure"), .d d]) rfl (egs_cons (eg_name 8 (egs_cons (eg_name 9 (egs_nil ?_) sc_grown.nd)) sc_grown.nd))⟩
          refine ss_cons (se_if (et_eq hr (ee_var 8 rfl (ee_str ⟨okD_str _, okD_str _, ?_⟩))))
          rw [str_eqv, sure_ne, if_neg Bool.false_ne_true]
          refine ss_nil (ss_one (se_append 6 rfl (ee_tup (ea_cons (ee_var 7 rfl (ea_one (ee_var 9 rfl ⟨by rw [hbs]; exact small_line (Nat.lt_trans hil hgs), rfl, ⟨_, _, _, _, rfl, by rw [List.length_append, hbs]; rfl⟩, fun r' hr' => ?_⟩)))))))
          rw [List.take_add_one, hri] at hr'
          rcases List.mem_append.mp hr' with h | h
          · exact hall r' h
          · have : r' = r := by simpa using h
            rw [this]
            exact hsel
        · refine ⟨[8, 9], eg_tup (ws := [.d (.str "fails"), .d d]) rfl (egs_cons (eg_name 8 (egs_cons (eg_name 9 (egs_nil ?_) sc_grown.nd)) sc_grown.nd))⟩
          refine ss_cons (se_if (et_eq hr (ee_var 8 rfl (ee_str ⟨okD_str _, okD_str _, ?_⟩))))
          rw [str_eqv, decide_eq_true rfl]
          exact ss_one (se_ret (ee_tup (ea_cons (ee_var 8 rfl (ea_one (ee_var 9 rfl (hz2 (fun hall2 => hnsel ((allSel_split hb.nd hg).mp hall2 r hrm)) d)))))))
      · rintro ρ' δ' ⟨rfl, ⟨bs, o7, o8, o9, rfl, hbs⟩, hall⟩
        rw [List.take_length] at hall
        refine ss_one (se_ret (ee_tup (ea_cons (ee_str (ea_one (ee_tup (ea_cons (ee_str (ea_cons (ee_ixT (ee_var 4 rfl (ee_int ⟨.str g.1.1, rfl, ?_⟩))))))))))))
        refine ea_cons (ee_ixT (ee_var 4 rfl (ee_int ⟨rowD g.1.2, rfl, ?_⟩)))
        exact ea_one (ee_tuple F.z_tuple (ee_var 6 rfl (hz1 ((allSel_split hb.nd hg).mpr hall) _)))
    · refine ss_cons (se_if (et_isN (ee_var 4 rfl ?_)))
      have hfail := hz2 (allSel_fails hb har hnl fun j hj v hv a ha g hg e => hquiet j hj v hv a ha g hg e)
      refine ss_one (se_ret (ee_tup (ea_cons (ee_str (ea_one (ee_tuple F.z_tuple (ee_new (en_lc (own := [("known", 5)]) (eic_of (ei_dnM b (ee_var 1 rfl ⟨rfl, ?_⟩))) sc_grown.nd (blkOk_by (N := N_grown) (sc := defScope s_grown) (by decide +kernel))))))))))
      refine lcz_map (f := fun g => .tuple [.str g.1.1, rowD (g.2.headD [])]) (small_line hsb) (fun g hg => ⟨_, fun s H C cl fp => eg_name 5 rfl sc_grown.nd, fun s H C cl fp => ?_⟩) ⟨rfl, hfail _⟩
      refine ee_tup (ea_cons (ee_ixT (ee_var 5 rfl (ee_int ⟨.str g.1.1, rfl, ?_⟩))))
      refine ea_one (ee_ixT (ee_dnget hr (ee_var 1 rfl (ee_var 5 rfl ⟨[.text g.1.1, nkRow g.1.2], by rw [datas_fact]; rfl, depth_nkFact g.1, rowsD g.2, look_dn hb.nd hg, ee_int ⟨rowD (g.2.headD []), ?_, rfl, rfl⟩⟩))))
      cases e : g.2 with
      | nil => exact absurd e (hb.ne g hg)
      | cons r l => exact at_map (i := 0) (l := r :: l) rfl
theorem df_grown (F : Facts K mg) : ∀ n, Df P w K mg base (8 + n) "grown" 3 (G_grown n)
  | 0 => grown_step F 0 fun m h => by cases h
  | n + 1 => grown_step F (n + 1) fun m h => by
    cases h
    exact df_grown F n
end
end Em
/-! part ma4 -/
set_option Elab.async false
set_option linter.all false
set_option maxRecDepth 100000
set_option maxHeartbeats 4000000
set_option autoImplicit false
/-! Ma4: what a store and a question must be; mendings of a store. -/
namespace Em
open PySem PySem.Spec
structure Asked (s : Sch) (st : List Fact) (q : Qn) (w : Nat) : Prop where
  sch : s.length ≤ 8
  nd : st.Nodup
  num : st.length ≤ 8
  key : ∀ f ∈ st, ∃ k, keyLen s f.1 = some k
  row : ∀ f ∈ st, f.2.length ≤ 8
  qs : q.2.length ≤ 4
  head : ∀ j ∈ q.2, j.1.length = w
  wid : w ≤ 8
  bnd : ∀ j ∈ q.2, ∀ n, Tm.x n ∈ j.1 → ∃ a ∈ j.2, Tm.x n ∈ a.2
  body : ∀ j ∈ q.2, j.2.length ≤ 3
  arN : ∀ j ∈ q.2, ∀ a ∈ j.2, a.2.length ≤ 8
  ar : ∀ j ∈ q.2, Arity st j.2
  akey : ∀ j ∈ q.2, ∀ a ∈ j.2, ∃ k, keyLen s a.1 = some k
theorem Asked.tiny {s : Sch} {st : List Fact} {q : Qn} {w : Nat} (h : Asked s st q w) {j : Join} (hj : j ∈ q.2) : Tiny st j.2 := ⟨h.nd, h.num, h.row, h.body j hj, h.ar j hj, h.arN j hj⟩
theorem Tiny.sub {st st' : List Fact} {body : List Atom} (h : Tiny st body) (hn : st'.Nodup) (hs : ∀ f ∈ st', f ∈ st) : Tiny st' body :=
  ⟨hn, Nat.le_trans (nodup_len hn hs) h.num, fun f hf => h.row f (hs f hf), h.bodyN, fun a ha f hf => h.ar a ha f (hs f hf), h.arN⟩
theorem putAt_len (g : Vn) (a : Atom) : (putAt g a).2.length = a.2.length := by unfold putAt; rw [List.length_map]
theorem Tiny.put {st : List Fact} {body : List Atom} (h : Tiny st body) (g : Vn) : Tiny st (body.map (putAt g)) :=
  ⟨h.nd, h.num, h.row, by rw [List.length_map]; exact h.bodyN, fun a ha f hf e => by
    obtain ⟨a', ha', rfl⟩ := List.mem_map.mp ha
    rw [putAt_len]
    exact h.ar a' ha' f hf e, fun a ha => by
    obtain ⟨a', ha', rfl⟩ := List.mem_map.mp ha
    rw [putAt_len]
    exact h.arN a' ha'⟩
theorem mem_putRow {q : Qn} {r : Row} {j : Join} : j ∈ (putRow q r).2 ↔ ∃ j0 ∈ q.2, ∃ g, bindRow j0.1 r [] = some g ∧ j = ([], j0.2.map (putAt g)) := by
  show j ∈ q.2.filterMap (putJ r) ↔ _
  rw [List.mem_filterMap]
  constructor
  · rintro ⟨j0, h0, e⟩
    unfold putJ at e
    obtain ⟨g, hg, rfl⟩ := Option.map_eq_some_iff.mp e
    exact ⟨j0, h0, g, hg, rfl⟩
  · rintro ⟨j0, h0, g, hg, rfl⟩
    exact ⟨j0, h0, by unfold putJ; rw [hg]; rfl⟩
theorem small8 {n : Nat} (h : n ≤ 8) : small n := Nat.lt_of_le_of_lt h (by decide)
theorem Asked.put {s : Sch} {st : List Fact} {q : Qn} {w : Nat} (h : Asked s st q w) (r : Row) : QOk s st (putRow q r) := by
  refine ⟨small8 h.sch, small8 h.num, ?_, fun j hj a ha => ?_, fun j hj st' hn hs => ?_⟩
  · show small (q.2.filterMap (putJ r)).length
    exact Nat.lt_of_le_of_lt (List.length_filterMap_le _ _) (small8 (Nat.le_trans h.qs (by decide)))
  · obtain ⟨j0, h0, g, _, rfl⟩ := mem_putRow.mp hj
    obtain ⟨a', ha', rfl⟩ := List.mem_map.mp ha
    rw [putAt_len]
    exact small8 (h.arN j0 h0 a' ha')
  · obtain ⟨j0, h0, g, _, rfl⟩ := mem_putRow.mp hj
    exact (((h.tiny h0).sub hn hs).put g).ok
theorem placeF_name (s : Sch) (f : Fact) : (placeF s f).1 = f.1 := rfl
theorem mem_rowsAt {s : Sch} {st : List Fact} {k : Fact} {r : Row} : r ∈ rowsAt s st k ↔ (k.1, r) ∈ st ∧ placeF s (k.1, r) = k := by
  unfold rowsAt
  rw [List.mem_map]
  constructor
  · rintro ⟨f, hf, rfl⟩
    obtain ⟨h1, h2⟩ := List.mem_filter.mp hf
    have h3 : placeF s f = k := of_decide_eq_true h2
    have e : (k.1, f.2) = f := by rw [← h3]; rfl
    rw [e]
    exact ⟨h1, h3⟩
  · rintro ⟨h1, h2⟩
    exact ⟨_, List.mem_filter.mpr ⟨h1, decide_eq_true h2⟩, rfl⟩
theorem gr_bok {s : Sch} {st : List Fact} {gs : Bl} (h : IsGr s st gs) (hnd : st.Nodup) (hk : ∀ f ∈ st, ∃ k, keyLen s f.1 = some k) : BOk s st gs := by
  refine ⟨h.nd, fun g hg => (h.rows g hg).2, fun g hg r hr => ?_, fun g hg => ?_, fun g hg => ?_, fun f hf => ?_⟩
  · rw [(h.rows g hg).1] at hr
    exact (mem_rowsAt.mp hr).2
  · obtain ⟨h1, h2⟩ := h.rows g hg
    obtain ⟨r, hr⟩ := List.exists_mem_of_ne_nil _ h2
    rw [h1] at hr
    exact hk (g.1.1, r) (mem_rowsAt.mp hr).1
  · rw [(h.rows g hg).1]
    unfold rowsAt
    refine List.Pairwise.map _ (R := fun a b : Fact => a ≠ b ∧ a.1 = b.1) (fun a b hab e => hab.1 (Prod.ext hab.2 e)) ?_
    refine List.Pairwise.imp_of_mem (R := fun a b : Fact => a ≠ b) (fun {a b} ha hb hab => ⟨hab, ?_⟩) (hnd.filter _)
    have e1 : placeF s a = g.1 := of_decide_eq_true (List.mem_filter.mp ha).2
    have e2 : placeF s b = g.1 := of_decide_eq_true (List.mem_filter.mp hb).2
    rw [← placeF_name s a, ← placeF_name s b, e1, e2]
  · obtain ⟨g, hg, e1, e2⟩ := mem_allF.mp hf
    rw [(h.rows g hg).1] at e2
    have := (mem_rowsAt.mp e2).1
    rw [← e1] at this
    exact this
/-- a mending of the store: one row of each place -/
def PickS (s : Sch) (st : List Fact) (c : Fact → Row) : Prop := ∀ f ∈ st, (f.1, c (placeF s f)) ∈ st ∧ placeF s (f.1, c (placeF s f)) = placeF s f
def mendS (s : Sch) (st : List Fact) (c : Fact → Row) : List Fact := st.map fun f => (f.1, c (placeF s f))
def SureS (s : Sch) (st : List Fact) (q : Qn) : Prop := ∀ c, PickS s st c → Holds' (mendS s st c) q
theorem Holds'.mono {st st' : List Fact} {q : Qn} (h : Holds' st q) (sub : ∀ f ∈ st, f ∈ st') : Holds' st' q := let ⟨j, hj, hs⟩ := h; ⟨j, hj, hs.mono sub⟩
theorem gr_of_fact {s : Sch} {st : List Fact} {gs : Bl} (h : IsGr s st gs) {g : Fact × List Row} (hg : g ∈ gs) : ∃ f ∈ st, placeF s f = g.1 := by
  obtain ⟨h1, h2⟩ := h.rows g hg
  obtain ⟨r, hr⟩ := List.exists_mem_of_ne_nil _ h2
  rw [h1] at hr
  obtain ⟨h3, h4⟩ := mem_rowsAt.mp hr
  exact ⟨_, h3, h4⟩
theorem pick_iff {s : Sch} {st : List Fact} {gs : Bl} (h : IsGr s st gs) (c : Fact → Row) : Pick gs c ↔ PickS s st c := by
  constructor
  · intro hp f hf
    obtain ⟨g, hg, e⟩ := h.all f hf
    have h2 := hp g hg
    rw [(h.rows g hg).1, e] at h2
    exact mem_rowsAt.mp h2
  · intro hp g hg
    obtain ⟨f, hf, e⟩ := gr_of_fact h hg
    rw [(h.rows g hg).1, ← e]
    exact mem_rowsAt.mpr (hp f hf)
theorem mend_iff {s : Sch} {st : List Fact} {gs : Bl} (h : IsGr s st gs) (c : Fact → Row) (f : Fact) : f ∈ mend gs c ↔ f ∈ mendS s st c := by
  unfold mend mendS
  rw [List.mem_map, List.mem_map]
  constructor
  · rintro ⟨g, hg, rfl⟩
    obtain ⟨f, hf, e⟩ := gr_of_fact h hg
    exact ⟨f, hf, by rw [← e]; rfl⟩
  · rintro ⟨f, hf, rfl⟩
    obtain ⟨g, hg, e⟩ := h.all f hf
    exact ⟨g, hg, by rw [e]; rfl⟩
theorem allSel_iff {s : Sch} {st : List Fact} {gs : Bl} (h : IsGr s st gs) (q : Qn) : AllSel gs q ↔ SureS s st q := by
  constructor
  · intro ha c hc
    exact (ha c ((pick_iff h c).mpr hc)).mono fun f hf => (mend_iff h c f).mp hf
  · intro ha c hc
    exact (ha c ((pick_iff h c).mp hc)).mono fun f hf => (mend_iff h c f).mpr hf
/-- possible -/
def Poss (s : Sch) (st : List Fact) (q : Qn) (r : Row) : Prop := ∃ j ∈ q.2, ∃ th : Str → Vl, (∀ a ∈ j.2, instT th a ∈ st) ∧ (∀ a ∈ j.2, ∀ b ∈ j.2, placeF s (instT th a) = placeF s (instT th b) → instT th a = instT th b) ∧ r = j.1.map (tmT th)
theorem tmT_agr {v : Vn} {th : Str → Vl} (ha : Agr v th) {ts : List Tm} (hb : Bound v ts) : ts.map (valT v) = ts.map (tmT th) := List.map_congr_left fun t ht => by
  cases t with
  | v a => rfl
  | x n =>
    obtain ⟨a, e⟩ := hb n ht
    show (getV v n).getD _ = th n
    rw [e, ha n a e]
    rfl
theorem instA_agr {v : Vn} {th : Str → Vl} (ha : Agr v th) {a : Atom} (hb : Bound v a.2) : instA v a = instT th a := by
  unfold instA instT
  rw [tmT_agr ha hb]
/-- possible, as the text finds it -/
theorem poss_iff {s : Sch} {st : List Fact} {gs : Bl} {q : Qn} {w : Nat} (h : IsGr s st gs) (hA : Asked s st q w) (r : Row) : Poss s st q r ↔ ∃ j ∈ q.2, ∃ v ∈ foundV st j.2, Agree s (gs.filter isOpen) (factsUsed v j.2) ∧ r = j.1.map (valT v) := by
  have bhead : ∀ j ∈ q.2, ∀ v ∈ foundV st j.2, Bound v j.1 := fun j hj v hv n hn => by
    obtain ⟨a, ha, hm⟩ := hA.bnd j hj n hn
    exact (found_sound _ rfl (hA.ar j hj) v hv).bnd a ha n hm
  constructor
  · rintro ⟨j, hj, th, h1, h2, rfl⟩
    obtain ⟨v, hv, ag⟩ := found_comp _ rfl h1
    have fv := found_sound _ rfl (hA.ar j hj) v hv
    refine ⟨j, hj, v, hv, fun f hf g hg e _ => ?_, ?_⟩
    · unfold factsUsed at hf hg
      obtain ⟨a, ha, rfl⟩ := List.mem_map.mp hf
      obtain ⟨b, hb, rfl⟩ := List.mem_map.mp hg
      rw [instA_agr ag (fv.bnd a ha), instA_agr ag (fv.bnd b hb)] at e ⊢
      rw [h2 a ha b hb e]
    · rw [tmT_agr ag (bhead j hj v hv)]
  · rintro ⟨j, hj, v, hv, hag, rfl⟩
    have fv := found_sound _ rfl (hA.ar j hj) v hv
    refine ⟨j, hj, thV v, fun a ha => by rw [← instA_th]; exact fv.inst a ha, fun a ha b hb e => ?_, List.map_congr_left fun t _ => valT_th v t⟩
    rw [← instA_th, ← instA_th] at e ⊢
    have ma : instA v a ∈ factsUsed v j.2 := List.mem_map_of_mem ha
    have mb : instA v b ∈ factsUsed v j.2 := List.mem_map_of_mem hb
    have ename : (instA v a).1 = (instA v b).1 := by rw [← placeF_name s, e, placeF_name]
    refine Prod.ext ename ?_
    obtain ⟨g, hg, eg⟩ := h.all _ (fv.inst a ha)
    by_cases ho : isOpen g = true
    · exact hag _ ma _ mb e ⟨g, List.mem_filter.mpr ⟨hg, ho⟩, eg⟩
    · have hl : ¬ 1 < g.2.length := fun z => ho (decide_eq_true z)
      have m1 : (instA v a).2 ∈ g.2 := by
        rw [(h.rows g hg).1, eg]
        exact mem_rowsAt.mpr ⟨fv.inst a ha, rfl⟩
      have m2 : (instA v b).2 ∈ g.2 := by
        rw [(h.rows g hg).1, eg, e]
        exact mem_rowsAt.mpr ⟨fv.inst b hb, rfl⟩
      cases e3 : g.2 with
      | nil => rw [e3] at m1; cases m1
      | cons x l =>
        rw [e3] at hl m1 m2
        cases l with
        | nil =>
          rw [List.mem_singleton] at m1 m2
          rw [m1, m2]
        | cons _ _ => simp at hl
end Em
/-! part ma5 -/
set_option Elab.async false
set_option linter.all false
set_option maxRecDepth 100000
set_option maxHeartbeats 4000000
set_option autoImplicit false
/-! Ma5: fewer facts, more joins. -/
namespace Em
open PySem PySem.Spec
/-- sure -/
def SureR (s : Sch) (st : List Fact) (q : Qn) (r : Row) : Prop := Poss s st q r ∧ SureS s st (putRow q r)
/-- fw: fewer rivals -/
structure Fewer (s : Sch) (st fw : List Fact) : Prop where
  sub : ∀ f ∈ fw, f ∈ st
  keep : ∀ f ∈ st, ∃ g ∈ fw, placeF s g = placeF s f
theorem place_name {s : Sch} {f g : Fact} (h : placeF s g = placeF s f) : g.1 = f.1 := by rw [← placeF_name s g, h, placeF_name]
theorem Poss.fewer {s : Sch} {st fw : List Fact} {q : Qn} {r : Row} (h : Fewer s st fw) (p : Poss s fw q r) : Poss s st q r := by
  obtain ⟨j, hj, th, h1, h2, e⟩ := p
  exact ⟨j, hj, th, fun a ha => h.sub _ (h1 a ha), h2, e⟩
theorem Poss.more {s : Sch} {st : List Fact} {q q' : Qn} {r : Row} (h : ∀ j ∈ q.2, j ∈ q'.2) (p : Poss s st q r) : Poss s st q' r := by
  obtain ⟨j, hj, z⟩ := p
  exact ⟨j, h j hj, z⟩
theorem Fewer.pick {s : Sch} {st fw : List Fact} (h : Fewer s st fw) {c : Fact → Row} (hp : PickS s fw c) : PickS s st c := fun f hf => by
  obtain ⟨g, hg, e⟩ := h.keep f hf
  obtain ⟨h1, h2⟩ := hp g hg
  rw [e] at h1 h2
  rw [place_name e] at h1 h2
  exact ⟨h.sub _ h1, h2⟩
theorem SureS.fewer {s : Sch} {st fw : List Fact} {q : Qn} (h : Fewer s st fw) (p : SureS s st q) : SureS s fw q := fun c hc => (p c (h.pick hc)).mono fun f hf => by
  unfold mendS at hf ⊢
  obtain ⟨f', hf', rfl⟩ := List.mem_map.mp hf
  obtain ⟨g, hg, e⟩ := h.keep f' hf'
  exact List.mem_map.mpr ⟨g, hg, by rw [e, place_name e]⟩
theorem pickS_ex (s : Sch) (st : List Fact) : ∃ c, PickS s st c := by
  refine ⟨fun k => ((st.find? fun f => decide (placeF s f = k)).map (·.2)).getD [], fun f hf => ?_⟩
  have hs : (st.find? fun g => decide (placeF s g = placeF s f)).isSome = true := by
    rw [List.find?_isSome]
    exact ⟨f, hf, decide_eq_true rfl⟩
  obtain ⟨g, hg⟩ := Option.isSome_iff_exists.mp hs
  have h1 := List.mem_of_find?_eq_some hg
  have h2 : placeF s g = placeF s f := of_decide_eq_true (List.find?_some (p := fun g : Fact => decide (placeF s g = placeF s f)) hg)
  show (f.1, ((st.find? fun g => decide (placeF s g = placeF s f)).map (·.2)).getD []) ∈ st ∧ placeF s (f.1, ((st.find? fun g => decide (placeF s g = placeF s f)).map (·.2)).getD []) = placeF s f
  rw [hg]
  show (f.1, g.2) ∈ st ∧ placeF s (f.1, g.2) = placeF s f
  have e : (f.1, g.2) = g := Prod.ext (place_name h2).symm rfl
  rw [e]
  exact ⟨h1, h2⟩
/-- what a binding put into an atom means -/
def over (g : Vn) (th : Str → Vl) : Str → Vl := fun n => (getV g n).getD (th n)
theorem tm_over (g : Vn) (th : Str → Vl) (t : Tm) : tmT th (putTm g t) = tmT (over g th) t := by
  cases t with
  | v a => rfl
  | x n =>
    show _ = (getV g n).getD (th n)
    cases q : getV g n with
    | some a => rw [putTm_some q]; rfl
    | none => rw [putTm_none q]; rfl
theorem inst_over (g : Vn) (th : Str → Vl) (a : Atom) : instT th (putAt g a) = instT (over g th) a := by
  unfold instT putAt
  rw [List.map_map]
  exact Prod.ext rfl (List.map_congr_left fun t _ => tm_over g th t)
theorem mendS_one {s : Sch} {st : List Fact} {c : Fact → Row} (hp : PickS s st c) {f g : Fact} (hf : f ∈ mendS s st c) (hg : g ∈ mendS s st c) (e : placeF s f = placeF s g) : f = g := by
  unfold mendS at hf hg
  obtain ⟨f', hf', rfl⟩ := List.mem_map.mp hf
  obtain ⟨g', hg', rfl⟩ := List.mem_map.mp hg
  rw [(hp f' hf').2, (hp g' hg').2] at e
  rw [e, place_name e]
theorem sure_poss {s : Sch} {st : List Fact} {q : Qn} {r : Row} (hl : ∀ j ∈ q.2, r.length = j.1.length) (h : SureS s st (putRow q r)) : Poss s st q r := by
  obtain ⟨c, hc⟩ := pickS_ex s st
  obtain ⟨j, hj, th, ht⟩ := h c hc
  obtain ⟨j0, h0, g, hg, rfl⟩ := mem_putRow.mp hj
  obtain ⟨sp, er⟩ := bindRow_sound (hl j0 h0) hg
  have hin : ∀ a ∈ j0.2, instT (over g th) a ∈ mendS s st c := fun a ha => by
    rw [← inst_over]
    exact ht _ (List.mem_map_of_mem ha)
  refine ⟨j0, h0, over g th, fun a ha => ?_, fun a ha b hb e => mendS_one hc (hin a ha) (hin b hb) e, ?_⟩
  · have := hin a ha
    unfold mendS at this
    obtain ⟨f, hf, e⟩ := List.mem_map.mp this
    rw [← e]
    exact (hc f hf).1
  · rw [← er]
    refine List.map_congr_left fun t ht => ?_
    cases t with
    | v a => rfl
    | x n =>
      obtain ⟨a, ha⟩ := sp.bnd n ht
      show (getV g n).getD _ = (getV g n).getD _
      rw [ha]
      rfl
theorem SureR.fewer {s : Sch} {st fw : List Fact} {q : Qn} {w : Nat} {r : Row} (hA : Asked s st q w) (h : Fewer s st fw) (p : SureR s st q r) : SureR s fw q r := by
  obtain ⟨⟨j, hj, th, h1, h2, e⟩, p2⟩ := p
  have p3 := p2.fewer h
  have hr : r.length = w := by rw [e, List.length_map]; exact hA.head j hj
  exact ⟨sure_poss (fun j hj => hr.trans (hA.head j hj).symm) p3, p3⟩
theorem SureR.more {s : Sch} {st : List Fact} {q q' : Qn} {r : Row} (h : ∀ j ∈ q.2, j ∈ q'.2) (p : SureR s st q r) : SureR s st q' r := by
  refine ⟨p.1.more h, fun c hc => ?_⟩
  obtain ⟨j, hj, hs⟩ := p.2 c hc
  obtain ⟨j0, h0, z⟩ := mem_putRow.mp hj
  exact ⟨j, mem_putRow.mpr ⟨j0, h j0 h0, z⟩, hs⟩
end Em
/-! part em16 -/
set_option Elab.async false
set_option linter.all false
set_option maxRecDepth 100000
set_option maxHeartbeats 4000000
set_option autoImplicit false
namespace Em
open PySem PySem.Spec PyProof.Rows L2 Dl
section
variable {P : Program} {w : World} {K : PySem.W.Frag} {mg : Str → Option Value} {base : Heap}
def G_decide : GD := fun as δ Z => ∃ (s : Sch) (st : List Fact) (q : Qn), as = [.v (.d (scD s)), .v (.d (stD st)), .v (.d (qnD q))] ∧ GrC s st ∧ st.Nodup ∧ st.length ≤ 8 ∧ QOk s st q ∧
  (SureS s st q → ∀ d, Z (.d (.tuple [.str "sure", d])) δ) ∧ (¬ SureS s st q → ∀ d, Z (.d (.tuple [.str "fails", d])) δ)
theorem df_decide (F : Facts K mg) : Df P w K mg base 17 "decide" 3 G_decide :=
  df_body F.d_decide sc_decide rfl (fun _ _ _ _ _ _ us hl => match us, hl with | [_, _, _], _ => rfl) fun f cdv A outer sh H E c as δ Z hr hl hG => by
  obtain ⟨s, st, q, rfl, hC, hnd, hn8, hq, hz1, hz2⟩ := hG
  refine ss_one (se_ret (ee_callP (df_grown F 8) hr (ea_cons (ee_var 0 rfl (ea_cons (ee_callP (df_places_of F) hr (ea_cons (ee_var 0 rfl (ea_one (ee_var 1 rfl ⟨rfl, s, st, rfl, hC, fun gs hgr hgl => ?_⟩))))))))))
  have hb := gr_bok hgr hnd hC.2.2
  have hop : opens gs ≤ 8 := Nat.le_trans (List.length_filter_le _ _) (Nat.le_trans hgl hn8)
  exact ea_one (ee_var 2 rfl ⟨rfl, s, st, gs, q, rfl, hb, hq, hop, fun h d => hz1 ((allSel_iff hgr q).mp h) d, fun h d => hz2 (fun h2 => h ((allSel_iff hgr q).mpr h2)) d⟩)
def G_is_sure : GD := fun as δ Z => ∃ (s : Sch) (st : List Fact) (q : Qn) (r : Row) (wd : Nat), as = [.v (.d (scD s)), .v (.d (stD st)), .v (.d (qnD q)), .v (.d (rowD r))] ∧ Asked s st q wd ∧ r.length = wd ∧
  (SureS s st (putRow q r) → Z (.d (.bool true)) δ) ∧ (¬ SureS s st (putRow q r) → Z (.d (.bool false)) δ)
theorem Asked.grc {s : Sch} {st : List Fact} {q : Qn} {wd : Nat} (h : Asked s st q wd) : GrC s st := ⟨small8 h.sch, small8 h.num, h.key⟩
theorem df_is_sure (F : Facts K mg) : Df P w K mg base 18 "is_sure" 4 G_is_sure :=
  df_body F.d_is_sure sc_is_sure rfl (fun _ _ _ _ _ _ us hl => match us, hl with | [_, _, _, _], _ => rfl) fun f cdv A outer sh H E c as δ Z hr hl hG => by
  obtain ⟨s, st, q, r, wd, rfl, hA, hrl, hz1, hz2⟩ := hG
  have hq4 : small q.2.length := small8 (Nat.le_trans hA.qs (by decide))
  refine ss_one (se_ret (ee_eq hr (ee_ixT (ee_callP (df_decide F) hr (ea_cons (ee_var 0 rfl (ea_cons (ee_var 1 rfl (ea_one (ee_callP (df_put_row F) hr (ea_cons (ee_var 2 rfl (ea_one (ee_var 3 rfl ⟨rfl, q, r, rfl, hq4, small8 (by rw [hrl]; exact hA.wid), fun j hj => ⟨by rw [hrl, hA.head j hj]; exact Nat.le_refl _, small8 (Nat.le_trans (hA.body j hj) (by decide)), fun a ha => small8 (hA.arN j hj a ha)⟩, rfl, s, st, putRow q r, rfl, hA.grc, hA.nd, hA.num, hA.put r, fun h d => ?_, fun h d => ?_⟩))))))))))))))
  · refine ee_int ⟨.str "sure", rfl, ee_str ⟨okD_str _, okD_str _, ?_⟩⟩
    rw [str_eqv, decide_eq_true rfl]
    exact hz1 h
  · refine ee_int ⟨.str "fails", rfl, ee_str ⟨okD_str _, okD_str _, ?_⟩⟩
    rw [str_eqv, fails_ne]
    exact hz2 h
def G_possible_rows : GD := fun as δ Z => ∃ (s : Sch) (st : List Fact) (q : Qn) (wd : Nat), as = [.v (.d (scD s)), .v (.d (stD st)), .v (.d (qnD q))] ∧ Asked s st q wd ∧ ∀ out : List Row, (∀ r, r ∈ out ↔ Poss s st q r) → small out.length → Z (.d (rowsD out)) δ
theorem df_possible_rows (F : Facts K mg) : Df P w K mg base 7 "possible_rows" 3 G_possible_rows :=
  df_body F.d_possible_rows sc_possible_rows rfl (fun _ _ _ _ _ _ us hl => match us, hl with | [_, _, _], _ => rfl) fun f cdv A outer sh H E c as δ Z hr hl hG => by
  obtain ⟨s, st, q, wd, rfl, hA, hz⟩ := hG
  refine ss_cons (se_set 3 (ee_callP (df_open_rows F) hr (ea_cons (ee_var 0 rfl (ea_one (ee_var 1 rfl ⟨rfl, s, st, rfl, hA.grc, fun gs hgr hgl => ?_⟩))))) sc_possible_rows.nd)
  generalize hop : gs.filter isOpen = opn
  refine ss_cons (se_setN 4 (en_l (ea_nil ?_)) sc_possible_rows.nd)
  have Pj : Join → Row → Prop := fun _ _ => True
  refine ss_cons (se_forM q.2 (fun j => .one (.d (jnD j))) (fun i ρ' δ' => δ' = δ ∧ ∃ rs o5 o6, ρ' = [some (.v (.d (scD s))), some (.v (.d (stD st))), some (.v (.d (qnD q))), some (.v (.dn (dnD opn))), some (.ow (.d (.list (rs.map rowD)))), o5, o6] ∧ rs.length ≤ 512 * i ∧ (∀ r ∈ rs, r.length = wd) ∧
      ∀ r, r ∈ rs ↔ ∃ j ∈ q.2.take i, ∃ v ∈ foundV st j.2, Agree s opn (factsUsed v j.2) ∧ r = j.1.map (valT v))
    (ei_tupM jnD q.2 (ee_ixT (ee_var 2 rfl (ee_int ⟨_, rfl, rfl, rfl, rfl, [], _, _, rfl, Nat.zero_le _, fun r hr => (by cases hr), fun r => ⟨fun h => (by cases h), fun ⟨j, hj, _⟩ => (by cases hj)⟩⟩)))) ?_ ?_)
  · rintro i j ρi δi hji ⟨rfl, rs, o5, o6, rfl, hrl, hrw, hrs⟩
    have hjm := List.mem_of_getElem? hji
    have tn := hA.tiny hjm
    have vk := tn.ok
    have hnum : (foundV st j.2).length ≤ 512 := Nat.le_trans (found_num tn.num j.2.length rfl) (Nat.le_trans (Nat.pow_le_pow_right (by decide) tn.bodyN) (by decide))
    have hi4 : i < 4 := Nat.lt_of_lt_of_le (List.getElem?_eq_some_iff.mp hji).1 hA.qs
    refine ⟨[5], eg_name 5 ?_ sc_possible_rows.nd⟩
    refine ss_one (se_for (ei_list (ee_callP (df_valuations F) hr (ea_cons (ee_var 1 rfl (ea_one (ee_var 5 rfl ⟨rfl, st, j, rfl, vk.fits, vk.nd, vk.one, fun us vs hu hp => ?_⟩)))))))
    have hvl : vs.length ≤ 512 := by rw [hp.length_eq, paired_len hu]; exact hnum
    have hvs : ∀ u ∈ vs, ∃ v ∈ foundV st j.2, u.Perm v := fun u hu' => by
      obtain ⟨k, hk⟩ := List.getElem?_of_mem (hp.mem_iff.mp hu')
      obtain ⟨v, h1, h2⟩ := paired_left hu hk
      exact ⟨v, List.mem_of_getElem? h1, h2⟩
    have hvs2 : ∀ v ∈ foundV st j.2, ∃ u ∈ vs, u.Perm v := fun v hv' => by
      obtain ⟨k, hk⟩ := List.getElem?_of_mem hv'
      obtain ⟨u, h1, h2⟩ := paired_at hu hk
      exact ⟨u, hp.mem_iff.mpr (List.mem_of_getElem? h1), h2⟩
    refine ⟨fun k ρ' δ' => δ' = δi ∧ ∃ rs' o6, ρ' = [some (.v (.d (scD s))), some (.v (.d (stD st))), some (.v (.d (qnD q))), some (.v (.dn (dnD opn))), some (.ow (.d (.list (rs'.map rowD)))), some (.v (.d (jnD j))), o6] ∧ rs'.length ≤ 512 * i + k ∧ (∀ r ∈ rs', r.length = wd) ∧
        ∀ r, r ∈ rs' ↔ r ∈ rs ∨ ∃ u ∈ vs.take k, Agree s opn (factsUsed u j.2) ∧ r = j.1.map (valT u),
      ⟨rfl, rs, _, rfl, hrl, hrw, fun r => ⟨.inl, fun h => h.elim id fun ⟨u, hu, _⟩ => (by cases hu)⟩⟩, fun k y ρk δk hy ⟨e1, rs', p6, e2, hl', hw', hm'⟩ => ?_, fun ρ' δ' ⟨e1, rs', p6, e2, hl', hw', hm'⟩ => ?_⟩
    · subst e1 e2
      rw [List.map_map, List.getElem?_map] at hy
      cases qk : vs[k]? with
      | none => rw [qk] at hy; cases hy
      | some u =>
        rw [qk] at hy
        cases hy
        have hum := List.mem_of_getElem? qk
        have hkl := (List.getElem?_eq_some_iff.mp qk).1
        obtain ⟨v, hvm, hpuv⟩ := hvs u hum
        have fv := found_sound _ rfl tn.ar v hvm
        have hund : (u.map (·.1)).Nodup := (hpuv.map (·.1)).nodup_iff.mpr fv.nd
        have hul : small u.length := by
          rw [hpuv.length_eq]
          have h60 := vk.fits.len j.2.length v (by rw [List.take_length]; exact hvm)
          exact Nat.lt_of_le_of_lt h60 (by decide)
        have hbu : ∀ a ∈ j.2, Bound u a.2 ∧ small a.2.length := fun a ha => ⟨bound_perm hpuv fv.nd (fv.bnd a ha), small8 (tn.arN a ha)⟩
        have hbh : Bound u j.1 := bound_perm hpuv fv.nd fun n hn => by
          obtain ⟨a, ha, hm⟩ := hA.bnd j hjm n hn
          exact fv.bnd a ha n hm
        have hhl : (j.1.map (valT u)).length = wd := by rw [List.length_map]; exact hA.head j hjm
        have hts : vs.take (k + 1) = vs.take k ++ [u] := by rw [List.take_add_one, qk]; rfl
        refine ⟨[6], eg_name 6 ?_ sc_possible_rows.nd⟩
        refine ss_one (se_if (et_notN (ee_callP (df_support_of F) hr (ea_cons (ee_var 0 rfl (ea_cons (ee_var 3 rfl (ea_cons (ee_var 5 rfl (ea_one (ee_var 6 rfl ⟨rfl, s, opn, j, u, rfl, small8 hA.sch, hA.akey j hjm, hund, hul, small8 (Nat.le_trans tn.bodyN (by decide)), hbu, fun hag => ?_, fun hna => ?_⟩)))))))))))
        · refine ss_one (se_append 4 rfl (ee_callP (df_head_row F) hr (ea_cons (ee_var 5 rfl (ea_one (ee_var 6 rfl ⟨rfl, j, u, rfl, hund, hul, small8 (by rw [hA.head j hjm]; exact hA.wid), hbh, ?_, rfl, rs' ++ [j.1.map (valT u)], some (.v (.d (valD u))), ?_, ?_, fun r hr => ?_, fun r => ?_⟩))))))
          · rw [List.length_map]
            exact small_line (show rs'.length < 5000 by omega)
          · rw [List.map_append]
            rfl
          · rw [List.length_append]
            show rs'.length + 1 ≤ _
            omega
          · rcases List.mem_append.mp hr with h | h
            · exact hw' r h
            · rw [List.mem_singleton] at h
              rw [h]
              exact hhl
          · rw [List.mem_append, hm' r, List.mem_singleton, hts, or_assoc]
            refine or_congr_right ⟨fun h => ?_, fun ⟨u', hu', h1, h2⟩ => ?_⟩
            · rcases h with ⟨u', hu', z⟩ | h
              · exact ⟨u', List.mem_append_left _ hu', z⟩
              · exact ⟨u, List.mem_append_right _ (List.mem_singleton.mpr rfl), hag, h⟩
            · rcases List.mem_append.mp hu' with z | z
              · exact .inl ⟨u', z, h1, h2⟩
              · rw [List.mem_singleton] at z
                subst z
                exact .inr h2
        · refine ss_nil ⟨rfl, rs', _, rfl, by omega, hw', fun r => ?_⟩
          rw [hm' r, hts]
          refine or_congr_right ⟨fun ⟨u', hu', z⟩ => ⟨u', List.mem_append_left _ hu', z⟩, fun ⟨u', hu', h1, h2⟩ => ?_⟩
          rcases List.mem_append.mp hu' with z | z
          · exact ⟨u', z, h1, h2⟩
          · rw [List.mem_singleton] at z
            subst z
            exact absurd h1 hna
    · subst e1 e2
      rw [List.map_map, List.length_map] at hl' hm'
      rw [List.take_length] at hm'
      refine ⟨rfl, rs', _, _, rfl, by omega, hw', fun r => ?_⟩
      rw [hm' r, hrs r, List.take_add_one, hji]
      constructor
      · rintro (⟨j', hj', z⟩ | ⟨u, hu', hag, er⟩)
        · exact ⟨j', List.mem_append_left _ hj', z⟩
        · obtain ⟨v, hv, hpuv⟩ := hvs u hu'
          have fv := found_sound _ rfl tn.ar v hv
          refine ⟨j, List.mem_append_right _ (List.mem_singleton.mpr rfl), v, hv, ?_, ?_⟩
          · unfold factsUsed at hag ⊢
            rw [List.map_congr_left fun a _ => instA_perm hpuv fv.nd a] at hag
            exact hag
          · rw [er]
            exact List.map_congr_left fun t _ => valT_perm hpuv fv.nd t
      · rintro ⟨j', hj', v, hv, hag, er⟩
        rcases List.mem_append.mp hj' with h | h
        · exact .inl ⟨j', h, v, hv, hag, er⟩
        · have ej : j' = j := by simpa using h
          subst ej
          obtain ⟨u, hu', hpuv⟩ := hvs2 v hv
          have fv := found_sound _ rfl tn.ar v hv
          refine .inr ⟨u, hu', ?_, ?_⟩
          · unfold factsUsed at hag ⊢
            rw [List.map_congr_left fun a _ => instA_perm hpuv fv.nd a]
            exact hag
          · rw [er]
            exact (List.map_congr_left fun t _ => valT_perm hpuv fv.nd t).symm
  · rintro ρ' δ' ⟨rfl, rs, o5, o6, rfl, hrl, hrw, hrs⟩
    rw [List.take_length] at hrs
    have hsm : small rs.length := by
      have := hA.qs
      show rs.length < 5000
      omega
    refine ss_frz 4 rfl (ss_one (se_ret (ee_tuple F.z_tuple (ee_callP (df_sorted_rows F) hr (ea_one (ee_var 4 rfl ⟨rfl, rs, rfl, hsm, fun r hr => small8 (by rw [hrw r hr]; exact hA.wid), ?_, fun out hmem hlen => hz out (fun r => ?_) (Nat.lt_of_le_of_lt hlen hsm)⟩))))))
    · by_cases h0 : wd = 0
      · exact .inr fun r hr => List.eq_nil_of_length_eq_zero (by rw [hrw r hr, h0])
      · exact .inl fun r hr e => h0 (by rw [← hrw r hr, e]; rfl)
    · rw [hmem r, hrs r, poss_iff hgr hA r, hop]
def G_sure_rows : GD := fun as δ Z => ∃ (s : Sch) (st : List Fact) (q : Qn) (wd : Nat), as = [.v (.d (scD s)), .v (.d (stD st)), .v (.d (qnD q))] ∧ Asked s st q wd ∧ ∀ out : List Row, (∀ r, r ∈ out ↔ SureR s st q r) → small out.length → Z (.d (rowsD out)) δ
theorem df_sure_rows (F : Facts K mg) : Df P w K mg base 19 "sure_rows" 3 G_sure_rows :=
  df_body F.d_sure_rows sc_sure_rows rfl (fun _ _ _ _ _ _ us hl => match us, hl with | [_, _, _], _ => rfl) fun f cdv A outer sh H E c as δ Z hr hl hG => by
  obtain ⟨s, st, q, wd, rfl, hA, hz⟩ := hG
  classical
  refine ss_cons (se_set 3 (ee_callP (df_possible_rows F) hr (ea_cons (ee_var 0 rfl (ea_cons (ee_var 1 rfl (ea_one (ee_var 2 rfl ⟨rfl, s, st, q, wd, rfl, hA, fun out hmem hsm => ?_⟩))))))) sc_sure_rows.nd)
  refine ss_one (se_ret (ee_tuple F.z_tuple (ee_new (en_lc (own := [("row", 4)]) (eic_of (ei_tupM rowD out (ee_var 3 rfl ⟨rfl, ?_⟩))) sc_sure_rows.nd (blkOk_by (N := N_sure_rows) (sc := defScope s_sure_rows) (by decide +kernel))))))
  refine lcz_filter (f := rowD) (t := fun r => decide (SureS s st (putRow q r))) (small_line hsm) (fun r hrm => ⟨_, fun s H C cl fp => eg_name 4 rfl sc_sure_rows.nd, fun s' H C cl fp => ?_, fun _ s H C cl fp => ee_var 4 rfl ⟨rfl, rfl⟩⟩) ⟨rfl, hz _ (fun r => ?_) (Nat.lt_of_le_of_lt (List.length_filter_le _ _) hsm)⟩
  · have hrl : r.length = wd := by
      obtain ⟨j, hj, th, _, _, e⟩ := (hmem r).mp hrm
      rw [e, List.length_map]
      exact hA.head j hj
    refine et_val (ee_callP (df_is_sure F) hr (ea_cons (ee_var 0 rfl (ea_cons (ee_var 1 rfl (ea_cons (ee_var 2 rfl (ea_one (ee_var 4 rfl ⟨rfl, s, st, q, r, wd, rfl, hA, hrl, fun h => ?_, fun h => ?_⟩)))))))))
    · exact ⟨(decide_eq_true h).symm, rfl⟩
    · exact ⟨(decide_eq_false h).symm, rfl⟩
  · rw [List.mem_filter, hmem r, decide_eq_true_eq]
    rfl
end
end Em
/-! part em17 -/
set_option Elab.async false
set_option linter.all false
set_option maxRecDepth 100000
set_option maxHeartbeats 4000000
set_option autoImplicit false
namespace Em
open PySem PySem.Spec PyProof.Rows L2 Dl
section
variable {X : Cx} {c : Cc} {scope : Scope} {tg elt : Expr} {ρ : En} {vs : List Nat} {δ1 : List Int}
/-- [e for ..], draws in e: all that is known of the items is Pa -/
theorem lcz_draw {α : Type} {enc : α → PyData} {Pa : α → Prop} {ys : List IW} {Z : Wd → List Int → Prop} (hl : ys.length < sizeLine)
    (turn : ∀ y ∈ ys, ∀ δi, ∃ R, (Blk X scope fun X' => EG X' c tg y (wipeE ρ vs) δi vs fun ρ2 => ρ2 = R) ∧ Blk X scope fun X' => EE X' c elt R δi fun v _ => ∃ a, Pa a ∧ v = .v (.d (enc a)))
    (hz : ∀ l : List α, l.length = ys.length → (∀ a ∈ l, Pa a) → ∀ δ', Z (.d (.list (l.map enc))) δ') : LcZ X c scope tg elt [] ρ vs Z ys δ1 := by
  refine ⟨hl, fun i acc _ => ∃ l : List α, acc = l.map enc ∧ l.length = i ∧ ∀ a ∈ l, Pa a, ⟨[], rfl, rfl, fun a ha => (by cases ha)⟩, fun i y acc δi hy ⟨l, e1, e2, e3⟩ => ?_, fun acc δ' ⟨l, e1, e2, e3⟩ => ?_⟩
  · obtain ⟨R, h1, h2⟩ := turn y (List.mem_of_getElem? hy) δi
    refine ⟨R, fun b δ2 => b = true ∧ δ2 = δi, h1, fun s H C cl fp => ets_nil ⟨rfl, rfl⟩, fun δ2 hh => ?_, fun δ2 hh => Bool.noConfusion hh.1⟩
    obtain ⟨_, e⟩ := hh
    subst e
    intro s H C cl fp
    refine ee_imp (h2 s H C cl fp) fun v δ3 ⟨a, pa, ev⟩ => ?_
    subst ev e1
    refine ⟨l ++ [a], by rw [List.map_append]; rfl, by rw [List.length_append, e2]; rfl, fun b hb => ?_⟩
    rcases List.mem_append.mp hb with h | h
    · exact e3 b h
    · rw [List.mem_singleton] at h
      rw [h]
      exact pa
  · rw [e1]
    exact hz l e2 e3 δ'
end
instance : PySem.W.Datum Tm where
  toD := Tm.d
  plain a := (ok_tm a).1
  eqv a b := eqv_tm a b
  depth := 40
  depth_le a := (ok_tm a).2
section
variable {X : Cx} {o e : Expr} {apos cpos : Pos} {to te : TE} {kk : Nat}
/-- t.index(x), t a tuple of terms -/
def tTi (K : PySem.W.Frag) (to te : TE) : TE := fun σ H Q => to σ H fun x H1 => ∃ a ob xs, x = .ref a ∧ H1 a = some (.frz ob (.tup xs)) ∧ ob.dict = none ∧ te σ H1 fun y H2 => ∃ (ts : List Tm) (t : Tm), H2 a = some (.frz ob (.tup xs)) ∧ DpAll K H2 xs (ts.map Tm.d) ∧ Dp K H2 y t.d ∧ t ∈ ts ∧ Q (.int (ts.idxOf t : Nat)) H2
theorem pe_tmIdx (hr : Room kk X.A) (ho : PE X o to) (he : PE X e te) (hbase : attributeBase o "index" X.env (eval o X.env) = eval o X.env := by rfl)
    (hfew : ((backTo cpos (starEach [e] X.env)).all (fun x => !x.1) && (backToKw cpos (keywordEach [] X.env)).all (fun x => x.1.isSome) && decide ([e].length + ([] : List Keyword).length + (if ([] : List Keyword).isEmpty then 0 else 1) < 30)) = true := by rfl)
    (hline : (apos.endLine == cpos.line) = true := by rfl) (hs : backTo cpos (starEach [e] X.env) = [(false, eval e X.env)] := by rfl) : PE X (.Call (.Attribute o "index" apos) [e] [] cpos) (tTi X.K to te) := by
  refine ⟨fun pins s σ H Q I (h : to σ H _) => ?_⟩
  refine wpAny_Call_method_late hbase hfew hline hs (thn (ho.run pins s σ H _ I h) fun v s1 ⟨x, H1, I1, r1, a, ob, xs, ex, ha, hdn, q1⟩ => ?_)
  subst ex
  cases r1
  obtain ⟨hg, _, its, _, ob', hob, hcl, _⟩ := I1.hok a _ ha
  have eob : ob' = ob := by rw [hg] at hob; exact (Option.some.inj hob).symm
  subst eob
  refine ⟨"tuple", _, PySem.F.plainAttrs_tuple, PySem.F.slot_tuple_index, PySem.F.type_tuple_index, ⟨_, hg, hcl⟩, fun b eb => by cases eb; exact ⟨_, hg, hdn⟩, ?_⟩
  refine Calls.callWith_builtin rfl (Calls.evalArgs_plain (Calls.spliced_cons (thn (he.run pins s1 σ H1 _ I1 q1) fun iv s2 ⟨y, H2, I2, ry, ts, t, ha2, hd, hy, hm, q⟩ => Calls.spliced_nil ?_)))
  obtain ⟨_, _, its2, rv2, ht2⟩ := I2.hok a _ ha2
  obtain ⟨as1, hr1⟩ := Dp.readsAll I2 _ _ _ hd rv2
  obtain ⟨as2, hr2⟩ := Dp.reads I2 _ _ _ hy ry
  have hu := hr.un
  exact PySem.W.index_tuple_datum (α := Tm) ht2 ⟨as1, hr1⟩ ⟨as2, hr2⟩ (by show X.A.units + 1 + 40 < cLine; omega) hm ⟨.int _, H2, I2.tok _, ⟨_, rfl⟩, q⟩
variable {c : Cc} {ρ : En} {δ : List Int} {Z : ZE}
theorem ee_tmIdx (hr : Room kk X.A) (h : EE X c o ρ δ fun a1 δ1 => ∃ ts : List Tm, a1 = .v (.d (tmsD ts)) ∧ EE X c e ρ δ1 fun a2 δ2 => ∃ t ∈ ts, a2 = .v (.d t.d) ∧ ∀ i : Nat, i < ts.length → Z (.v (.d (.int i))) δ2)
    (hbase : attributeBase o "index" X.env (eval o X.env) = eval o X.env := by rfl)
    (hfew : ((backTo cpos (starEach [e] X.env)).all (fun x => !x.1) && (backToKw cpos (keywordEach [] X.env)).all (fun x => x.1.isSome) && decide ([e].length + ([] : List Keyword).length + (if ([] : List Keyword).isEmpty then 0 else 1) < 30)) = true := by rfl)
    (hline : (apos.endLine == cpos.line) = true := by rfl) (hs : backTo cpos (starEach [e] X.env) = [(false, eval e X.env)] := by rfl) : EE X c (.Call (.Attribute o "index" apos) [e] [] cpos) ρ δ Z :=
  PE.le (pe_tmIdx hr h (pe_any (e := e)) hbase hfew hline hs) fun σ H Q ⟨ps, g, k⟩ => ⟨ps, g, fun v a1 δ1 H1 ⟨ts, ea, hb⟩ x1 r1 => by
    subst ea
    obtain ⟨a, ob, xs, ev, h1, h2, h3⟩ := rep_tup r1
    obtain ⟨n1, q1⟩ := cut_some h1
    have g1 := g.ext x1
    refine ⟨a, ob, xs, ev, q1, h2, _, hb, ps, g1, fun u a2 δ2 H2 ⟨t, ht, ea2, hz⟩ x2 r2 => ?_⟩
    subst ea2
    have h3' := dpAll_mono (g1.same x2) h3
    exact ⟨ts, t, x2.1 a _ (g1.pdIn n1) q1, RpAll.dp (dpAll_mono cut_le h3'), Rp.dp (dp_mono cut_le (show Rp X.K _ u t.d from r2)), ht, k (.int (ts.idxOf t : Nat)) (.v (.d (.int (ts.idxOf t : Nat)))) δ2 H2 (hz _ (List.idxOf_lt_length_of_mem ht)) (x1.trans x2) (show Rp _ _ _ _ from .int _)⟩⟩
end
end Em
/-! part em18 -/
set_option Elab.async false
set_option linter.all false
set_option maxRecDepth 100000
set_option maxHeartbeats 4000000
set_option autoImplicit false
namespace Em
open PySem PySem.Spec PyProof.Rows L2 Dl
section
variable {P : Program} {w : World} {K : PySem.W.Frag} {mg : Str → Option Value} {base : Heap}
def G_take : GD := fun as _ Z => ∃ m : Nat, as = [.dr, .v (.d (.int (m : Nat)))] ∧ 0 < m ∧ ∀ (k : Nat) δ', k < m → Z (.d (.int (k : Nat))) δ'
theorem df_take (F : Facts K mg) : Df P w K mg base 1 "_law_take" 2 G_take :=
  df_body F.d__law_take sc__law_take rfl (fun _ _ _ _ _ _ us hl => match us, hl with | [_, _], _ => rfl) fun f cdv A outer sh H E c as δ Z hr hl hG => by
  obtain ⟨m, rfl, hm, hz⟩ := hG
  refine ss_cons (se_if (et_eq hr (ee_len F.z_len (ee_var 0 rfl ⟨δ.length, rfl, ee_int ⟨okD_int _, okD_int _, ?_⟩⟩))))
  rw [int_eqv]
  by_cases h0 : δ.length = 0
  · rw [decide_eq_true (by omega)]
    exact ss_one (se_ret (ee_int (hz 0 _ hm)))
  · rw [decide_eq_false (by omega)]
    have hlt : δ.length - 1 < δ.length := by omega
    refine ss_nil (ss_one (se_ret (ee_mod (ee_toInt F.z_int (ee_pop 0 rfl ⟨δ[δ.length - 1], List.getElem?_eq_getElem hlt, δ[δ.length - 1], rfl, ee_var 1 rfl ⟨by omega, ?_⟩⟩)))))
    have h1 := Int.emod_nonneg δ[δ.length - 1] (show (m : Int) ≠ 0 by omega)
    have h2 := Int.emod_lt_of_pos δ[δ.length - 1] (show (0 : Int) < m by omega)
    have e : δ[δ.length - 1] % (m : Int) = ((δ[δ.length - 1] % (m : Int)).toNat : Nat) := (Int.toNat_of_nonneg h1).symm
    rw [e]
    exact hz _ _ (by omega)
/-- take(draws, n) -/
theorem ee_take {X : Cx} {c : Cc} {ρ : En} {δ : List Int} {Z : ZE} {pos p : Pos} {a b : Expr} {kk : Nat} (F : Facts X.K X.mg) (hr : Room kk X.A) (h : EE X c a ρ δ fun a1 δ1 => a1 = .dr ∧ EE X c b ρ δ1 fun a2 δ2 => ∃ m : Nat, a2 = .v (.d (.int (m : Nat))) ∧ 0 < m ∧ ∀ (k : Nat) δ', k < m → Z (.v (.d (.int (k : Nat)))) δ')
    (hk : 1 ≤ kk := by decide) (hg : Gl X "_law_take" := by rfl) (he : starEach [a, b] X.env = (false, eval a X.env) :: starEach [b] X.env := by rfl) (he2 : starEach [b] X.env = (false, eval b X.env) :: starEach [] X.env := by rfl) (hpl : (backTo pos (starEach [b] X.env)).any (·.1) = false := by rfl) :
    EE X c (.Call (.Name "_law_take" p) [a, b] [] pos) ρ δ Z :=
  ee_callD (df_take F) hr (ea_cons (ee_imp h fun a1 δ1 ⟨e1, h2⟩ => ea_one (ee_imp h2 fun a2 δ2 ⟨m, e2, hm, hz⟩ => ⟨by rw [e1, e2]; rfl, by rw [e1]; rfl, m, by rw [e1, e2], hm, hz⟩) he2) he) hk rfl hg (by decide) he hpl
def G_pick : GD := fun as δ Z => ∃ ds : List PyData, (as = [.dr, .v (.d (.list ds))] ∨ as = [.dr, .v (.d (.tuple ds))]) ∧ ds ≠ [] ∧ ∀ d ∈ ds, ∀ δ', Z (.d d) δ'
theorem atI_nat {α : Type} {l : List α} {k : Nat} (h : k < l.length) : atI l (k : Int) = some l[k] := by
  unfold atI
  have : ixN l.length (k : Int) = some k := by unfold ixN; simp [h]
  rw [this]
  exact List.getElem?_eq_getElem h
theorem df_pick (F : Facts K mg) : Df P w K mg base 2 "_law_pick" 2 G_pick :=
  df_body F.d__law_pick sc__law_pick rfl (fun _ _ _ _ _ _ us hl => match us, hl with | [_, _], _ => rfl) fun f cdv A outer sh H E c as δ Z hr hl hG => by
  obtain ⟨ds, e, hne, hz⟩ := hG
  have hpos : 0 < ds.length := List.length_pos_iff.mpr hne
  rcases e with rfl | rfl
  · refine ss_one (se_ret (ee_ixL (ee_var 1 rfl (ee_take F hr (ee_var 0 rfl ⟨rfl, ee_len F.z_len (ee_var 1 rfl ⟨ds.length, rfl, ds.length, rfl, hpos, fun k δ' hk => ⟨ds[k], atI_nat hk, hz _ (List.getElem_mem hk) δ'⟩⟩)⟩)))))
  · refine ss_one (se_ret (ee_ixT (ee_var 1 rfl (ee_take F hr (ee_var 0 rfl ⟨rfl, ee_len F.z_len (ee_var 1 rfl ⟨ds.length, rfl, ds.length, rfl, hpos, fun k δ' hk => ⟨ds[k], atI_nat hk, hz _ (List.getElem_mem hk) δ'⟩⟩)⟩)))))
def vlsD (vs : List Vl) : PyData := .list (vs.map Vl.d)
def G_law_value : GD := fun as _ Z => ∃ vs : List Vl, as = [.dr, .v (.d (vlsD vs))] ∧ vs.length = 3 ∧ ∀ (v : Vl) δ', Z (.d v.d) δ'
theorem ix5 {k : Nat} (h : k < 5) : ∃ j : Nat, j < 3 ∧ atI [PyData.int 0, .int 1, .int 0, .int 2, .int 1] (k : Int) = some (.int (j : Nat)) := by
  match k, h with
  | 0, _ => exact ⟨0, by decide, rfl⟩
  | 1, _ => exact ⟨1, by decide, rfl⟩
  | 2, _ => exact ⟨0, by decide, rfl⟩
  | 3, _ => exact ⟨2, by decide, rfl⟩
  | 4, _ => exact ⟨1, by decide, rfl⟩
theorem df_law_value (F : Facts K mg) : Df P w K mg base 2 "_law_value" 2 G_law_value :=
  df_body F.d__law_value sc__law_value rfl (fun _ _ _ _ _ _ us hl => match us, hl with | [_, _], _ => rfl) fun f cdv A outer sh H E c as δ Z hr hl hG => by
  obtain ⟨vs, rfl, h3, hz⟩ := hG
  refine ss_one (se_ret (ee_ixL (ee_var 1 rfl (ee_ixL (ee_new (en_l (ea_cons (ee_int (ea_cons (ee_int (ea_cons (ee_int (ea_cons (ee_int (ea_one (ee_int ⟨rfl, ee_take F hr (ee_var 0 rfl ⟨rfl, ee_int ⟨5, rfl, by decide, fun k δ' hk => ?_⟩⟩)⟩))))))))))))))))
  obtain ⟨j, hj, e⟩ := ix5 hk
  have hjl : j < vs.length := by omega
  exact ⟨_, e, vs[j].d, at_map (List.getElem?_eq_getElem hjl), hz _ δ'⟩
def lkey (v : Vl) : PyData := .tuple [.int (match v with | .i _ => 0 | .s _ => 1), v.d]
def G_law_key : GD := fun as δ Z => ∃ v : Vl, as = [.v (.d v.d)] ∧ Z (.d (lkey v)) δ
theorem df_law_key (F : Facts K mg) : Df P w K mg base 1 "_law_key" 1 G_law_key :=
  df_body F.d__law_key sc__law_key rfl (fun _ _ _ _ _ _ us hl => match us, hl with | [_], _ => rfl) fun f cdv A outer sh H E c as δ Z hr hl hG => by
  obtain ⟨v, rfl, hz⟩ := hG
  cases v with
  | i n => exact ss_one (se_ret (ee_tup (ea_cons (ee_toInt F.z_int (ee_isStr F.z_isinstance F.z_str (ee_var 0 rfl ⟨false, rfl, 0, rfl, ea_one (ee_var 0 rfl hz)⟩))))))
  | s x => exact ss_one (se_ret (ee_tup (ea_cons (ee_toInt F.z_int (ee_isStr F.z_isinstance F.z_str (ee_var 0 rfl ⟨true, rfl, 1, rfl, ea_one (ee_var 0 rfl hz)⟩))))))
def lkeys (r : Row) : PyData := .list (r.map lkey)
def G_law_row_key : GD := fun as δ Z => ∃ r : Row, as = [.v (.d (rowD r))] ∧ small r.length ∧ Z (.d (lkeys r)) δ
theorem df_law_row_key (F : Facts K mg) : Df P w K mg base 2 "_law_row_key" 1 G_law_row_key :=
  df_body F.d__law_row_key sc__law_row_key rfl (fun _ _ _ _ _ _ us hl => match us, hl with | [_], _ => rfl) fun f cdv A outer sh H E c as δ Z hr hl hG => by
  obtain ⟨r, rfl, hs, hz⟩ := hG
  refine ss_one (se_ret (ee_new (en_lc (own := [("_law_value_here", 1)]) (eic_of (ei_tupM Vl.d r (ee_var 0 rfl ⟨rfl, ?_⟩))) sc__law_row_key.nd (blkOk_by (N := N__law_row_key) (sc := defScope s_law_row_key) (by decide +kernel)))))
  refine lcz_map (f := lkey) (small_line hs) (fun a ha => ⟨_, fun s H C cl fp => eg_name 1 rfl sc__law_row_key.nd, fun s H C cl fp => ?_⟩) ⟨rfl, hz⟩
  exact ee_callP (df_law_key F) hr (ea_one (ee_var 1 rfl ⟨rfl, a, rfl, rfl, rfl⟩))
def fkey (f : Fact) : PyData := .tuple [.str f.1, lkeys f.2]
def G_law_fact_key : GD := fun as δ Z => ∃ f : Fact, as = [.v (.d (faD f))] ∧ small f.2.length ∧ Z (.d (fkey f)) δ
theorem df_law_fact_key (F : Facts K mg) : Df P w K mg base 3 "_law_fact_key" 1 G_law_fact_key :=
  df_body F.d__law_fact_key sc__law_fact_key rfl (fun _ _ _ _ _ _ us hl => match us, hl with | [_], _ => rfl) fun f cdv A outer sh H E c as δ Z hr hl hG => by
  obtain ⟨fa, rfl, hs, hz⟩ := hG
  refine ss_one (se_ret (ee_tup (ea_cons (ee_ixT (ee_var 0 rfl (ee_int ⟨.str fa.1, rfl, ?_⟩))))))
  exact ea_one (ee_callP (df_law_row_key F) hr (ea_one (ee_ixT (ee_var 0 rfl (ee_int ⟨rowD fa.2, rfl, rfl, fa.2, rfl, hs, hz⟩)))))
theorem df_law_table (F : Facts K mg) : Df P w K mg base 1 "_law_table" 2 G_table_of :=
  df_body F.d__law_table sc__law_table rfl (fun _ _ _ _ _ _ us hl => match us, hl with | [_, _], _ => rfl) fun f cdv A outer sh H E c as δ Z hr hl hG => by
  obtain ⟨s, n, t, rfl, hs, hf, hz⟩ := hG
  refine ss_cons (se_forM s (fun t => .one (.d (tbD t))) (fun i ρ' δ' => δ' = δ ∧ (∃ o, ρ' = [some (.v (.d (scD s))), some (.v (.d (.str n))), o]) ∧ ∀ j t', j < i → s[j]? = some t' → t'.1 ≠ n) (ei_tupM tbD s (ee_var 0 rfl ⟨rfl, rfl, rfl, ⟨_, rfl⟩, fun j _ h => absurd h (Nat.not_lt_zero j)⟩)) ?_ ?_)
  · rintro i a ρi δi ha ⟨rfl, ⟨o, rfl⟩, hno⟩
    refine ⟨[2], eg_name 2 ?_ sc__law_table.nd⟩
    refine ss_one (se_if (et_eq hr (ee_ixT (ee_var 2 rfl (ee_int ⟨_, rfl, ee_var 1 rfl ⟨okD_str _, okD_str _, ?_⟩⟩)))))
    rw [str_eqv]
    by_cases q : a.1 = n
    · rw [decide_eq_true q]
      refine ss_one (se_ret (ee_var 2 rfl ?_))
      have : a = t := by
        have hfa : tabOf s n = some a := by
          unfold tabOf
          rw [List.find?_eq_some_iff_getElem]
          have hi := (List.getElem?_eq_some_iff.mp ha).1
          refine ⟨decide_eq_true q, i, hi, (List.getElem?_eq_some_iff.mp ha).2, fun j hj => ?_⟩
          have := hno j s[j] hj (List.getElem?_eq_getElem (Nat.lt_trans hj hi))
          simpa using this
        rw [hfa] at hf
        exact Option.some.inj hf
      subst this
      exact hz
    · rw [decide_eq_false q]
      refine ss_nil ⟨rfl, ⟨_, rfl⟩, fun j t' hj ht => ?_⟩
      rcases Nat.lt_succ_iff_lt_or_eq.mp hj with h | h
      · exact hno j t' h ht
      · subst h
        rw [ha] at ht
        cases ht
        exact q
  · rintro ρ' δ' ⟨rfl, ⟨o, rfl⟩, hno⟩
    have hm := List.mem_of_find?_eq_some hf
    have hq := List.find?_some (p := fun t : Tab => decide (t.1 = n)) hf
    obtain ⟨j, hj, e⟩ := List.mem_iff_getElem.mp hm
    exact absurd (of_decide_eq_true hq) (hno j t hj (by rw [List.getElem?_eq_getElem hj, e]))
theorem df_law_key_of (F : Facts K mg) : Df P w K mg base 2 "_law_key_of" 2 G_key_of :=
  df_body F.d__law_key_of sc__law_key_of rfl (fun _ _ _ _ _ _ us hl => match us, hl with | [_, _], _ => rfl) fun f cdv A outer sh H E c as δ Z hr hl hG => by
  obtain ⟨s, f, k, rfl, hs, hk, hz⟩ := hG
  obtain ⟨t, ht, rfl⟩ := Option.map_eq_some_iff.mp hk
  refine ss_one (se_ret (ee_slT_to (ee_ixT (ee_var 1 rfl (ee_int ⟨rowD f.2, rfl, ?_⟩)))))
  refine ee_ixT (ee_callP (df_law_table F) hr (ea_cons (ee_var 0 rfl (ea_one (ee_ixT (ee_var 1 rfl (ee_int ⟨_, rfl, rfl, s, f.1, t, rfl, hs, ht, ?_⟩)))))))
  refine ee_int ⟨.int t.2.1, rfl, t.2.1, rfl, ?_⟩
  rw [← List.map_take]
  exact hz
def G_lies_in : GD := fun as δ Z => ∃ rs os : List Row, as = [.v (.d (rowsD rs)), .v (.d (rowsD os))] ∧ small rs.length ∧ (∀ r ∈ rs, r ∈ os) ∧ Z (.d (.bool true)) δ
theorem df_lies_in (F : Facts K mg) : Df P w K mg base 1 "_law_lies_in" 2 G_lies_in :=
  df_body F.d__law_lies_in sc__law_lies_in rfl (fun _ _ _ _ _ _ us hl => match us, hl with | [_, _], _ => rfl) fun f cdv A outer sh H E c as δ Z hr hl hG => by
  obtain ⟨rs, os, rfl, hs, hin, hz⟩ := hG
  refine ss_one (se_ret (ee_eq hr (ee_len F.z_len (ee_new (en_lc (own := [("_law_row", 2)]) (eic_of (ei_tupM rowD rs (ee_var 0 rfl ⟨rfl, ?_⟩))) sc__law_lies_in.nd (blkOk_by (N := N__law_lies_in) (sc := defScope s_law_lies_in) (by decide +kernel)))))))
  refine lcz_filter (f := rowD) (t := fun r => !decide (r ∈ os)) (small_line hs) (fun r hr' => ⟨_, fun s H C cl fp => eg_name 2 rfl sc__law_lies_in.nd, fun s H C cl fp => ?_, fun _ s H C cl fp => ee_var 2 rfl ⟨rfl, rfl⟩⟩) ⟨rfl, 0, ?_, ?_⟩
  · refine et_notIn hr (ee_var 2 rfl ⟨ok_row _, ee_var 1 rfl ⟨plain_rows os, ?_, rfl⟩⟩)
    rw [any_of eqv_row]
    exact congrArg _ (decide_eq_decide.mpr Iff.rfl)
  · have : rs.filter (fun r => !decide (r ∈ os)) = [] := by
      rw [List.filter_eq_nil_iff]
      intro r hr2
      simp [hin r hr2]
    rw [this]
    rfl
  · refine ee_int ⟨okD_int _, okD_int _, ?_⟩
    rw [int_eqv]
    exact hz
end
end Em
/-! part em19 -/
set_option Elab.async false
set_option linter.all false
set_option maxRecDepth 100000
set_option maxHeartbeats 4000000
set_option autoImplicit false
namespace Em
open PySem PySem.Spec PyProof.Rows L2 Dl
theorem ten18 : ∀ i : Int, True := fun _ => trivial
section
variable {P : Program} {w : World} {K : PySem.W.Frag} {mg : Str → Option Value} {base : Heap}
def intsD (ns : List Int) : PyData := .list (ns.map PyData.int)
def G_law_draws : GD := fun as δ Z => ∃ (ns : List Int), as = [.v (.d (intsD ns)), .v (.d (.int 320))] ∧ ns.length ≤ 63 ∧ ∀ ms : List Int, Z (.fl (ms.map PyData.int)) δ
theorem df_law_draws (F : Facts K mg) : Df P w K mg base 1 "_law_draws" 2 G_law_draws :=
  df_body F.d__law_draws sc__law_draws rfl (fun _ _ _ _ _ _ us hl => match us, hl with | [_, _], _ => rfl) fun f cdv A outer sh H E c as δ Z hr hl hG => by
  obtain ⟨ns, rfl, h63, hz⟩ := hG
  refine ss_cons (se_setLcN 2 (own := [("_law_cell", 3)]) (eic_of (ei_listM PyData.int ns (ee_var 0 rfl ⟨rfl, ?_⟩))) sc__law_draws.nd (blkOk_by (N := N__law_draws) (sc := defScope s_law_draws) (by decide +kernel)) (sw_true rfl rfl rfl rfl))
  refine lcz_map (f := PyData.int) (Nat.lt_of_le_of_lt h63 (by rw [sizeLine_eq]; omega)) (fun n hn => ⟨_, fun s H C cl fp => eg_name 3 rfl sc__law_draws.nd, fun s H C cl fp => ee_toInt F.z_int (ee_var 3 rfl ⟨n, rfl, rfl, rfl⟩)⟩) ?_
  have rest : ∀ cs : List Int, cs ≠ [] → cs.length ≤ 64 → SS (BX P w K mg base N__law_draws "_law_draws" s_law_draws f cdv A outer sh H E) c ((defBody s_law_draws).drop 2) [some (.v (.d (intsD ns))), some (.v (.d (.int 320))), some (.ow (.d (intsD cs))), none, none, none, none, none, none] δ (post Z) := fun cs hcs hcl => by
    have hpos : 0 < cs.length := List.length_pos_iff.mpr hcs
    refine ss_cons (se_setN 4 (en_list F.z_list (ee_var 2 rfl ?_)) sc__law_draws.nd)
    refine ss_cons (se_setN 5 (en_l (ea_nil ?_)) sc__law_draws.nd)
    refine ss_cons (se_forM (List.range 320) (fun i => .one (.d (.int (i : Nat)))) (fun i ρ' δ' => δ' = δ ∧ ∃ (rs ms : List Int) (o6 o7 o8 : Option Dl.Arg), ρ' = [some (.v (.d (intsD ns))), some (.v (.d (.int 320))), some (.ow (.d (intsD cs))), none, some (.ow (.d (intsD rs))), some (.ow (.d (intsD ms))), o6, o7, o8] ∧ rs.length = cs.length ∧ ms.length = i)
      (ei_range F.z_range (ee_var 1 rfl ⟨by decide, by decide, rfl, rfl, cs, [], _, _, _, rfl, rfl, rfl⟩)) ?_ ?_)
    · rintro i k ρi δi hik ⟨rfl, rs, ms, o6, o7, o8, rfl, hrl, hml⟩
      have hi : i < 320 := by
        have := (List.getElem?_eq_some_iff.mp hik).1
        rwa [List.length_range] at this
      have ek : k = i := by
        rw [List.getElem?_range hi] at hik
        exact (Option.some.inj hik).symm
      subst ek
      have hms : (ms.map PyData.int).length < sizeLine := by
        rw [List.length_map, hml, sizeLine_eq]
        omega
      refine ⟨[6], eg_name 6 ?_ sc__law_draws.nd⟩
      have hm1 := Int.emod_nonneg (k : Int) (show (cs.length : Int) ≠ 0 by omega)
      have hm2 := Int.emod_lt_of_pos (k : Int) (show (0 : Int) < cs.length by omega)
      refine ss_cons (se_set 7 (ee_mod (ee_var 6 rfl (ee_len F.z_len (ee_var 2 rfl ⟨cs.length, congrArg some (List.length_map ..), by omega, ?_⟩)))) sc__law_draws.nd)
      obtain ⟨j, hj, ej⟩ : ∃ j : Nat, j < cs.length ∧ (k : Int) % (cs.length : Int) = (j : Int) := ⟨((k : Int) % (cs.length : Int)).toNat, by omega, (Int.toNat_of_nonneg hm1).symm⟩
      rw [ej]
      have hc1 : cs[j]? = some cs[j] := List.getElem?_eq_getElem hj
      have hr1 : rs[j]? = some (rs[j]'(by omega)) := List.getElem?_eq_getElem (by omega)
      generalize cs[j] = x at hc1
      generalize rs[j]'(by omega) = y at hr1
      refine ss_one (se_if (et_ge (ee_ixL (ee_var 2 rfl (ee_var 7 rfl ⟨.int x, at_map hc1, ee_pow (ee_int (ee_int ⟨⟨by decide, by decide, by decide⟩, ?_⟩))⟩)))))
      show (if decide ((10 : Int) ^ (18 : Int).toNat ≤ x) = true then _ else _)
      by_cases hbig : decide ((10 : Int) ^ (18 : Int).toNat ≤ x) = true
      · rw [if_pos hbig]
        refine ss_cons (se_append 5 rfl (ee_mod (ee_toInt F.z_int (ee_ixL (ee_var 4 rfl (ee_var 7 rfl ⟨.int y, at_map hr1, y, rfl, ee_int ⟨by decide, hms, ?_⟩⟩))))))
        refine ss_one (se_setItem 4 rfl (ee_fdiv (ee_ixL (ee_var 4 rfl (ee_var 7 rfl ⟨.int y, at_map hr1, ee_int ⟨⟨by decide, by decide⟩, ee_var 7 rfl ⟨j, ?_, ?_⟩⟩⟩)))) (ha := by intro v; rfl))
        · unfold ixN
          rw [List.length_map]
          simp [hrl, hj]
        · exact ⟨rfl, rs.set j (y / 1000), ms ++ [y % 1000], some (.v (.d (.int (k : Nat)))), some (.v (.d (.int (j : Nat)))), o8, by unfold intsD; rw [List.map_set, List.map_append]; rfl, by rw [List.length_set, hrl], by rw [List.length_append, hml]; rfl⟩
      · rw [if_neg hbig]
        refine ss_cons (se_set 8 (ee_mod (ee_toInt F.z_int (ee_add (ee_add (ee_mul (ee_ixL (ee_var 2 rfl (ee_var 7 rfl ⟨.int x, at_map hc1, ee_int ⟨.inr (by decide), ee_mul (ee_var 6 rfl (ee_int ⟨.inr (by decide), ee_int ⟨_, rfl, ee_int ⟨by decide, ?_⟩⟩⟩))⟩⟩)))))))) sc__law_draws.nd)
        have hb1 := Int.emod_nonneg (x * 48271 + (k : Int) * 69621 + 11) (show (2147483647 : Int) ≠ 0 by decide)
        have hb2 := Int.emod_lt_of_pos (x * 48271 + (k : Int) * 69621 + 11) (show (0 : Int) < 2147483647 by decide)
        generalize (x * 48271 + (k : Int) * 69621 + 11) % 2147483647 = z at hb1 hb2
        refine ss_one (se_append 5 rfl (ee_mod (ee_toInt F.z_int (ee_add (ee_add (ee_mul (ee_var 8 rfl (ee_var 8 rfl ⟨.inl ⟨by omega, by omega⟩, ee_mul (ee_int (ee_var 8 rfl ⟨.inl ⟨by decide, by decide⟩, ee_var 6 rfl ⟨_, rfl, ee_int ⟨by decide, hms, ?_⟩⟩⟩))⟩))))))))
        exact ⟨rfl, rs, ms ++ [(z * z + 3 * z + (k : Int)) % 1000003], some (.v (.d (.int (k : Nat)))), some (.v (.d (.int (j : Nat)))), some (.v (.d (.int z))), by unfold intsD; rw [List.map_append]; rfl, hrl, by rw [List.length_append, hml]; rfl⟩
    · rintro ρ' δ' ⟨rfl, rs, ms, o6, o7, o8, rfl, hrl, hml⟩
      refine ss_cons (se_reverse 5 rfl (ss_fl 5 rfl (ss_one (se_ret (ee_var 5 rfl ?_)))))
      have := hz ms.reverse
      rw [List.map_reverse] at this
      exact this
  refine ss_cons (se_if (et_eq hr (ee_len F.z_len (ee_var 2 rfl ⟨ns.length, congrArg some (List.length_map ..), ee_int ⟨okD_int _, okD_int _, ?_⟩⟩))))
  rw [int_eqv]
  cases ns with
  | nil => exact ss_one (se_append 2 rfl (ee_int ⟨by rw [sizeLine_eq]; show 0 < _; omega, rest [0] (by simp) (by simp)⟩))
  | cons n ns =>
    rw [decide_eq_false (by rw [List.length_cons]; omega)]
    exact ss_nil (rest (n :: ns) (by simp) (by omega))
end
end Em
/-! part em20 -/
set_option Elab.async false
set_option linter.all false
set_option maxRecDepth 100000
set_option maxHeartbeats 4000000
set_option autoImplicit false
namespace Em
open PySem PySem.Spec PyProof.Rows L2 Dl
def strsD (ws : List Str) : PyData := .list (ws.map PyData.str)
theorem plain_strs : ∀ ws : List Str, PyData.plainAll (ws.map PyData.str) = true
  | [] => rfl
  | w :: ws => by rw [List.map_cons, PyData.plainAll, plain_strs ws]; rfl
theorem join_eq (ws : List Str) : Txt.join (Str.ofString "") ws = Str.join (Str.ofString "") ws := StrLaws.glued_eq_join _ ws
theorem join_le (ws : List Str) : (Txt.join (Str.ofString "") ws).length ≤ (ws.map (·.length)).sum := by
  rw [join_eq]
  have := StrLaws.join_length_le (Str.ofString "") ws
  have z : (Str.ofString "").length = 0 := by decide
  rw [z] at this
  omega
theorem join_ge {ws : List Str} {x : Str} (h : x ∈ ws) : x.length ≤ (Txt.join (Str.ofString "") ws).length := by
  rw [join_eq]
  exact join_mem_le _ ws x h
theorem sum_ones : ∀ {l : List Str}, (∀ x ∈ l, x.length = 1) → (l.map (·.length)).sum = l.length
  | [], _ => rfl
  | x :: l, h => by
    rw [List.map_cons, List.sum_cons, h x List.mem_cons_self, sum_ones fun y hy => h y (List.mem_cons_of_mem _ hy), List.length_cons]
    omega
section
variable {P : Program} {w : World} {K : PySem.W.Frag} {mg : Str → Option Value} {base : Heap}
theorem upTo_len2 (n : Nat) : (Dl.upTo n).length = n := upTo_length n
theorem upTo_mem {n : Nat} {y : IW} (h : y ∈ Dl.upTo n) : ∃ i : Nat, i < n ∧ y = .one (.d (.int (i : Nat))) := by
  obtain ⟨i, hi⟩ := List.getElem?_of_mem h
  obtain ⟨h1, h2⟩ := upTo_get hi
  exact ⟨i, h1, h2⟩
def G_pool : GD := fun as _ Z => as = [.dr, .v (.d (.int 8))] ∧ ∀ (ws : List Str) δ', ws.length = 8 → ws.Nodup → Z (.d (strsD ws)) δ'
theorem letters26 : (Str.ofString "abcdefghijklmnopqrstuvwxyz").cps.toList.length = 26 := by decide +kernel
theorem df_pool (F : Facts K mg) : Df P w K mg base 2 "_law_pool" 2 G_pool :=
  df_body F.d__law_pool sc__law_pool rfl (fun _ _ _ _ _ _ us hl => match us, hl with | [_, _], _ => rfl) fun f cdv A outer sh H E c as δ Z hr hl hG => by
  obtain ⟨rfl, hz⟩ := hG
  refine ss_cons (se_setN 2 (en_l (ea_nil ?_)) sc__law_pool.nd)
  refine ss_cons (se_forM (List.range 8) (fun i => .one (.d (.int (i : Nat)))) (fun i ρ' _ => ∃ (ws : List Str) (o3 o4 o6 : Option Dl.Arg), ρ' = [some .dr, some (.v (.d (.int 8))), some (.ow (.d (strsD ws))), o3, o4, none, o6] ∧ ws.length = i ∧ ws.Nodup ∧ (ws.map (·.length)).sum + 3 ≤ 3 * 2 ^ i)
    (ei_range F.z_range (ee_var 1 rfl ⟨by decide, by decide, rfl, [], _, _, _, rfl, rfl, List.nodup_nil, by decide⟩)) ?_ ?_)
  · rintro i k ρi δi hik ⟨ws, o3, o4, o6, rfl, hwl, hnd, hsum⟩
    have hi : i < 8 := by
      have := (List.getElem?_eq_some_iff.mp hik).1
      rwa [List.length_range] at this
    have hp : 2 ^ i ≤ 2 ^ 8 := Nat.pow_le_pow_right (by decide) (by omega)
    have hsmall : (ws.map (·.length)).sum ≤ 768 := by omega
    refine ⟨[3], eg_name 3 ?_ sc__law_pool.nd⟩
    refine ss_cons (se_setLc 4 (own := [("_law_j", 5)]) (eic_of (ei_range F.z_range (ee_add (ee_int (ee_take F hr (ee_var 0 rfl ⟨rfl, ee_int ⟨3, rfl, by decide, fun n δ' hn => ⟨by omega, by omega, ?_⟩⟩⟩)))))) sc__law_pool.nd (blkOk_by (N := N__law_pool) (sc := defScope s_law_pool) (by decide +kernel)) (sw_true rfl rfl rfl rfl))
    refine lcz_draw (enc := PyData.str) (Pa := fun x : Str => x.length = 1) ?_ (fun y hy δj => ?_) fun ls hll hl1 δ2 => ⟨rfl, ?_⟩
    · rw [upTo_length, sizeLine_eq]
      have : (1 + (n : Int)).toNat ≤ 4 := by omega
      omega
    · obtain ⟨j, hj, rfl⟩ := upTo_mem hy
      refine ⟨_, fun s H C cl fp => eg_name 5 rfl sc__law_pool.nd, fun s H C cl fp => ?_⟩
      refine ee_ixS (ee_str (ee_take F hr (ee_var 0 rfl ⟨rfl, ee_int ⟨26, rfl, by decide, fun n δ' hn => ⟨?_, _, atI_nat (by rw [letters26]; exact hn), ⟨#[_]⟩, rfl, rfl⟩⟩⟩)))
      rw [sizeLine_eq]
      have : (Str.ofString "abcdefghijklmnopqrstuvwxyz").length = 26 := by decide +kernel
      omega
    · rw [upTo_length] at hll
      have hls : (ls.map (·.length)).sum ≤ 3 := by
        rw [sum_ones hl1, hll]
        omega
      have z0 : (Str.ofString "").length = 0 := by decide
      have hjl := join_le ls
      refine ss_cons (se_set 6 (ee_join (ee_str (ee_var 4 rfl ⟨ls, .inl rfl, by rw [z0]; omega, ?_⟩))) sc__law_pool.nd)
      generalize hx : Txt.join (Str.ofString "") ls = x at hjl
      have pn : 2 ^ (i + 1) = 2 * 2 ^ i := by rw [Nat.pow_succ]; omega
      have fin : ∀ x : Str, x ∉ ws → x.length ≤ (ws.map (·.length)).sum + 3 → (ws ++ [x]).length = i + 1 ∧ (ws ++ [x]).Nodup ∧ ((ws ++ [x]).map (·.length)).sum + 3 ≤ 3 * 2 ^ (i + 1) := fun x hx hl => by
        refine ⟨by rw [List.length_append, hwl]; rfl, List.nodup_append.mpr ⟨hnd, by simp, fun a ha b hb e => hx (by rw [List.mem_singleton] at hb; rw [← hb, ← e]; exact ha)⟩, ?_⟩
        rw [List.map_append, List.sum_append, pn]
        simp only [List.map_cons, List.map_nil, List.sum_cons, List.sum_nil]
        omega
      have hsl : (ws.map PyData.str).length < sizeLine := by
        rw [List.length_map, hwl, sizeLine_eq]
        omega
      refine ss_cons (se_if (et_in hr (ee_var 6 rfl ⟨okD_str _, ee_var 2 rfl ⟨plain_strs ws, ?_⟩⟩)))
      rw [any_of str_eqv]
      by_cases hin : x ∈ ws
      · rw [if_pos (decide_eq_true hin)]
        have hjw := join_le ws
        refine ss_one (se_set 6 (ee_addS (ee_join (ee_str (ee_var 2 rfl ⟨ws, .inr rfl, by rw [z0]; omega, ee_str ⟨?_, ?_⟩⟩)))) sc__law_pool.nd)
        · rw [sizeLine_eq]
          have : (Str.ofString "z").length = 1 := by decide
          omega
        · have hz1 : (Str.ofString "z").length = 1 := by decide
          have hlen : (Txt.join (Str.ofString "") ws ++ Str.ofString "z").length = (Txt.join (Str.ofString "") ws).length + 1 := by rw [Str.length_append, hz1]
          obtain ⟨f1, f2, f3⟩ := fin (Txt.join (Str.ofString "") ws ++ Str.ofString "z") (fun hm => by
            have := join_ge hm
            omega) (by omega)
          exact ss_one (se_append 2 rfl (ee_var 6 rfl ⟨hsl, ws ++ [Txt.join (Str.ofString "") ws ++ Str.ofString "z"], some (.v (.d (.int (k : Nat)))), some (.v (.d (strsD ls))), some (.v (.d (.str (Txt.join (Str.ofString "") ws ++ Str.ofString "z")))), by unfold strsD; rw [List.map_append]; rfl, f1, f2, f3⟩))
      · rw [if_neg (by rw [decide_eq_false hin]; exact Bool.false_ne_true)]
        obtain ⟨f1, f2, f3⟩ := fin x hin (by omega)
        exact ss_nil (ss_one (se_append 2 rfl (ee_var 6 rfl ⟨hsl, ws ++ [x], some (.v (.d (.int (k : Nat)))), some (.v (.d (strsD ls))), some (.v (.d (.str x))), by unfold strsD; rw [List.map_append]; rfl, f1, f2, f3⟩)))
  · rintro ρ' δ' ⟨ws, o3, o4, o6, rfl, hwl, hnd, hsum⟩
    rw [List.length_range] at hwl
    exact ss_frz 2 rfl (ss_one (se_ret (ee_var 2 rfl (hz ws δ' hwl hnd))))
def G_law_values : GD := fun as _ Z => ∃ ws : List Str, as = [.dr, .v (.d (strsD ws))] ∧ 2 ≤ ws.length ∧ ∀ (vs : List Vl) δ', vs.length = 3 → Z (.d (vlsD vs)) δ'
theorem df_law_values (F : Facts K mg) : Df P w K mg base 2 "_law_values" 2 G_law_values :=
  df_body F.d__law_values sc__law_values rfl (fun _ _ _ _ _ _ us hl => match us, hl with | [_, _], _ => rfl) fun f cdv A outer sh H E c as δ Z hr hl hG => by
  obtain ⟨ws, rfl, h2, hz⟩ := hG
  match ws, h2 with
  | w0 :: w1 :: rest, _ =>
  refine ss_cons (se_set 2 (ee_sub (ee_take F hr (ee_var 0 rfl ⟨rfl, ee_int ⟨7, rfl, by decide, fun n δ1 hn => ee_int ?_⟩⟩))) sc__law_values.nd)
  refine ss_cons (se_setN 3 (en_l (ea_cons (ee_var 2 rfl (ea_cons (ee_add (ee_add (ee_var 2 rfl (ee_int (ee_take F hr (ee_var 0 rfl ⟨rfl, ee_int ⟨5, rfl, by decide, fun m δ2 hm => ea_one (ee_ixL (ee_var 1 rfl (ee_int ⟨.str w0, at_map (i := 0) (l := w0 :: w1 :: rest) rfl, ?_⟩)))⟩⟩)))))))))) sc__law_values.nd)
  refine ss_cons (se_if (et_eq hr (ee_take F hr (ee_var 0 rfl ⟨rfl, ee_int ⟨3, rfl, by decide, fun k δ3 hk => ee_int ⟨okD_int _, okD_int _, ?_⟩⟩⟩))))
  rw [int_eqv]
  by_cases h0 : ((k : Nat) : Int) = 0
  · rw [if_pos (decide_eq_true h0)]
    refine ss_one (se_setItem 3 rfl (ee_ixL (ee_var 1 rfl (ee_int ⟨.str w1, at_map (i := 1) (l := w0 :: w1 :: rest) rfl, ee_int ⟨1, rfl, ?_⟩⟩))) (ha := by intro v; rfl))
    exact ss_frz 3 rfl (ss_one (se_ret (ee_var 3 rfl (hz [.i ((n : Int) - 3), .s w1, .s w0] δ3 rfl))))
  · rw [if_neg (by rw [decide_eq_false h0]; exact Bool.false_ne_true)]
    exact ss_nil (ss_frz 3 rfl (ss_one (se_ret (ee_var 3 rfl (hz [.i ((n : Int) - 3), .i ((n : Int) - 3 + 1 + (m : Int)), .s w0] δ3 rfl)))))
end
end Em
/-! part em21 -/
set_option Elab.async false
set_option linter.all false
set_option maxRecDepth 100000
set_option maxHeartbeats 4000000
set_option autoImplicit false
namespace Em
open PySem PySem.Spec PyProof.Rows L2 Dl
theorem se_forE {X : Cx} {c : Cc} {ρ : En} {δ : List Int} {pos : Pos} {tg iter : Expr} {body : List Stmt} {Z : Ot → Prop} (α : Type)
    (h : EI X c tg iter ρ δ fun ys δ1 => ∃ (xs : List α) (enc : α → IW), ys = xs.map enc ∧ ∃ I : Nat → En → List Int → Prop, I 0 ρ δ1 ∧
      (∀ (i : Nat) (a : α) (ρi : En) (δi : List Int), xs[i]? = some a → I i ρi δi → ∃ is, EG X c tg (enc a) ρi δi is fun ρ2 => SS X c body ρ2 δi (loopO (I (i + 1)) Z)) ∧
      ∀ ρ' δ', I xs.length ρ' δ' → Z (.nx ρ' δ'))
    (hp : PassesOwn (model X.prog X.w) X.A X.env X.xe := by exact PassesOwn.never) (hc : X.calm = true := by rfl) (hs : ∀ x, foldedSetIterable iter X.env x = pure x := by intro _; rfl) : SE X c (.For tg iter body [] pos) ρ δ Z :=
  se_for (PI.le h fun σ H R ⟨ps, g, k⟩ => ⟨ps, g, fun J ys δ' H' ⟨xs, enc, e, I, i0, step, fin⟩ => k J ys δ' H' (by
    subst e
    refine ⟨I, i0, fun i y ρi δi hy hI => ?_, fun ρ' δ' h => fin ρ' δ' (by rw [List.length_map] at h; exact h)⟩
    rw [List.getElem?_map] at hy
    cases q : xs[i]? with
    | none => rw [q] at hy; cases hy
    | some a =>
      rw [q] at hy
      cases Option.some.inj hy
      obtain ⟨is, hg⟩ := step i a ρi δi q hI
      exact ⟨is, eg_imp hg fun ρ2 h2 => ss_imp h2 fun o ho => by cases o <;> exact ho⟩)⟩) hp hc hs
theorem ixs (l : List Nat) {k : Nat} (h : k < l.length) : ∃ j, j ∈ l ∧ atI (l.map fun n => PyData.int (n : Nat)) (k : Int) = some (.int (j : Nat)) :=
  ⟨l[k], List.getElem_mem h, at_map (enc := fun n : Nat => PyData.int (n : Nat)) (List.getElem?_eq_getElem h)⟩
structure SchOk (s : Sch) : Prop where
  nd : (s.map (·.1)).Nodup
  sz : ∀ t ∈ s, t.2.1 ≤ 3 ∧ t.2.2 ≤ 3
def wdD (s : Sch) (ws : List Str) (vs : List Vl) : PyData := .list [scD s, strsD ws, vlsD vs]
structure WOk (s : Sch) (ws : List Str) (vs : List Vl) : Prop where
  sch : SchOk s
  pos : 1 ≤ s.length
  len : s.length ≤ 4
  wds : 3 ≤ ws.length
  val : vs.length = 3
section
variable {P : Program} {w : World} {K : PySem.W.Frag} {mg : Str → Option Value} {base : Heap}
def G_schema : GD := fun as _ Z => ∃ ns : List Str, as = [.dr, .v (.d (strsD ns))] ∧ ns.Nodup ∧ ns.length < 64 ∧ ∀ (s : Sch) δ', SchOk s → s.length = ns.length → Z (.d (scD s)) δ'
theorem df_schema (F : Facts K mg) : Df P w K mg base 2 "_law_schema" 2 G_schema :=
  df_body F.d__law_schema sc__law_schema rfl (fun _ _ _ _ _ _ us hl => match us, hl with | [_, _], _ => rfl) fun f cdv A outer sh H E c as δ Z hr hl hG => by
  obtain ⟨ns, rfl, hnd, h64, hz⟩ := hG
  refine ss_cons (se_setN 2 (en_l (ea_nil ?_)) sc__law_schema.nd)
  refine ss_cons (se_forE Str (ei_list (ee_new (en_sortedS F.z_sorted (ee_var 1 rfl ⟨ns, rfl, h64, fun ys hp => ⟨rfl, ?_⟩⟩)))))
  have hyl : ys.length = ns.length := hp.length_eq
  refine ⟨ys, fun x => .one (.d (.str x)), by rw [List.map_map]; rfl, fun i ρ' _ => ∃ (s : Sch) (o3 o4 o5 : Option Dl.Arg), ρ' = [some .dr, some (.v (.d (strsD ns))), some (.ow (.d (.list (s.map tbD)))), o3, o4, o5] ∧ s.map (·.1) = ys.take i ∧ ∀ t ∈ s, t.2.1 ≤ 3 ∧ t.2.2 ≤ 3, ⟨[], _, _, _, rfl, rfl, fun t ht => by cases ht⟩, ?_, ?_⟩
  · rintro i x ρi δi hx ⟨s, o3, o4, o5, rfl, hs, hsz⟩
    refine ⟨[3], eg_name 3 ?_ sc__law_schema.nd⟩
    refine ss_cons (se_set 4 (ee_ixL (ee_new (en_l (ea_cons (ee_int (ea_cons (ee_int (ea_cons (ee_int (ea_cons (ee_int (ea_cons (ee_int (ea_cons (ee_int (ea_cons (ee_int (ea_one (ee_int ⟨rfl, ee_take F hr (ee_var 0 rfl ⟨rfl, ee_int ⟨8, rfl, by decide, fun k δ1 hk => ?_⟩⟩)⟩))))))))))))))))))) sc__law_schema.nd)
    obtain ⟨a, ha, ea⟩ := ixs [1, 1, 1, 2, 0, 1, 1, 3] hk
    refine ⟨.int (a : Nat), ea, ?_⟩
    refine ss_cons (se_set 5 (ee_ixL (ee_new (en_l (ea_cons (ee_int (ea_cons (ee_int (ea_cons (ee_int (ea_cons (ee_int (ea_cons (ee_int (ea_cons (ee_int (ea_cons (ee_int (ea_one (ee_int ⟨rfl, ee_take F hr (ee_var 0 rfl ⟨rfl, ee_int ⟨8, rfl, by decide, fun j δ2 hj => ?_⟩⟩)⟩))))))))))))))))))) sc__law_schema.nd)
    obtain ⟨b, hb, eb⟩ := ixs [1, 1, 1, 2, 0, 1, 1, 3] hj
    refine ⟨.int (b : Nat), eb, ?_⟩
    have hall : ∀ n ∈ [1, 1, 1, 2, 0, 1, 1, 3], n ≤ 3 := by decide
    have hi := (List.getElem?_eq_some_iff.mp hx).1
    have hsl : s.length ≤ ys.length := by
      have := congrArg List.length hs
      rw [List.length_map, List.length_take] at this
      omega
    refine ss_one (se_append 2 rfl (ee_tup (ea_cons (ee_var 3 rfl (ea_cons (ee_var 4 rfl (ea_one (ee_var 5 rfl ⟨?_, ?_⟩))))))))
    · rw [List.length_map, sizeLine_eq]
      omega
    · refine ⟨s ++ [(x, a, b)], some (.v (.d (.str x))), some (.v (.d (.int (a : Nat)))), some (.v (.d (.int (b : Nat)))), by rw [List.map_append]; rfl, ?_, ?_⟩
      · rw [List.map_append, hs, List.take_succ, hx]
        rfl
      · intro t ht
        rcases List.mem_append.mp ht with h | h
        · exact hsz t h
        · rw [List.mem_singleton] at h
          rw [h]
          exact ⟨hall a ha, hall b hb⟩
  · rintro ρ' δ' ⟨s, o3, o4, o5, rfl, hs, hsz⟩
    rw [List.take_length] at hs
    exact ss_one (se_ret (ee_tuple F.z_tuple (ee_var 2 rfl (hz s δ' ⟨by rw [hs]; exact hp.nodup_iff.mpr hnd, hsz⟩ (by rw [← hyl, ← hs, List.length_map])))))
def G_world : GD := fun as _ Z => as = [.dr] ∧ ∀ (s : Sch) (ws : List Str) (vs : List Vl) δ', WOk s ws vs → Z (.d (wdD s ws vs)) δ'
theorem df_world (F : Facts K mg) : Df P w K mg base 3 "_law_world" 1 G_world :=
  df_body F.d__law_world sc__law_world rfl (fun _ _ _ _ _ _ us hl => match us, hl with | [_], _ => rfl) fun f cdv A outer sh H E c as δ Z hr hl hG => by
  obtain ⟨rfl, hz⟩ := hG
  refine ss_cons (se_set 1 (ee_callD (df_pool F) hr (ea_cons (ee_var 0 rfl (ea_one (ee_int ⟨rfl, rfl, rfl, fun ws δ1 h8 hnd => ?_⟩))))) sc__law_world.nd)
  refine ss_cons (se_set 2 (ee_ixL (ee_new (en_l (ea_cons (ee_int (ea_cons (ee_int (ea_cons (ee_int (ea_one (ee_int ⟨rfl, ee_take F hr (ee_var 0 rfl ⟨rfl, ee_int ⟨4, rfl, by decide, fun k δ2 hk => ?_⟩⟩)⟩))))))))))) sc__law_world.nd)
  obtain ⟨m, hm, em⟩ := ixs [3, 2, 3, 4] hk
  refine ⟨.int (m : Nat), em, ?_⟩
  have hm2 : 1 ≤ m ∧ m ≤ 4 := (by decide : ∀ n ∈ [3, 2, 3, 4], 1 ≤ n ∧ n ≤ 4) m hm
  refine ss_one (se_ret (ee_new (en_l (ea_cons (ee_callD (df_schema F) hr (ea_cons (ee_var 0 rfl (ea_one (ee_new (en_slL_to (ee_var 1 rfl (ee_var 2 rfl ⟨m, rfl, rfl, rfl, rfl, ws.take m, ?_, ?_, ?_, fun s δ3 hs hsl => ?_⟩))))))))))))
  · unfold strsD
    rw [List.map_take]
  · exact (List.take_sublist m ws).nodup hnd
  · rw [List.length_take]
    omega
  · rw [List.length_take] at hsl
    refine ea_cons (ee_new (en_sortedS F.z_sorted (ee_new (en_slL_from (ee_var 1 rfl (ee_int ⟨4, rfl, rfl, ws.drop 4, ?_, ?_, fun ys hp => ⟨rfl, ?_⟩⟩))))))
    · rw [List.map_drop]
    · rw [List.length_drop]
      omega
    · have hyl := hp.length_eq
      rw [List.length_drop] at hyl
      refine ea_one (ee_callD (df_law_values F) hr (ea_cons (ee_var 0 rfl (ea_one (ee_var 1 rfl ⟨rfl, rfl, ws, rfl, by omega, fun vs δ4 hv => ⟨rfl, ?_⟩⟩)))))
      exact hz s ys vs δ4 ⟨hs, by omega, by omega, by omega, hv⟩
def G_term : GD := fun as _ Z => ∃ (s : Sch) (ws : List Str) (vs : List Vl), as = [.dr, .v (.d (wdD s ws vs))] ∧ WOk s ws vs ∧ ∀ (t : Tm) δ', Z (.d t.d) δ'
theorem df_term (F : Facts K mg) : Df P w K mg base 3 "_law_term" 2 G_term :=
  df_body F.d__law_term sc__law_term rfl (fun _ _ _ _ _ _ us hl => match us, hl with | [_, _], _ => rfl) fun f cdv A outer sh H E c as δ Z hr hl hG => by
  obtain ⟨s, ws, vs, rfl, hw, hz⟩ := hG
  refine ss_cons (se_if (et_eq hr (ee_take F hr (ee_var 0 rfl ⟨rfl, ee_int ⟨7, rfl, by decide, fun k δ1 hk => ee_int ⟨okD_int _, okD_int _, ?_⟩⟩⟩))))
  rw [int_eqv]
  by_cases h0 : ((k : Nat) : Int) = 0
  · rw [if_pos (decide_eq_true h0)]
    refine ss_one (se_ret (ee_tup (ea_cons (ee_str (ea_one (ee_callD (df_law_value F) hr (ea_cons (ee_var 0 rfl (ea_one (ee_ixL (ee_var 1 rfl (ee_int ⟨vlsD vs, rfl, rfl, rfl, vs, rfl, hw.val, fun v δ' => hz (.v v) δ'⟩))))))))))))
  · rw [if_neg (by rw [decide_eq_false h0]; exact Bool.false_ne_true)]
    refine ss_nil (ss_one (se_ret (ee_tup (ea_cons (ee_str (ea_one (ee_callD (df_pick F) hr (ea_cons (ee_var 0 rfl (ea_one (ee_new (en_slL_to (ee_ixL (ee_var 1 rfl (ee_int ⟨strsD ws, rfl, ee_int ⟨3, rfl, rfl, rfl, rfl, _, .inl rfl, ?_, fun d hd δ' => ?_⟩⟩)))))))))))))))
    · intro e
      have := congrArg List.length e
      have h3 := hw.wds
      rw [List.length_take, List.length_map] at this
      have t2 : min 3 ws.length = 0 := this
      omega
    · obtain ⟨x, hx, rfl⟩ := List.mem_map.mp (List.mem_of_mem_take hd)
      exact hz (.x x) δ'
def G_atom : GD := fun as _ Z => ∃ (s : Sch) (ws : List Str) (vs : List Vl) (t : Tab), as = [.dr, .v (.d (wdD s ws vs)), .v (.d (tbD t))] ∧ WOk s ws vs ∧ t.2.1 ≤ 3 ∧ t.2.2 ≤ 3 ∧ ∀ (a : Atom) δ', a.1 = t.1 → a.2.length = t.2.1 + t.2.2 → Z (.d (atD a)) δ'
theorem df_atom (F : Facts K mg) : Df P w K mg base 4 "_law_atom" 3 G_atom :=
  df_body F.d__law_atom sc__law_atom rfl (fun _ _ _ _ _ _ us hl => match us, hl with | [_, _, _], _ => rfl) fun f cdv A outer sh H E c as δ Z hr hl hG => by
  obtain ⟨s, ws, vs, t, rfl, hw, h1, h2, hz⟩ := hG
  refine ss_one (se_ret (ee_tup (ea_cons (ee_ixT (ee_var 2 rfl (ee_int ⟨.str t.1, rfl, ?_⟩))))))
  refine ea_one (ee_tuple F.z_tuple (ee_new (en_lc (own := [("_law_k", 3)]) (eic_of (ei_range F.z_range (ee_add (ee_ixT (ee_var 2 rfl (ee_int ⟨.int t.2.1, rfl, ee_ixT (ee_var 2 rfl (ee_int ⟨.int t.2.2, rfl, by omega, by omega, ?_⟩))⟩)))))) sc__law_atom.nd (blkOk_by (N := N__law_atom) (sc := defScope s_law_atom) (by decide +kernel)))))
  have hN : ((t.2.1 : Int) + (t.2.2 : Int)).toNat = t.2.1 + t.2.2 := by omega
  rw [hN]
  refine lcz_draw (enc := Tm.d) (Pa := fun _ : Tm => True) ?_ (fun y hy δj => ?_) fun ts htl _ δ2 => ⟨rfl, ?_⟩
  · rw [upTo_length, sizeLine_eq]
    omega
  · obtain ⟨j, hj, rfl⟩ := upTo_mem hy
    refine ⟨_, fun s H C cl fp => eg_name 3 rfl sc__law_atom.nd, fun s H C cl fp => ?_⟩
    exact ee_callD (df_term F) hr (ea_cons (ee_var 0 rfl (ea_one (ee_var 1 rfl ⟨rfl, rfl, _, _, _, rfl, hw, fun t' δ' => ⟨t', trivial, rfl⟩⟩))))
  · rw [upTo_length] at htl
    exact hz (t.1, ts) δ2 rfl htl
end
end Em
/-! part em22 -/
set_option Elab.async false
set_option linter.all false
set_option maxRecDepth 100000
set_option maxHeartbeats 4000000
set_option autoImplicit false
namespace Em
open PySem PySem.Spec PyProof.Rows L2 Dl
structure JOk (s : Sch) (wd : Nat) (j : Join) : Prop where
  head : j.1.length = wd
  body : j.2.length ≤ 3
  tab : ∀ a ∈ j.2, ∃ t ∈ s, a.1 = t.1 ∧ a.2.length = t.2.1 + t.2.2
  bnd : ∀ n, Tm.x n ∈ j.1 → ∃ a ∈ j.2, Tm.x n ∈ a.2
def isVar : Tm → Bool
  | .v _ => false
  | .x _ => true
structure QLk (s : Sch) (wd n : Nat) (q : Qn) : Prop where
  wid : q.1 = (wd : Int)
  num : q.2.length ≤ n
  jn : ∀ j ∈ q.2, JOk s wd j
theorem erase_map {α β : Type} {f : α → β} : ∀ (l : List α) (k : Nat), (l.map f).eraseIdx k = (l.eraseIdx k).map f
  | [], _ => rfl
  | a :: l, 0 => rfl
  | a :: l, k + 1 => by
    show f a :: (l.map f).eraseIdx k = f a :: (l.eraseIdx k).map f
    rw [erase_map l k]
section
variable {P : Program} {w : World} {K : PySem.W.Frag} {mg : Str → Option Value} {base : Heap}
def G_join : GD := fun as _ Z => ∃ (s : Sch) (ws : List Str) (vs : List Vl) (wd : Nat) (b : Bool), as = [.dr, .v (.d (wdD s ws vs)), .v (.d (.int (wd : Nat))), .v (.d (.bool b))] ∧ WOk s ws vs ∧ wd ≤ 4 ∧ ∀ (j : Join) δ', JOk s wd j → Z (.d (jnD j)) δ'
theorem df_join (F : Facts K mg) : Df P w K mg base 5 "_law_join" 4 G_join :=
  df_body F.d__law_join sc__law_join rfl (fun _ _ _ _ _ _ us hl => match us, hl with | [_, _, _, _], _ => rfl) fun f cdv A outer sh H E c as δ Z hr hl hG => by
  obtain ⟨s, ws, vs, wd, b, rfl, hw, hwd, hz⟩ := hG
  have tail : ∀ (bd : List Atom) (o4 o6 o7 : Option Dl.Arg) (δ0 : List Int), bd.length ≤ 3 → (∀ a ∈ bd, ∃ t ∈ s, a.1 = t.1 ∧ a.2.length = t.2.1 + t.2.2) → SS (BX P w K mg base N__law_join "_law_join" s_law_join f cdv A outer sh H E) c ((defBody s_law_join).drop 4) [some .dr, some (.v (.d (wdD s ws vs))), some (.v (.d (.int (wd : Nat)))), some (.v (.d (.bool b))), o4, some (.ow (.d (.list (bd.map atD)))), o6, o7, none, none, none] δ0 (post Z) := fun bd o4 o6 o7 δ0 hb3 htab => by
    refine ss_frz 5 rfl ?_
    refine ss_cons (se_setN 8 (en_l (ea_one (ee_tup (ea_cons (ee_str (ea_one (ee_callD (df_law_value F) hr (ea_cons (ee_var 0 rfl (ea_one (ee_ixL (ee_var 1 rfl (ee_int ⟨vlsD vs, rfl, rfl, rfl, vs, rfl, hw.val, fun v δ' => ?_⟩))))))))))))) sc__law_join.nd)
    refine ss_cons (se_forM bd (fun a => .one (.d (atD a))) (fun i ρ' _ => ∃ (ts : List Tm) (o9 : Option Dl.Arg), ρ' = [some .dr, some (.v (.d (wdD s ws vs))), some (.v (.d (.int (wd : Nat)))), some (.v (.d (.bool b))), o4, some (.v (.d (.list (bd.map atD)))), o6, o7, some (.ow (.d (.list (ts.map Tm.d)))), o9, none] ∧ ts ≠ [] ∧ ts.length ≤ 1 + 6 * i ∧ ∀ n, Tm.x n ∈ ts → ∃ a ∈ bd, Tm.x n ∈ a.2)
      (ei_listM atD bd (ee_var 5 rfl ⟨rfl, rfl, [.v v], _, rfl, by simp, by simp, fun n h => by simp at h⟩)) ?_ ?_)
    · rintro i a ρi δi ha ⟨ts, o9, rfl, hne, htl, hbn⟩
      refine ⟨[9], eg_name 9 ?_ sc__law_join.nd⟩
      have hi := (List.getElem?_eq_some_iff.mp ha).1
      have hmem : a ∈ bd := List.mem_of_getElem? ha
      obtain ⟨t, ht, e1, e2⟩ := htab a hmem
      have hsz := hw.sch.sz t ht
      refine ss_one (se_setN 8 (en_cat (el_new (en_lc (own := [("_law_term_here", 10)]) (eic_of (ei_tupM Tm.d a.2 (ee_ixT (ee_var 9 rfl (ee_int ⟨tmsD a.2, rfl, rfl, ?_⟩))))) sc__law_join.nd (blkOk_by (N := N__law_join) (sc := defScope s_law_join) (by decide +kernel))))) sc__law_join.nd)
      refine lcz_filter (f := Tm.d) (t := isVar) (by rw [sizeLine_eq]; omega) (fun tm htm => ⟨_, fun s H C cl fp => eg_name 10 rfl sc__law_join.nd, fun s H C cl fp => ?_, fun _ s H C cl fp => ee_var 10 rfl ⟨rfl, rfl⟩⟩) ⟨_, rfl, el_own (ee_var 8 rfl ⟨?_, ?_⟩)⟩
      · cases tm with
        | v x => exact et_eq hr (ee_ixT (ee_var 10 rfl (ee_int ⟨.str "value", rfl, ee_str ⟨okD_str _, okD_str _, by rw [str_eqv]; rfl, rfl⟩⟩)))
        | x x => exact et_eq hr (ee_ixT (ee_var 10 rfl (ee_int ⟨.str "var", rfl, ee_str ⟨okD_str _, okD_str _, by rw [str_eqv]; rfl, rfl⟩⟩)))
      · rw [List.length_map, List.length_map, sizeLine_eq]
        have := List.length_filter_le isVar a.2
        omega
      · refine ⟨a.2.filter isVar ++ ts, some (.v (.d (atD a))), by rw [List.map_append]; rfl, ?_, ?_, ?_⟩
        · intro e
          exact hne (List.append_eq_nil_iff.mp e).2
        · have := List.length_filter_le isVar a.2
          rw [List.length_append]
          omega
        · intro n hn
          rcases List.mem_append.mp hn with h | h
          · exact ⟨a, hmem, (List.mem_filter.mp h).1⟩
          · exact hbn n h
    · rintro ρ' δ' ⟨ts, o9, rfl, hne, htl, hbn⟩
      refine ss_frz 8 rfl (ss_one (se_ret (ee_tup (ea_cons (ee_tuple F.z_tuple (ee_new (en_lc (own := [("_law_k", 6)]) (eic_of (ei_range F.z_range (ee_var 2 rfl ⟨by omega, by omega, ?_⟩))) sc__law_join.nd (blkOk_by (N := N__law_join) (sc := defScope s_law_join) (by decide +kernel)))))))))
      refine lcz_draw (enc := Tm.d) (Pa := fun t : Tm => t ∈ ts) ?_ (fun y hy δj => ?_) fun hs hhl hmem δ2 => ⟨rfl, ?_⟩
      · rw [upTo_length, sizeLine_eq]
        have : ((wd : Nat) : Int).toNat = wd := rfl
        omega
      · obtain ⟨j, hj, rfl⟩ := upTo_mem hy
        refine ⟨_, fun s H C cl fp => eg_name 6 rfl sc__law_join.nd, fun s H C cl fp => ?_⟩
        refine ee_callD (df_pick F) hr (ea_cons (ee_var 0 rfl (ea_one (ee_var 8 rfl ⟨rfl, rfl, _, .inl rfl, ?_, fun d hd δ' => ?_⟩))))
        · intro e
          exact hne (List.map_eq_nil_iff.mp e)
        · obtain ⟨t, ht, rfl⟩ := List.mem_map.mp hd
          exact ⟨t, ht, rfl⟩
      · rw [upTo_length] at hhl
        exact ea_one (ee_tuple F.z_tuple (ee_var 5 rfl (hz (hs, bd) δ2 ⟨hhl, hb3, htab, fun n hn => hbn n (hmem _ hn)⟩)))
  refine ss_cons (se_setN 4 (en_list F.z_list (ee_ixL (ee_var 1 rfl (ee_int ⟨scD s, rfl, ?_⟩)))) sc__law_join.nd)
  refine ss_cons (se_setN 5 (en_l (ea_nil ?_)) sc__law_join.nd)
  refine ss_cons (se_forE Nat (ei_range F.z_range (ee_ixL (ee_new (en_l (ea_cons (ee_int (ea_cons (ee_int (ea_cons (ee_int (ea_cons (ee_int (ea_cons (ee_int (ea_one (ee_int ⟨rfl, ee_take F hr (ee_var 0 rfl ⟨rfl, ee_int ⟨6, rfl, by decide, fun k δ1 hk => ?_⟩⟩)⟩)))))))))))))))))
  obtain ⟨m, hm, em⟩ := ixs [1, 2, 2, 3, 3, 2] hk
  have hm3 : m ≤ 3 := (by decide : ∀ n ∈ [1, 2, 2, 3, 3, 2], n ≤ 3) m hm
  refine ⟨.int (m : Nat), em, by omega, by omega, List.range m, fun i => .one (.d (.int (i : Nat))), rfl, fun i ρ' _ => ∃ (ts : List Tab) (bd : List Atom) (o6 o7 : Option Dl.Arg), ρ' = [some .dr, some (.v (.d (wdD s ws vs))), some (.v (.d (.int (wd : Nat)))), some (.v (.d (.bool b))), some (.ow (.d (.list (ts.map tbD)))), some (.ow (.d (.list (bd.map atD)))), o6, o7, none, none, none] ∧ bd.length ≤ i ∧ (∀ t ∈ ts, t ∈ s) ∧ ts.length ≤ s.length ∧ ∀ a ∈ bd, ∃ t ∈ s, a.1 = t.1 ∧ a.2.length = t.2.1 + t.2.2, ⟨s, [], _, _, rfl, Nat.le_refl _, fun t ht => ht, Nat.le_refl _, fun a ha => by cases ha⟩, ?_, ?_⟩
  · rintro i i0 ρi δi hi0 ⟨ts, bd, o6, o7, rfl, hbl, hts, htl, htab⟩
    have hi : i < m := by
      have := (List.getElem?_eq_some_iff.mp hi0).1
      rwa [List.length_range] at this
    have hs4 := hw.len
    refine ⟨[6], eg_name 6 ?_ sc__law_join.nd⟩
    refine ss_one (se_if (et_gt (ee_len F.z_len (ee_var 4 rfl ⟨ts.length, congrArg some (List.length_map ..), ee_int ?_⟩))))
    show (if decide ((0 : Int) < (ts.length : Int)) = true then _ else _)
    by_cases h0 : (0 : Int) < (ts.length : Int)
    · rw [if_pos (decide_eq_true h0)]
      have hpos : 0 < ts.length := by omega
      refine ss_cons (se_set 7 (ee_take F hr (ee_var 0 rfl ⟨rfl, ee_len F.z_len (ee_var 4 rfl ⟨ts.length, congrArg some (List.length_map ..), ts.length, rfl, hpos, fun n δ2 hn => ?_⟩)⟩)) sc__law_join.nd)
      have hg : ts[n]? = some ts[n] := List.getElem?_eq_getElem hn
      have hmm : ts[n] ∈ ts := List.getElem_mem hn
      generalize ts[n] = t at hg hmm
      have hsz := hw.sch.sz t (hts t hmm)
      refine ss_cons (se_append 5 rfl (ee_callD (df_atom F) hr (ea_cons (ee_var 0 rfl (ea_cons (ee_var 1 rfl (ea_one (ee_ixL (ee_var 4 rfl (ee_var 7 rfl ⟨tbD t, at_map hg, rfl, rfl, s, ws, vs, t, rfl, hw, hsz.1, hsz.2, fun a δ3 ea1 ea2 => ⟨?_, ?_⟩⟩))))))))))
      · rw [List.length_map, sizeLine_eq]
        omega
      have htab' : ∀ a' ∈ bd ++ [a], ∃ t ∈ s, a'.1 = t.1 ∧ a'.2.length = t.2.1 + t.2.2 := fun a' ha' => by
        rcases List.mem_append.mp ha' with h | h
        · exact htab a' h
        · rw [List.mem_singleton] at h
          subst h
          exact ⟨t, hts t hmm, ea1, ea2⟩
      have hbl' : (bd ++ [a]).length ≤ i + 1 := by
        rw [List.length_append]
        exact Nat.add_le_add_right hbl 1
      refine ss_one (se_if (et_val (ee_var 3 rfl ?_)))
      cases b with
      | true =>
        refine ss_one (se_popAt 4 rfl (ee_var 7 rfl ⟨n, rfl, by rw [List.length_map]; exact hn, by omega, ts.eraseIdx n, bd ++ [a], some (.v (.d (.int (i0 : Nat)))), some (.v (.d (.int (n : Nat)))), ?_, hbl', fun t' ht' => hts t' (List.mem_of_mem_eraseIdx ht'), ?_, htab'⟩))
        · rw [erase_map, List.map_append]
          rfl
        · exact Nat.le_trans (List.length_eraseIdx_le ..) htl
      | false =>
        exact ss_nil ⟨ts, bd ++ [a], some (.v (.d (.int (i0 : Nat)))), some (.v (.d (.int (n : Nat)))), by rw [List.map_append]; rfl, hbl', hts, htl, htab'⟩
    · rw [if_neg (by rw [decide_eq_false h0]; exact Bool.false_ne_true)]
      exact ss_nil ⟨ts, bd, some (.v (.d (.int (i0 : Nat)))), o7, rfl, Nat.le_succ_of_le hbl, hts, htl, htab⟩
  · rintro ρ' δ' ⟨ts, bd, o6, o7, rfl, hbl, hts, htl, htab⟩
    rw [List.length_range] at hbl
    refine ss_cons (se_if (et_eq hr (ee_take F hr (ee_var 0 rfl ⟨rfl, ee_int ⟨16, rfl, by decide, fun n δ2 hn => ee_int ⟨okD_int _, okD_int _, ?_⟩⟩⟩))))
    rw [int_eqv]
    by_cases h0 : ((n : Nat) : Int) = 0
    · rw [if_pos (decide_eq_true h0)]
      exact ss_one (se_setN 5 (en_l (ea_nil (tail [] _ _ _ _ (by simp) (fun a ha => by cases ha)))) sc__law_join.nd)
    · rw [if_neg (by rw [decide_eq_false h0]; exact Bool.false_ne_true)]
      exact ss_nil (tail bd _ _ _ _ (by omega) htab)
def G_question : GD := fun as _ Z => ∃ (s : Sch) (ws : List Str) (vs : List Vl) (wd : Nat), as = [.dr, .v (.d (wdD s ws vs)), .v (.d (.int (wd : Nat)))] ∧ WOk s ws vs ∧ wd ≤ 4 ∧ ∀ (q : Qn) δ', QLk s wd 2 q → Z (.d (qnD q)) δ'
theorem df_question (F : Facts K mg) : Df P w K mg base 6 "_law_question" 3 G_question :=
  df_body F.d__law_question sc__law_question rfl (fun _ _ _ _ _ _ us hl => match us, hl with | [_, _, _], _ => rfl) fun f cdv A outer sh H E c as δ Z hr hl hG => by
  obtain ⟨s, ws, vs, wd, rfl, hw, hwd, hz⟩ := hG
  refine ss_cons (se_set 3 (ee_ixL (ee_new (en_l (ea_cons (ee_int (ea_cons (ee_int (ea_cons (ee_int (ea_cons (ee_int (ea_cons (ee_int (ea_cons (ee_int (ea_cons (ee_int (ea_one (ee_int ⟨rfl, ee_take F hr (ee_var 0 rfl ⟨rfl, ee_int ⟨8, rfl, by decide, fun k δ1 hk => ?_⟩⟩)⟩))))))))))))))))))) sc__law_question.nd)
  obtain ⟨m, hm, em⟩ := ixs [1, 1, 2, 1, 2, 1, 0, 2] hk
  have hm3 : m ≤ 2 := (by decide : ∀ n ∈ [1, 1, 2, 1, 2, 1, 0, 2], n ≤ 2) m hm
  refine ⟨.int (m : Nat), em, ?_⟩
  refine ss_one (se_ret (ee_tup (ea_cons (ee_var 2 rfl (ea_one (ee_tuple F.z_tuple (ee_new (en_lc (own := [("_law_k", 4)]) (eic_of (ei_range F.z_range (ee_var 3 rfl ⟨by omega, by omega, ?_⟩))) sc__law_question.nd (blkOk_by (N := N__law_question) (sc := defScope s_law_question) (by decide +kernel))))))))))
  refine lcz_draw (enc := jnD) (Pa := JOk s wd) ?_ (fun y hy δj => ?_) fun js hjl hjs δ2 => ⟨rfl, ?_⟩
  · rw [upTo_length, sizeLine_eq]
    have : ((m : Nat) : Int).toNat = m := rfl
    omega
  · obtain ⟨j, hj, rfl⟩ := upTo_mem hy
    refine ⟨_, fun s1 H C cl fp => eg_name 4 rfl sc__law_question.nd, fun s1 H C cl fp => ?_⟩
    refine ee_callD (df_join F) hr (ea_cons (ee_var 0 rfl (ea_cons (ee_var 1 rfl (ea_cons (ee_var 2 rfl (ea_one (ee_gt (ee_take F hr (ee_var 0 rfl ⟨rfl, ee_int ⟨3, rfl, by decide, fun n δ2 hn => ee_int ⟨rfl, rfl, s, ws, vs, wd, _, rfl, hw, hwd, fun j δ3 hj => ⟨j, hj, rfl⟩⟩⟩⟩))))))))))
  · rw [upTo_length] at hjl
    have : ((m : Nat) : Int).toNat = m := rfl
    exact hz ((wd : Int), js) δ2 ⟨rfl, by rw [hjl]; exact hm3, hjs⟩
def G_asked : GD := fun as _ Z => ∃ (s : Sch) (ws : List Str) (vs : List Vl), as = [.dr, .v (.d (wdD s ws vs))] ∧ WOk s ws vs ∧ ∀ (wd : Nat) (q : Qn) δ', wd ≤ 4 → QLk s wd 2 q → Z (.d (qnD q)) δ'
theorem df_asked (F : Facts K mg) : Df P w K mg base 7 "_law_asked" 2 G_asked :=
  df_body F.d__law_asked sc__law_asked rfl (fun _ _ _ _ _ _ us hl => match us, hl with | [_, _], _ => rfl) fun f cdv A outer sh H E c as δ Z hr hl hG => by
  obtain ⟨s, ws, vs, rfl, hw, hz⟩ := hG
  refine ss_cons (se_set 2 (ee_callD (df_question F) hr (ea_cons (ee_var 0 rfl (ea_cons (ee_var 1 rfl (ea_one (ee_ixL (ee_new (en_l (ea_cons (ee_int (ea_cons (ee_int (ea_cons (ee_int (ea_cons (ee_int (ea_cons (ee_int (ea_one (ee_int ⟨rfl, ee_take F hr (ee_var 0 rfl ⟨rfl, ee_int ⟨6, rfl, by decide, fun k δ1 hk => ?_⟩⟩)⟩))))))))))))))))))))) sc__law_asked.nd)
  obtain ⟨m, hm, em⟩ := ixs [1, 0, 1, 2, 1, 4] hk
  have hm4 : m ≤ 4 := (by decide : ∀ n ∈ [1, 0, 1, 2, 1, 4], n ≤ 4) m hm
  refine ⟨.int (m : Nat), em, rfl, rfl, s, ws, vs, m, rfl, hw, hm4, fun q δ3 hq => ?_⟩
  refine ss_cons (se_if (et_w (ew_and (et_eq hr (ee_len F.z_len (ee_ixT (ee_var 2 rfl (ee_int ⟨.tuple (q.2.map jnD), rfl, q.2.length, congrArg some (List.length_map ..), ee_int ⟨okD_int _, okD_int _, ?_⟩⟩))))))))
  rw [int_eqv]
  have ret : ∀ (q' : Qn) (δ4 : List Int), QLk s m 2 q' → SS (BX P w K mg base N__law_asked "_law_asked" s_law_asked f cdv A outer sh H E) c ((defBody s_law_asked).drop 2) [some .dr, some (.v (.d (wdD s ws vs))), some (.v (.d (qnD q')))] δ4 (post Z) := fun q' δ4 hq' => ss_one (se_ret (ee_var 2 rfl (hz m q' δ4 hm4 hq')))
  by_cases h0 : (q.2.length : Int) = 0
  · rw [decide_eq_true h0]
    refine ew_and1 (et_gt (ee_take F hr (ee_var 0 rfl ⟨rfl, ee_int ⟨4, rfl, by decide, fun n δ4 hn => ee_int ?_⟩⟩)))
    show (if decide ((0 : Int) < ((n : Nat) : Int)) = true then _ else _)
    by_cases h1 : (0 : Int) < ((n : Nat) : Int)
    · rw [if_pos (decide_eq_true h1)]
      refine ss_one (se_set 2 (ee_tup (ea_cons (ee_ixT (ee_var 2 rfl (ee_int ⟨.int q.1, rfl, ea_one (ee_tup (ea_one (ee_callD (df_join F) hr (ea_cons (ee_var 0 rfl (ea_cons (ee_var 1 rfl (ea_cons (ee_ixT (ee_var 2 rfl (ee_int ⟨.int q.1, rfl, ea_one (ee_bl ⟨rfl, rfl, s, ws, vs, m, true, ?_, hw, hm4, fun j δ5 hj => ?_⟩)⟩)))))))))))⟩))))) sc__law_asked.nd)
      · rw [hq.wid]
      · exact ret (q.1, [j]) δ5 ⟨hq.wid, by simp, fun j' hj' => by rw [List.mem_singleton] at hj'; rw [hj']; exact hj⟩
    · rw [if_neg (by rw [decide_eq_false h1]; exact Bool.false_ne_true)]
      exact ss_nil (ret q _ hq)
  · rw [decide_eq_false h0]
    exact ss_nil (ret q _ hq)
end
end Em
/-! part em23 -/
set_option Elab.async false
set_option linter.all false
set_option maxRecDepth 100000
set_option maxHeartbeats 4000000
set_option autoImplicit false
namespace Em
open PySem PySem.Spec PyProof.Rows L2 Dl
theorem tabOf_mem {s : Sch} (hnd : (s.map (·.1)).Nodup) {t : Tab} (ht : t ∈ s) : tabOf s t.1 = some t := by
  induction s with
  | nil => cases ht
  | cons a s ih =>
    rw [List.map_cons, List.nodup_cons] at hnd
    show (match decide (a.1 = t.1) with | true => some a | false => tabOf s t.1) = _
    rcases List.mem_cons.mp ht with h | h
    · subst h
      rw [decide_eq_true rfl]
    · have hne : ¬ a.1 = t.1 := fun e => hnd.1 (by rw [e]; exact List.mem_map_of_mem h)
      rw [decide_eq_false hne]
      exact ih hnd.2 h
theorem tab_one {s : Sch} (hnd : (s.map (·.1)).Nodup) {t u : Tab} (ht : t ∈ s) (hu : u ∈ s) (e : t.1 = u.1) : t = u := by
  have h1 := tabOf_mem hnd ht
  rw [e, tabOf_mem hnd hu] at h1
  exact (Option.some.inj h1).symm
def forBody : Stmt → List Stmt
  | .For _ _ b _ _ => b
  | _ => []
def FOk (s : Sch) (f : Fact) : Prop := ∃ t ∈ s, f.1 = t.1 ∧ f.2.length = t.2.1 + t.2.2
def AOk (s : Sch) (a : Atom) : Prop := ∃ t ∈ s, a.1 = t.1 ∧ a.2.length = t.2.1 + t.2.2
section
variable {P : Program} {w : World} {K : PySem.W.Frag} {mg : Str → Option Value} {base : Heap}
def G_facts : GD := fun as _ Z => ∃ (s : Sch) (ws : List Str) (vs : List Vl) (js : List Join), as = [.dr, .v (.d (wdD s ws vs)), .v (.d (.tuple (js.map jnD))), .v (.d (.int (7 : Nat)))] ∧ WOk s ws vs ∧ js.length ≤ 2 ∧ (∀ j ∈ js, j.2.length ≤ 3 ∧ ∀ a ∈ j.2, AOk s a) ∧ ∀ (fs : List Fact) δ', fs.length ≤ 7 → (∀ f ∈ fs, FOk s f) → Z (.d (.list (fs.map faD))) δ'
theorem df_facts (F : Facts K mg) : Df P w K mg base 3 "_law_facts" 4 G_facts :=
  df_body F.d__law_facts sc__law_facts rfl (fun _ _ _ _ _ _ us hl => match us, hl with | [_, _, _, _], _ => rfl) fun f cdv A outer sh H E c as δ Z hr hl hG => by
  obtain ⟨s, ws, vs, js, rfl, hw, hj2, hjs, hz⟩ := hG
  have hs4 := hw.len
  refine ss_cons (se_setN 4 (en_l (ea_nil ?_)) sc__law_facts.nd)
  refine ss_cons (se_forM js (fun j => .one (.d (jnD j))) (fun i ρ' _ => ∃ (as : List Atom) (o5 : Option Dl.Arg), ρ' = [some .dr, some (.v (.d (wdD s ws vs))), some (.v (.d (.tuple (js.map jnD)))), some (.v (.d (.int (7 : Nat)))), some (.ow (.d (.list (as.map atD)))), o5, none, none, none, none, none, none, none, none, none] ∧ as.length ≤ 3 * i ∧ ∀ a ∈ as, AOk s a)
    (ei_tupM jnD js (ee_var 2 rfl ⟨rfl, rfl, [], _, rfl, Nat.le_refl _, fun a ha => by cases ha⟩)) ?_ ?_)
  · rintro i j ρi δi hj ⟨as, o5, rfl, hal, hao⟩
    have hjm := hjs j (List.mem_of_getElem? hj)
    have hi := (List.getElem?_eq_some_iff.mp hj).1
    refine ⟨[5], eg_name 5 ?_ sc__law_facts.nd⟩
    refine ss_one (se_setN 4 (en_cat (el_own (ee_var 4 rfl (el_new (en_list F.z_list (ee_ixT (ee_var 5 rfl (ee_int ⟨bodyD j.2, rfl, _, rfl, ?_, ?_⟩)))))))) sc__law_facts.nd)
    · rw [List.length_map, List.length_map, sizeLine_eq]
      omega
    · refine ⟨as ++ j.2, some (.v (.d (jnD j))), by rw [List.map_append]; rfl, ?_, fun a ha => ?_⟩
      · rw [List.length_append]
        omega
      · rcases List.mem_append.mp ha with h | h
        · exact hao a h
        · exact hjm.2 a h
  rintro ρ' δ' ⟨as, o5, rfl, hal, hao⟩
  refine ss_frz 4 rfl ?_
  refine ss_cons (se_setN 6 (en_l (ea_nil ?_)) sc__law_facts.nd)
  refine ss_cons (se_forE Nat (ei_range F.z_range (ee_take F hr (ee_var 0 rfl ⟨rfl, ee_add (ee_var 3 rfl (ee_int ⟨8, rfl, by decide, fun k δ2 hk => ⟨by omega, by omega, ?_⟩⟩))⟩))))
  refine ⟨List.range k, fun i => .one (.d (.int (i : Nat))), rfl, fun i ρ' _ => ∃ (fs : List Fact) (o7 o8 o9 o10 o11 o13 : Option Dl.Arg), ρ' = [some .dr, some (.v (.d (wdD s ws vs))), some (.v (.d (.tuple (js.map jnD)))), some (.v (.d (.int (7 : Nat)))), some (.v (.d (.list (as.map atD)))), o5, some (.ow (.d (.list (fs.map faD)))), o7, o8, o9, o10, o11, none, o13, none] ∧ fs.length ≤ i ∧ ∀ f ∈ fs, FOk s f, ⟨[], _, _, _, _, _, _, rfl, Nat.le_refl _, fun a ha => by cases ha⟩, ?_, ?_⟩
  · rintro i i0 ρi δi hi0 ⟨fs, o7, o8, o9, o10, o11, o13, rfl, hfl, hfo⟩
    have hi : i < k := by
      have := (List.getElem?_eq_some_iff.mp hi0).1
      rwa [List.length_range] at this
    refine ⟨[7], eg_name 7 ?_ sc__law_facts.nd⟩
    have rest : ∀ (ZZ : Ot → Prop) (t : Tab) (row : Row) (o10 o11 : Option Dl.Arg) (δ : List Int), t ∈ s → row.length = t.2.1 + t.2.2 → SS (BX P w K mg base N__law_facts "_law_facts" s_law_facts f cdv A outer sh H E) c ((forBody ((defBody s_law_facts).getD 3 (.Pass ⟨0, 0, 0, 0⟩))).drop 3) [some .dr, some (.v (.d (wdD s ws vs))), some (.v (.d (.tuple (js.map jnD)))), some (.v (.d (.int (7 : Nat)))), some (.v (.d (.list (as.map atD)))), o5, some (.ow (.d (.list (fs.map faD)))), some (.v (.d (.int (i0 : Nat)))), some (.v (.d (tbD t))), some (.ow (.d (.list (row.map Vl.d)))), o10, o11, none, o13, none] δ (loopO (fun ρ' _ => ∃ (fs : List Fact) (o7 o8 o9 o10 o11 o13 : Option Dl.Arg), ρ' = [some .dr, some (.v (.d (wdD s ws vs))), some (.v (.d (.tuple (js.map jnD)))), some (.v (.d (.int (7 : Nat)))), some (.v (.d (.list (as.map atD)))), o5, some (.ow (.d (.list (fs.map faD)))), o7, o8, o9, o10, o11, none, o13, none] ∧ fs.length ≤ i + 1 ∧ ∀ f ∈ fs, FOk s f) ZZ) := fun ZZ t row o10 o11 δ ht hrl => by
      have hsz := hw.sch.sz t ht
      refine ss_frz 9 rfl ?_
      refine ss_cons (se_setLc 13 (own := [("_law_fact", 14)]) (eic_own (ee_var 6 rfl ?_)) sc__law_facts.nd (blkOk_by (N := N__law_facts) (sc := defScope s_law_facts) (by decide +kernel)) (sw_true rfl rfl rfl rfl))
      show LcZ _ _ _ _ _ _ _ _ _ ((fs.map faD).map _) _
      rw [List.map_map]
      refine lcz_filter (f := faD) (t := fun g => decide (g.1 = t.1)) (by rw [sizeLine_eq]; omega) (fun g hg => ⟨_, fun s1 H C cl fp => eg_name 14 rfl sc__law_facts.nd, fun s1 H C cl fp => ?_, fun _ s1 H C cl fp => ee_var 14 rfl ⟨rfl, rfl⟩⟩) ⟨rfl, ?_⟩
      · exact et_eq hr (ee_ixT (ee_var 14 rfl (ee_int ⟨.str g.1, rfl, ee_ixT (ee_var 8 rfl (ee_int ⟨.str t.1, rfl, okD_str _, okD_str _, str_eqv _ _, rfl⟩))⟩)))
      generalize hal : fs.filter (fun g => decide (g.1 = t.1)) = alike
      have halk : ∀ g ∈ alike, g.1 = t.1 ∧ g.2.length = t.2.1 + t.2.2 := fun g hg => by
        rw [← hal] at hg
        obtain ⟨h1, h2⟩ := List.mem_filter.mp hg
        have e := of_decide_eq_true h2
        obtain ⟨u, hu, e1, e2⟩ := hfo g h1
        have := tab_one hw.sch.nd hu ht (e1.symm.trans e)
        subst this
        exact ⟨e, e2⟩
      have fin : ∀ (row : Row) (o13 : Option Dl.Arg) (δ : List Int), row.length = t.2.1 + t.2.2 → SS (BX P w K mg base N__law_facts "_law_facts" s_law_facts f cdv A outer sh H E) c ((forBody ((defBody s_law_facts).getD 3 (.Pass ⟨0, 0, 0, 0⟩))).drop 5) [some .dr, some (.v (.d (wdD s ws vs))), some (.v (.d (.tuple (js.map jnD)))), some (.v (.d (.int (7 : Nat)))), some (.v (.d (.list (as.map atD)))), o5, some (.ow (.d (.list (fs.map faD)))), some (.v (.d (.int (i0 : Nat)))), some (.v (.d (tbD t))), some (.v (.d (.list (row.map Vl.d)))), o10, o11, none, o13, none] δ (loopO (fun ρ' _ => ∃ (fs : List Fact) (o7 o8 o9 o10 o11 o13 : Option Dl.Arg), ρ' = [some .dr, some (.v (.d (wdD s ws vs))), some (.v (.d (.tuple (js.map jnD)))), some (.v (.d (.int (7 : Nat)))), some (.v (.d (.list (as.map atD)))), o5, some (.ow (.d (.list (fs.map faD)))), o7, o8, o9, o10, o11, none, o13, none] ∧ fs.length ≤ i + 1 ∧ ∀ f ∈ fs, FOk s f) ZZ) := fun row o13 δ hrl => by
        refine ss_one (se_append 6 rfl (ee_tup (ea_cons (ee_ixT (ee_var 8 rfl (ee_int ⟨.str t.1, rfl, ea_one (ee_tuple F.z_tuple (ee_var 9 rfl ⟨?_, ?_⟩))⟩))))))
        · rw [List.length_map, sizeLine_eq]
          omega
        · refine ⟨fs ++ [(t.1, row)], _, _, _, _, _, _, by rw [List.map_append]; rfl, ?_, fun g hg => ?_⟩
          · rw [List.length_append]
            exact Nat.add_le_add_right hfl 1
          · rcases List.mem_append.mp hg with h | h
            · exact hfo g h
            · rw [List.mem_singleton] at h
              subst h
              exact ⟨t, ht, rfl, hrl⟩
      refine ss_cons (se_if (et_w (ew_and (et_gt (ee_len F.z_len (ee_var 13 rfl ⟨alike.length, congrArg some (List.length_map ..), ee_int ?_⟩))))))
      show (if decide ((0 : Int) < (alike.length : Int)) = true then _ else _)
      by_cases h0 : (0 : Int) < (alike.length : Int)
      · rw [if_pos (decide_eq_true h0)]
        refine ew_and1 (et_eq hr (ee_take F hr (ee_var 0 rfl ⟨rfl, ee_int ⟨2, rfl, by decide, fun n δ3 hn => ee_int ⟨okD_int _, okD_int _, ?_⟩⟩⟩)))
        rw [int_eqv]
        by_cases h1 : ((n : Nat) : Int) = 0
        · rw [if_pos (decide_eq_true h1)]
          refine ss_cons (se_setN 9 (en_cat (el_new (en_list F.z_list (ee_slT_to (ee_ixT (ee_callD (df_pick F) hr (ea_cons (ee_var 0 rfl (ea_one (ee_var 13 rfl ⟨rfl, rfl, _, .inl rfl, ?_, fun d hd δ4 => ?_⟩)))))))))) sc__law_facts.nd)
          · intro e
            rw [List.map_eq_nil_iff.mp e] at h0
            exact absurd h0 (by decide)
          · obtain ⟨g, hg, rfl⟩ := List.mem_map.mp hd
            have hgl := (halk g hg).2
            refine ee_int ⟨rowD g.2, rfl, ee_ixT (ee_var 8 rfl (ee_int ⟨.int t.2.1, rfl, t.2.1, rfl, _, rfl, el_new (en_slL_from (ee_var 9 rfl (ee_ixT (ee_var 8 rfl (ee_int ⟨.int t.2.1, rfl, t.2.1, rfl, _, rfl, ?_, ?_⟩)))))⟩))⟩
            · rw [List.length_take, List.length_drop, List.length_map, List.length_map, sizeLine_eq]
              omega
            · refine ss_frz 9 rfl (ss_nil ?_)
              have := fin (g.2.take t.2.1 ++ row.drop t.2.1) (some (.v (.d (.list (alike.map faD))))) δ4 (by
                rw [List.length_append, List.length_take, List.length_drop]
                omega)
              rw [List.map_append, List.map_take, List.map_drop] at this
              exact this
        · rw [if_neg (by rw [decide_eq_false h1]; exact Bool.false_ne_true)]
          exact ss_nil (fin row _ _ hrl)
      · rw [if_neg (by rw [decide_eq_false h0]; exact Bool.false_ne_true)]
        exact ss_nil (fin row _ _ hrl)
    refine ss_cons (se_set 8 (ee_callD (df_pick F) hr (ea_cons (ee_var 0 rfl (ea_one (ee_ixL (ee_var 1 rfl (ee_int ⟨scD s, rfl, rfl, rfl, _, .inr rfl, ?_, fun d hd δ4 => ?_⟩))))))) sc__law_facts.nd)
    · intro e
      have := hw.pos
      rw [List.map_eq_nil_iff.mp e] at this
      exact absurd this (by decide)
    obtain ⟨t, ht, rfl⟩ := List.mem_map.mp hd
    have hsz := hw.sch.sz t ht
    refine ss_cons (se_setLcN 9 (own := [("_law_j", 10)]) (eic_of (ei_range F.z_range (ee_add (ee_ixT (ee_var 8 rfl (ee_int ⟨.int t.2.1, rfl, ee_ixT (ee_var 8 rfl (ee_int ⟨.int t.2.2, rfl, by omega, by omega, ?_⟩))⟩)))))) sc__law_facts.nd (blkOk_by (N := N__law_facts) (sc := defScope s_law_facts) (by decide +kernel)) (sw_true rfl rfl rfl rfl))
    have hN : ((t.2.1 : Int) + (t.2.2 : Int)).toNat = t.2.1 + t.2.2 := by omega
    rw [hN]
    refine lcz_draw (enc := Vl.d) (Pa := fun _ : Vl => True) ?_ (fun y hy δj => ?_) fun row hrl _ δ5 => ?_
    · rw [upTo_length, sizeLine_eq]
      omega
    · obtain ⟨j, hj, rfl⟩ := upTo_mem hy
      refine ⟨_, fun s1 H C cl fp => eg_name 10 rfl sc__law_facts.nd, fun s1 H C cl fp => ?_⟩
      exact ee_callD (df_law_value F) hr (ea_cons (ee_var 0 rfl (ea_one (ee_ixL (ee_var 1 rfl (ee_int ⟨vlsD vs, rfl, rfl, rfl, vs, rfl, hw.val, fun v δ' => ⟨v, trivial, rfl⟩⟩))))))
    rw [upTo_length] at hrl
    refine ss_cons (se_if (et_w (ew_and (et_gt (ee_len F.z_len (ee_var 4 rfl ⟨as.length, congrArg some (List.length_map ..), ee_int ?_⟩))))))
    show (if decide ((0 : Int) < (as.length : Int)) = true then _ else _)
    by_cases h0 : (0 : Int) < (as.length : Int)
    · rw [if_pos (decide_eq_true h0)]
      refine ew_and1 (et_gt (ee_take F hr (ee_var 0 rfl ⟨rfl, ee_int ⟨4, rfl, by decide, fun n δ6 hn => ee_int ?_⟩⟩)))
      show (if decide ((0 : Int) < ((n : Nat) : Int)) = true then _ else _)
      by_cases h1 : (0 : Int) < ((n : Nat) : Int)
      · rw [if_pos (decide_eq_true h1)]
        refine ss_cons (se_set 11 (ee_callD (df_pick F) hr (ea_cons (ee_var 0 rfl (ea_one (ee_var 4 rfl ⟨rfl, rfl, _, .inl rfl, ?_, fun d hd δ7 => ?_⟩))))) sc__law_facts.nd)
        · intro e
          rw [List.map_eq_nil_iff.mp e] at h0
          exact absurd h0 (by decide)
        obtain ⟨a, ha, rfl⟩ := List.mem_map.mp hd
        obtain ⟨u, hu, e1, e2⟩ := hao a ha
        have hsu := hw.sch.sz u hu
        refine ss_cons (se_set 8 (ee_callP (df_law_table F) hr (ea_cons (ee_ixL (ee_var 1 rfl (ee_int ⟨scD s, rfl, ea_one (ee_ixT (ee_var 11 rfl (ee_int ⟨.str a.1, rfl, rfl, s, a.1, u, rfl, ?_, ?_, ?_⟩)))⟩))))) sc__law_facts.nd)
        · exact Nat.lt_of_le_of_lt hs4 (by decide)
        · rw [e1]
          exact tabOf_mem hw.sch.nd hu
        refine ss_cons (se_setLcN 9 (own := [("_law_term_here", 12)]) (eic_of (ei_tupM Tm.d a.2 (ee_ixT (ee_var 11 rfl (ee_int ⟨tmsD a.2, rfl, rfl, ?_⟩))))) sc__law_facts.nd (blkOk_by (N := N__law_facts) (sc := defScope s_law_facts) (by decide +kernel)) (sw_true rfl rfl rfl rfl))
        refine lcz_draw (enc := Vl.d) (Pa := fun _ : Vl => True) ?_ (fun y hy δj => ?_) fun row2 hrl2 _ δ8 => ?_
        · rw [List.length_map, sizeLine_eq]
          omega
        · obtain ⟨tm, htm, rfl⟩ := List.mem_map.mp hy
          refine ⟨_, fun s1 H C cl fp => eg_name 12 rfl sc__law_facts.nd, fun s1 H C cl fp => ?_⟩
          exact ee_callD (df_law_value F) hr (ea_cons (ee_var 0 rfl (ea_one (ee_ixL (ee_var 1 rfl (ee_int ⟨vlsD vs, rfl, rfl, rfl, vs, rfl, hw.val, fun v δ' => ⟨v, trivial, rfl⟩⟩))))))
        rw [List.length_map] at hrl2
        refine ss_one (se_forE Nat (ei_range F.z_range (ee_len F.z_len (ee_var 9 rfl ⟨row2.length, congrArg some (List.length_map ..), by omega, by omega, ?_⟩))))
        refine ⟨List.range row2.length, fun i => .one (.d (.int (i : Nat))), rfl, fun i ρ' _ => ∃ (row : Row) (o10 : Option Dl.Arg), ρ' = [some .dr, some (.v (.d (wdD s ws vs))), some (.v (.d (.tuple (js.map jnD)))), some (.v (.d (.int (7 : Nat)))), some (.v (.d (.list (as.map atD)))), o5, some (.ow (.d (.list (fs.map faD)))), some (.v (.d (.int (i0 : Nat)))), some (.v (.d (tbD u))), some (.ow (.d (.list (row.map Vl.d)))), o10, some (.v (.d (atD a))), none, o13, none] ∧ row.length = a.2.length, ⟨row2, _, rfl, hrl2⟩, ?_, ?_⟩
        · rintro i' j ρj δj hj ⟨row, o10', rfl, hrow⟩
          have hji : i' < row2.length := by
            have := (List.getElem?_eq_some_iff.mp hj).1
            rwa [List.length_range] at this
          have ej : j = i' := by
            rw [List.getElem?_range hji] at hj
            exact (Option.some.inj hj).symm
          subst ej
          have hja : j < a.2.length := by omega
          have hat : a.2[j]? = some a.2[j] := List.getElem?_eq_getElem hja
          have ham : a.2[j] ∈ a.2 := List.getElem_mem hja
          generalize a.2[j] = tm at hat ham
          have hix : ∀ r : Row, r.length = a.2.length → ixN (r.map Vl.d).length ((j : Nat) : Int) = some j := fun r hr' => by
            unfold ixN
            rw [List.length_map]
            simp [hr', hja]
          refine ⟨[10], eg_name 10 ?_ sc__law_facts.nd⟩
          refine ss_cons (se_setItem 9 rfl (ee_ixL (ee_var 9 rfl (ee_tmIdx hr (ee_ixT (ee_var 11 rfl (ee_int ⟨tmsD a.2, rfl, a.2, rfl, ee_ixT (ee_ixT (ee_var 11 rfl (ee_int ⟨tmsD a.2, rfl, ee_var 10 rfl ⟨tm.d, at_map hat, tm, ham, rfl, fun i2 hi2 => ?_⟩⟩)))⟩)))))) (ha := by intro v; rfl))
          have hi3 : i2 < row.length := by omega
          refine ⟨_, at_map (List.getElem?_eq_getElem hi3), ee_var 10 rfl ⟨j, hix row hrow, ?_⟩⟩
          refine ss_one (se_if (et_w (ew_and (et_eq hr (ee_ixT (ee_ixT (ee_ixT (ee_var 11 rfl (ee_int ⟨tmsD a.2, rfl, ee_var 10 rfl ⟨tm.d, at_map hat, ?_⟩⟩)))))))))
          have hr3 : (row.set j row[i2]).length = a.2.length := by rw [List.length_set, hrow]
          cases tm with
          | x x =>
            refine ee_int ⟨.str "var", rfl, ee_str ⟨okD_str _, okD_str _, ?_⟩⟩
            rw [str_eqv, kinds_ne']
            exact ss_nil ⟨row.set j row[i2], some (.v (.d (.int (j : Nat)))), by rw [List.map_set]; rfl, hr3⟩
          | v x =>
            refine ee_int ⟨.str "value", rfl, ee_str ⟨okD_str _, okD_str _, ?_⟩⟩
            rw [str_eqv, decide_eq_true rfl]
            refine ew_and1 (et_gt (ee_take F hr (ee_var 0 rfl ⟨rfl, ee_int ⟨3, rfl, by decide, fun n3 δ9 hn3 => ee_int ?_⟩⟩)))
            show (if decide ((0 : Int) < ((n3 : Nat) : Int)) = true then _ else _)
            by_cases h3 : (0 : Int) < ((n3 : Nat) : Int)
            · rw [if_pos (decide_eq_true h3)]
              refine ss_one (se_setItem 9 rfl (ee_ixT (ee_ixT (ee_ixT (ee_var 11 rfl (ee_int ⟨tmsD a.2, rfl, ee_var 10 rfl ⟨(Tm.v x).d, at_map hat, ee_int ⟨x.d, rfl, ee_var 10 rfl ⟨j, ?_, ?_⟩⟩⟩⟩))))) (ha := by intro v; rfl))
              · have := hix (row.set j row[i2]) hr3
                rw [List.map_set] at this
                exact this
              · exact ⟨(row.set j row[i2]).set j x, some (.v (.d (.int (j : Nat)))), by rw [List.map_set, List.map_set]; rfl, by rw [List.length_set, hr3]⟩
            · rw [if_neg (by rw [decide_eq_false h3]; exact Bool.false_ne_true)]
              exact ss_nil ⟨row.set j row[i2], some (.v (.d (.int (j : Nat)))), by rw [List.map_set]; rfl, hr3⟩
        · rintro ρ' δ' ⟨row, o10', rfl, hrow⟩
          exact rest _ u row _ _ _ hu (by omega)
      · rw [if_neg (by rw [decide_eq_false h1]; exact Bool.false_ne_true)]
        exact ss_nil (rest _ t row _ _ _ ht hrl)
    · rw [if_neg (by rw [decide_eq_false h0]; exact Bool.false_ne_true)]
      exact ss_nil (rest _ t row _ _ _ ht hrl)
  · rintro ρ' δ' ⟨fs, o7, o8, o9, o10, o11, o13, rfl, hfl, hfo⟩
    rw [List.length_range] at hfl
    exact ss_frz 6 rfl (ss_one (se_ret (ee_var 6 rfl (hz fs _ (by omega) hfo))))
end
end Em
/-! part em24 -/
set_option Elab.async false
set_option linter.all false
set_option maxRecDepth 100000
set_option maxHeartbeats 4000000
set_option autoImplicit false
namespace Em
open PySem PySem.Spec PyProof.Rows L2 Dl
def elseOf : Stmt → List Stmt
  | .If _ _ b _ => b
  | _ => []
def lbD (b : Fact × List Row) : PyData := .tuple [.str b.1.1, rowD b.1.2, rowsD b.2]
structure BsOk (s : Sch) (st : List Fact) (bs : Bl) : Prop where
  num : bs.length ≤ st.length
  row : ∀ b ∈ bs, b.2 ≠ [] ∧ b.2.length ≤ st.length ∧ ∀ r ∈ b.2, (b.1.1, r) ∈ st ∧ placeF s (b.1.1, r) = b.1
  all : ∀ g ∈ st, ∃ b ∈ bs, b.1.1 = g.1 ∧ g.2 ∈ b.2
theorem ix_last (n : Nat) : ixN (n + 1) (-(1 : Int)) = some n := by
  unfold ixN
  rw [if_neg (by decide), if_pos (by omega)]
  exact congrArg some (by omega)
theorem at_last {α : Type} {enc : α → PyData} (l : List α) (a : α) : atI ((l ++ [a]).map enc) (-(1 : Int)) = some (enc a) := by
  unfold atI
  have e : ((l ++ [a]).map enc).length = l.length + 1 := by rw [List.length_map, List.length_append]; rfl
  rw [e, ix_last]
  show ((l ++ [a]).map enc)[l.length]? = _
  rw [List.getElem?_map, List.getElem?_append_right (Nat.le_refl _), Nat.sub_self]
  rfl
theorem set_last {α : Type} (l : List α) (a b : α) : (l ++ [a]).set l.length b = l ++ [b] := by
  rw [List.set_append_right _ _ (Nat.le_refl _), Nat.sub_self]
  rfl
theorem snoc {α : Type} : ∀ {l : List α}, 0 < l.length → ∃ l0 a, l = l0 ++ [a]
  | [a], _ => ⟨[], a, rfl⟩
  | a :: b :: l, _ => by
    obtain ⟨l0, c, e⟩ := snoc (l := b :: l) (by simp)
    exact ⟨a :: l0, c, by rw [e]; rfl⟩
theorem FOk.key {s : Sch} {f : Fact} (hs : SchOk s) (h : FOk s f) : ∃ k, keyLen s f.1 = some k := by
  obtain ⟨t, ht, e, _⟩ := h
  exact ⟨t.2.1, by unfold keyLen; rw [e, tabOf_mem hs.nd ht]; rfl⟩
theorem place_key {s : Sch} {f : Fact} {k : Nat} (h : keyLen s f.1 = some k) : placeF s f = (f.1, f.2.take k) := by
  unfold placeF keyN placeOf
  rw [h]
  rfl
section
variable {P : Program} {w : World} {K : PySem.W.Frag} {mg : Str → Option Value} {base : Heap}
def G_blocks : GD := fun as δ Z => ∃ (s : Sch) (st : List Fact), as = [.v (.d (scD s)), .v (.d (stD st))] ∧ SchOk s ∧ s.length ≤ 4 ∧ st.length ≤ 7 ∧ (∀ f ∈ st, FOk s f) ∧ ∀ bs : Bl, BsOk s st bs → Z (.d (.tuple (bs.map lbD))) δ
theorem df_blocks (F : Facts K mg) : Df P w K mg base 3 "_law_blocks" 2 G_blocks :=
  df_body F.d__law_blocks sc__law_blocks rfl (fun _ _ _ _ _ _ us hl => match us, hl with | [_, _], _ => rfl) fun f cdv A outer sh H E c as δ Z hr hl hG => by
  obtain ⟨s, st, rfl, hs, hs4, h7, hfo, hz⟩ := hG
  refine ss_cons (se_setN 2 (en_l (ea_nil ?_)) sc__law_blocks.nd)
  refine ss_cons (se_forM st (fun f => .one (.d (faD f))) (fun i ρ' δ' => δ' = δ ∧ ∃ (bs : Bl) (o3 o4 : Option Dl.Arg), ρ' = [some (.v (.d (scD s))), some (.v (.d (stD st))), some (.ow (.d (.list (bs.map lbD)))), o3, o4] ∧ bs.length ≤ i ∧ (∀ b ∈ bs, b.2 ≠ [] ∧ b.2.length ≤ i ∧ ∀ r ∈ b.2, (b.1.1, r) ∈ st ∧ placeF s (b.1.1, r) = b.1) ∧ ∀ g ∈ st.take i, ∃ b ∈ bs, b.1.1 = g.1 ∧ g.2 ∈ b.2)
    (ei_tupM faD st (ee_var 1 rfl ⟨rfl, rfl, rfl, [], _, _, rfl, Nat.le_refl _, fun b hb => (by cases hb), fun g hg => by cases hg⟩)) ?_ ?_)
  · rintro i g ρi δi hg ⟨rfl, bs, o3, o4, rfl, hbl, hb1, hb2⟩
    have hi := (List.getElem?_eq_some_iff.mp hg).1
    have hgm : g ∈ st := List.mem_of_getElem? hg
    obtain ⟨k, hk⟩ := (hfo g hgm).key hs
    have hpl := place_key hk
    refine ⟨[3], eg_name 3 ?_ sc__law_blocks.nd⟩
    refine ss_cons (se_set 4 (ee_callP (df_law_key_of F) hr (ea_cons (ee_var 0 rfl (ea_one (ee_var 3 rfl ⟨rfl, s, g, k, rfl, Nat.lt_of_le_of_lt hs4 (by decide), hk, ?_⟩))))) sc__law_blocks.nd)
    have all' : ∀ bs' : Bl, (∀ b ∈ bs, ∃ b' ∈ bs', b'.1 = b.1 ∧ ∀ r ∈ b.2, r ∈ b'.2) → (∃ b ∈ bs', b.1.1 = g.1 ∧ g.2 ∈ b.2) → ∀ g' ∈ st.take (i + 1), ∃ b ∈ bs', b.1.1 = g'.1 ∧ g'.2 ∈ b.2 := fun bs' h1 h2 g' hg' => by
      rw [List.take_succ, hg] at hg'
      rcases List.mem_append.mp hg' with h | h
      · obtain ⟨b, hb, e1, e2⟩ := hb2 g' h
        obtain ⟨b', hb', e3, e4⟩ := h1 b hb
        exact ⟨b', hb', by rw [e3]; exact e1, e4 _ e2⟩
      · have : g' = g := by simpa using h
        rw [this]
        exact h2
    have rest : SS (BX P w K mg base N__law_blocks "_law_blocks" s_law_blocks f cdv A outer sh H E) c (elseOf ((forBody ((defBody s_law_blocks).getD 1 (.Pass ⟨0, 0, 0, 0⟩))).getD 1 (.Pass ⟨0, 0, 0, 0⟩))) [some (.v (.d (scD s))), some (.v (.d (stD st))), some (.ow (.d (.list (bs.map lbD)))), some (.v (.d (faD g))), some (.v (.d (rowD (g.2.take k))))] δi (loopO ((fun i ρ' δ' => δ' = δi ∧ ∃ (bs : Bl) (o3 o4 : Option Dl.Arg), ρ' = [some (.v (.d (scD s))), some (.v (.d (stD st))), some (.ow (.d (.list (bs.map lbD)))), o3, o4] ∧ bs.length ≤ i ∧ (∀ b ∈ bs, b.2 ≠ [] ∧ b.2.length ≤ i ∧ ∀ r ∈ b.2, (b.1.1, r) ∈ st ∧ placeF s (b.1.1, r) = b.1) ∧ ∀ g ∈ st.take i, ∃ b ∈ bs, b.1.1 = g.1 ∧ g.2 ∈ b.2) (i + 1)) fun o => thenO o (fun ρ' δ' => SS (BX P w K mg base N__law_blocks "_law_blocks" s_law_blocks f cdv A outer sh H E) c ((defBody s_law_blocks).drop 2) ρ' δ' (post Z)) (post Z)) := by
      refine ss_one (se_append 2 rfl (ee_tup (ea_cons (ee_ixT (ee_var 3 rfl (ee_int ⟨.str g.1, rfl, ea_cons (ee_var 4 rfl (ea_one (ee_tup (ea_one (ee_ixT (ee_var 3 rfl (ee_int ⟨rowD g.2, rfl, ?_, ?_⟩)))))))⟩))))))
      · rw [List.length_map, sizeLine_eq]
        omega
      · refine ⟨rfl, bs ++ [((g.1, g.2.take k), [g.2])], _, _, by rw [List.map_append]; rfl, ?_, fun b hb => ?_, all' _ (fun b hb => ⟨b, List.mem_append_left _ hb, rfl, fun r hr => hr⟩) ⟨_, List.mem_append_right _ (List.mem_singleton_self _), rfl, List.mem_singleton_self _⟩⟩
        · rw [List.length_append]
          exact Nat.add_le_add_right hbl 1
        · rcases List.mem_append.mp hb with h | h
          · obtain ⟨h1, h2, h3⟩ := hb1 b h
            exact ⟨h1, by omega, h3⟩
          · rw [List.mem_singleton] at h
            subst h
            refine ⟨by simp, by simp, fun r hr => ?_⟩
            rw [List.mem_singleton] at hr
            subst hr
            exact ⟨hgm, hpl⟩
    refine ss_one (se_if (et_w (ew_and (et_gt (ee_len F.z_len (ee_var 2 rfl ⟨bs.length, congrArg some (List.length_map ..), ee_int ?_⟩))))))
    show (if decide ((0 : Int) < (bs.length : Int)) = true then _ else _)
    by_cases h0 : (0 : Int) < (bs.length : Int)
    · rw [if_pos (decide_eq_true h0)]
      obtain ⟨bs0, b, ebs⟩ := snoc (l := bs) (by omega)
      have hix : ixN (bs.map lbD).length (-(1 : Int)) = some bs0.length := by
        rw [ebs, List.length_map, List.length_append]
        exact ix_last _
      have hat : atI (bs.map lbD) (-(1 : Int)) = some (lbD b) := by rw [ebs]; exact at_last bs0 b
      have hbm : b ∈ bs := by rw [ebs]; exact List.mem_append_right _ (List.mem_singleton_self _)
      refine ew_and1 (et_eq hr (ee_slT_to (ee_ixL (ee_var 2 rfl (ee_neg (ee_int ⟨lbD b, hat, ee_int ⟨2, rfl, ?_⟩⟩))))))
      refine ee_tup (ea_cons (ee_ixT (ee_var 3 rfl (ee_int ⟨.str g.1, rfl, ea_one (ee_var 4 rfl ⟨ok_fa b.1, ok_fa (g.1, g.2.take k), ?_⟩)⟩))))
      have e := eqv_fa b.1 (g.1, g.2.take k)
      show (if PyData.eqv (faD b.1) (faD (g.1, g.2.take k)) = true then _ else _)
      rw [e]
      by_cases h1 : b.1 = (g.1, g.2.take k)
      · rw [if_pos (decide_eq_true h1)]
        obtain ⟨q1, q2, q3⟩ := hb1 b hbm
        refine ss_one (se_setItem 2 rfl (ee_tup (ea_cons (ee_ixT (ee_var 3 rfl (ee_int ⟨.str g.1, rfl, ea_cons (ee_var 4 rfl (ea_one (ee_addT (ee_ixT (ee_ixL (ee_var 2 rfl (ee_neg (ee_int ⟨lbD b, hat, ee_int ⟨rowsD b.2, rfl, ee_tup (ea_one (ee_ixT (ee_var 3 rfl (ee_int ⟨rowD g.2, rfl, ?_, ee_neg (ee_int ⟨bs0.length, hix, ?_⟩)⟩))))⟩⟩))))))))⟩))))) (ha := by intro v; rfl))
        · rw [List.length_map, sizeLine_eq]
          show _ + 1 ≤ _
          omega
        · refine ⟨rfl, bs0 ++ [((g.1, g.2.take k), b.2 ++ [g.2])], some (.v (.d (faD g))), some (.v (.d (rowD (g.2.take k)))), ?_, ?_, fun b' hb' => ?_, all' _ (fun b' hb' => ?_) ⟨_, List.mem_append_right _ (List.mem_singleton_self _), rfl, List.mem_append_right _ (List.mem_singleton_self _)⟩⟩
          · have : (bs0 ++ [((g.1, g.2.take k), b.2 ++ [g.2])]).map lbD = (bs.map lbD).set bs0.length (lbD ((g.1, g.2.take k), b.2 ++ [g.2])) := by
              have := set_last (bs0.map lbD) (lbD b) (lbD ((g.1, g.2.take k), b.2 ++ [g.2]))
              rw [List.length_map] at this
              rw [ebs, List.map_append, List.map_append]
              exact this.symm
            rw [this]
            have e2 : lbD ((g.1, g.2.take k), b.2 ++ [g.2]) = .tuple [.str g.1, rowD (g.2.take k), .tuple (b.2.map rowD ++ [rowD g.2])] := by
              unfold lbD rowsD
              rw [List.map_append]
              rfl
            rw [e2]
            rfl
          · have := congrArg List.length ebs
            rw [List.length_append] at this ⊢
            exact Nat.le_trans (Nat.le_of_eq this.symm) (Nat.le_succ_of_le hbl)
          · rcases List.mem_append.mp hb' with h | h
            · obtain ⟨h1, h2, h3⟩ := hb1 b' (by rw [ebs]; exact List.mem_append_left _ h)
              exact ⟨h1, by omega, h3⟩
            · rw [List.mem_singleton] at h
              subst h
              refine ⟨by simp, by rw [List.length_append]; exact Nat.add_le_add_right q2 1, fun r hr => ?_⟩
              rcases List.mem_append.mp hr with h | h
              · obtain ⟨z1, z2⟩ := q3 r h
                rw [h1] at z1 z2
                exact ⟨z1, z2⟩
              · rw [List.mem_singleton] at h
                subst h
                exact ⟨hgm, hpl⟩
          · rw [ebs] at hb'
            rcases List.mem_append.mp hb' with h | h
            · exact ⟨b', List.mem_append_left _ h, rfl, fun r hr => hr⟩
            · rw [List.mem_singleton] at h
              subst h
              exact ⟨_, List.mem_append_right _ (List.mem_singleton_self _), h1.symm, fun r hr => List.mem_append_left _ hr⟩
      · rw [if_neg (by rw [decide_eq_false h1]; exact Bool.false_ne_true)]
        exact rest
    · rw [if_neg (by rw [decide_eq_false h0]; exact Bool.false_ne_true)]
      exact rest
  · rintro ρ' δ' ⟨rfl, bs, o3, o4, rfl, hbl, hb1, hb2⟩
    rw [List.take_length] at hb2
    exact ss_one (se_ret (ee_tuple F.z_tuple (ee_var 2 rfl (hz bs ⟨hbl, hb1, hb2⟩))))
end
end Em
/-! part em25 -/
set_option Elab.async false
set_option linter.all false
set_option maxRecDepth 100000
set_option maxHeartbeats 4000000
set_option autoImplicit false
/-! the facts' keys can be sorted -/
namespace Em
open PySem PySem.Spec PySem.Calls PyProof.Rows L2 Dl
open PySem.SeqAt PySem.W
open PySem.AutoSeq1 (wpAny_loadPart')
open PySem.MeetsSeq PySem.MeetsSeq2 PySem.MeetsSeq3
/-- (a, b) < (c, d) where a and c differ -/
theorem pairMeets (l m : Addr) (n k : Nat) (d1 d2 : Option Addr) (z1 z2 : Array (Option Value)) (p0 p1 q0 q1 : Value) (kk : Bool) :
    Meets (Builtin.«tuple.__lt__» ⟨[.ref l, .ref m], []⟩)
      (fun A R s => s.heap.get? l = some { cls := .type "tuple", dict := d1, data := .seq #[p0, p1] n, slots := z1 } ∧ s.heap.get? m = some { cls := .type "tuple", dict := d2, data := .seq #[q0, q1] k, slots := z2 } ∧
        EqAt A.in1 s p0 q0 false ∧ RcLt A.in1 s p0 q0 kk ∧ R (.ok (.ret (.bool kk))) s) :=
  .of_wp fun prog w A R s hyp => by
    obtain ⟨hp, g, d, tk, os⟩ := s
    obtain ⟨hl, hm, he, hlt, hR⟩ := hyp
    have sub := AutoSeq1.sub_tuple_tuple
    wp_walk using wpAny_loadPart' hl, wpAny_loadPart' hm, wpAny_forIn_list _ (fun rest acc st => acc.1 = none ∧ st = ⟨hp, g, d, tk, os⟩ ∧ rest = [(p0, q0), (p1, q1)]) _
    case turn =>
      rintro ⟨p, q⟩ rest acc st ⟨ha, rfl, hz⟩
      injection hz with h1 h2
      injection h1 with h3 h4
      subst h3 h4 h2
      refine wpAny_bind (he prog w _ _ ?_)
      have hri := hlt prog w
      wp_walk using hri
      exact ⟨_, rfl, by simpa using hR⟩
    case fin =>
      rintro ⟨b1, b2⟩ st ⟨ha, rfl, hz⟩
      cases hz
    case h => exact ⟨rfl, rfl, rfl⟩
theorem pairLt {A : Around} {s : Shared} {l m : Addr} {p0 p1 q0 q1 : Value} {kk : Bool} (hl : s.heap.IsTuple l #[p0, p1]) (hm : s.heap.IsTuple m #[q0, q1]) (hu : A.units < cLine) (he : EqAt A.in1 s p0 q0 false) (hlt : RcLt A.in1 s p0 q0 kk) : RcLt A s (.ref l) (.ref m) kk := fun prog w E Q h => by
  obtain ⟨⟨c1, d1, t1, z1⟩, g1, e1, n1, f1⟩ := id hl
  obtain ⟨⟨c2, d2, t2, z2⟩, g2, e2, n2, f2⟩ := id hm
  simp only at e1 f1 e2 f2
  subst e1 f1 e2 f2
  exact richCompare_meets_room (op := .Lt) ⟨_, g1, rfl⟩ ⟨_, g2, rfl⟩ F.slot_tuple_lt F.entry_tuple_lt (F.args_tuple_lt_2 _ _) (pairMeets l m n1 n2 d1 d2 z1 z2 p0 p1 q0 q1 kk) ⟨g1, g2, he, hlt, show Value.bool kk ≠ Value.notImplemented ∧ Q (.bool kk) s from ⟨(fun z => nomatch z), h⟩⟩ hu
theorem ra_two {h : Heap} {l : List Value} {x y : PyData} {as : List Addr} (r : ReadsAll h l [x, y] as) : ∃ a b as1 as2, l = [a, b] ∧ Reads h a x as1 ∧ Reads h b y as2 := by
  cases r with
  | cons r1 rs => cases rs with
    | cons r2 rs2 =>
      cases rs2
      exact ⟨_, _, _, _, rfl, r1, r2⟩
theorem rd_pair {h : Heap} {v : Value} {x y : PyData} {as : List Addr} (r : Reads h v (.tuple [x, y]) as) : ∃ a p q as1 as2, v = .ref a ∧ h.IsTuple a #[p, q] ∧ Reads h p x as1 ∧ Reads h q y as2 := by
  cases r with
  | @tuple a o vs n _ _ h1 h2 h3 h4 =>
    obtain ⟨p, q, as1, as2, e, r1, r2⟩ := ra_two h4
    have : vs = #[p, q] := Array.toList_inj.mp e
    subst this
    exact ⟨a, p, q, as1, as2, rfl, ⟨_, h1, h2, _, h3⟩, r1, r2⟩
theorem eqv_vkey (a b : Vl) : PyData.eqv (vkey a) (vkey b) = decide (a = b) := by
  cases a <;> cases b <;> simp [vkey, PyData.eqv, PyData.eqvAll, Vl.i.injEq, Vl.s.injEq, PySem.W.beq_decide]
theorem eqv_lkey (a b : Vl) : PyData.eqv (lkey a) (lkey b) = decide (a = b) := by
  cases a <;> cases b <;> simp [lkey, Vl.d, PyData.eqv, PyData.eqvAll, Vl.i.injEq, Vl.s.injEq, PySem.W.beq_decide]
theorem plain_lkey (a : Vl) : (lkey a).plain = true := by cases a <;> rfl
theorem depth_lkey (a : Vl) : (lkey a).depth ≤ 1 := by cases a <;> simp [lkey, Vl.d, PyData.depth, PyData.depthAll]
theorem mixed_lt {A : Around} {s : Shared} {u v : Value} {as bs : List Addr} {i j : Int} {x y : PyData} {xs ys : List PyData} (ra : Reads s.heap u (.tuple [.int i, x]) as) (rb : Reads s.heap v (.tuple [.int j, y]) bs) (hij : i ≠ j) (hu : A.units + 3 < cLine) :
    RcLt A s u v (dataLt (.tuple (.int i :: xs)) (.tuple (.int j :: ys))) := by
  have hne : PyData.eqv (.int i) (.int j) = false := by
    rw [int_eqv]
    exact decide_eq_false hij
  rw [dataLt_tuple, dataLt_all_no rfl hne]
  obtain ⟨l1, p, q, _, _, rfl, t1, r1, r2⟩ := rd_pair ra
  obtain ⟨l2, p', q', _, _, rfl, t2, k1, k2⟩ := rd_pair rb
  have hd : A.in1.units + min (PyData.int i).depth (PyData.int j).depth < cLine := by
    show A.units + 1 + min (PyData.int i).depth (PyData.int j).depth < cLine
    simp only [PyData.depth]
    omega
  have he := eqAt_plain (.int i) (.int j) A.in1 s p p' _ _ r1 k1 rfl rfl hd
  rw [hne] at he
  exact pairLt t1 t2 (by omega) he (rcLt_alike (.int i) (.int j) A.in1 s p p' _ _ r1 k1 rfl (by intro h; cases h) hd)
theorem lk_one (a b : Vl) (A : Around) (s : Shared) (u v : Value) (as bs : List Addr) (ra : Reads s.heap u (lkey a) as) (rb : Reads s.heap v (lkey b) bs) (hu : A.units + 3 < cLine) :
    EqAt A s u v (PyData.eqv (vkey a) (vkey b)) ∧ (PyData.eqv (vkey a) (vkey b) = false → RcLt A s u v (dataLt (vkey a) (vkey b))) := by
  have hd : A.units + min (lkey a).depth (lkey b).depth < cLine := by
    have := depth_lkey a
    omega
  refine ⟨?_, fun hne => ?_⟩
  · rw [eqv_vkey, ← eqv_lkey]
    exact eqAt_plain _ _ A s u v as bs ra rb (plain_lkey a) (plain_lkey b) hd
  · rw [eqv_vkey, decide_eq_false_iff_not] at hne
    cases a with
    | i n => cases b with
      | i m =>
        have hnm : (PyData.eqv (.int n) (.int m)) = false := by
          rw [int_eqv]
          exact decide_eq_false fun e => hne (by rw [e])
        have h00 : (PyData.eqv (.int 0) (.int 0)) = true := by rw [int_eqv]; rfl
        have e1 : dataLt (.tuple [.int 0, .int n, .str ""]) (.tuple [.int 0, .int m, .str ""]) = dataLt (.int n) (.int m) := (dataLt_tuple _ _).trans ((dataLt_all_yes rfl h00).trans (dataLt_all_no rfl hnm))
        have e2 : dataLt (.tuple [.int 0, .int n]) (.tuple [.int 0, .int m]) = dataLt (.int n) (.int m) := (dataLt_tuple _ _).trans ((dataLt_all_yes rfl h00).trans (dataLt_all_no rfl hnm))
        show RcLt A s u v (dataLt (.tuple [.int 0, .int n, .str ""]) (.tuple [.int 0, .int m, .str ""]))
        rw [e1, ← e2]
        exact rcLt_alike (.tuple [.int 0, .int n]) (.tuple [.int 0, .int m]) A s u v as bs ra rb (by simp [alike, alikeAll]) (by intro h; cases h) hd
      | s m => exact mixed_lt (i := 0) (j := 1) (x := .int n) (y := .str m) ra rb (by decide) hu
    | s n => cases b with
      | i m => exact mixed_lt (i := 1) (j := 0) (x := .str n) (y := .int m) ra rb (by decide) hu
      | s m =>
        have hnm : (PyData.eqv (.str n) (.str m)) = false := by
          rw [str_eqv]
          exact decide_eq_false fun e => hne (by rw [e])
        have h00 : (PyData.eqv (.int 0) (.int 0)) = true := by rw [int_eqv]; rfl
        have h11 : (PyData.eqv (.int 1) (.int 1)) = true := by rw [int_eqv]; rfl
        have e1 : dataLt (.tuple [.int 1, .int 0, .str n]) (.tuple [.int 1, .int 0, .str m]) = dataLt (.str n) (.str m) := (dataLt_tuple _ _).trans ((dataLt_all_yes rfl h11).trans ((dataLt_all_yes rfl h00).trans (dataLt_all_no rfl hnm)))
        have e2 : dataLt (.tuple [.int 1, .str n]) (.tuple [.int 1, .str m]) = dataLt (.str n) (.str m) := (dataLt_tuple _ _).trans ((dataLt_all_yes rfl h11).trans (dataLt_all_no rfl hnm))
        show RcLt A s u v (dataLt (.tuple [.int 1, .int 0, .str n]) (.tuple [.int 1, .int 0, .str m]))
        rw [e1, ← e2]
        exact rcLt_alike (.tuple [.int 1, .str n]) (.tuple [.int 1, .str m]) A s u v as bs ra rb (by simp [alike, alikeAll]) (by intro h; cases h) hd
theorem lk_all : ∀ (r r' : Row) (A : Around) (s : Shared) (vs ws : List Value) (as bs : List Addr), ReadsAll s.heap vs (r.map lkey) as → ReadsAll s.heap ws (r'.map lkey) bs → A.units + 3 < cLine → ∀ j (h1 : j < vs.length) (h2 : j < ws.length),
    EqAt A s vs[j] ws[j] (pairEq (r.map vkey) (r'.map vkey) j) ∧ (pairEq (r.map vkey) (r'.map vkey) j = false → RcLt A s vs[j] ws[j] (dataLt ((r.map vkey).getD j .none) ((r'.map vkey).getD j .none)))
  | [], _, _, _, _, _, _, _, ra, _, _, j, h1, _ => by cases ra; exact absurd h1 (Nat.not_lt_zero _)
  | _ :: _, [], _, _, _, _, _, _, _, rb, _, j, _, h2 => by cases rb; exact absurd h2 (Nat.not_lt_zero _)
  | a :: r, b :: r', A, s, _, _, _, _, ra, rb, hu, j, h1, h2 => by
    cases ra with
    | cons x1 x2 =>
      cases rb with
      | cons y1 y2 =>
        cases j with
        | zero => exact lk_one a b A s _ _ _ _ x1 y1 hu
        | succ j => exact lk_all r r' A s _ _ _ _ x2 y2 hu j (Nat.lt_of_succ_lt_succ h1) (Nat.lt_of_succ_lt_succ h2)
theorem lks_lt (r r' : Row) (A : Around) (s : Shared) (u v : Value) (as bs : List Addr) (ra : Reads s.heap u (lkeys r) as) (rb : Reads s.heap v (lkeys r') bs) (hu : A.units + 4 < cLine) : RcLt A s u v (dataLt (.list (r.map vkey)) (.list (r'.map vkey))) := by
  unfold lkeys at ra rb
  cases ra with
  | @list l o vs n _ _ h1 h2 h3 h4 =>
    cases rb with
    | @list l' o' vs' n' _ _ k1 k2 k3 k4 =>
      have n1 : vs.size = (r.map vkey).length := by simpa using ReadsAll.length _ _ _ h4
      have n2 : vs'.size = (r'.map vkey).length := by simpa using ReadsAll.length _ _ _ k4
      have hu1 : A.in1.units + 3 < cLine := by
        show A.units + 1 + 3 < cLine
        omega
      rw [dataLt_list, ← firstLt_toks _ _ (alike_vkeys r r'), ← n1, ← n2]
      refine RcLt.lists ⟨_, h1, h2, _, h3⟩ ⟨_, k1, k2, _, k3⟩ (by omega) (fun j j1 j2 => ?_) fun j j1 j2 hj => ?_
      · exact (lk_all r r' A.in1 s _ _ _ _ h4 k4 hu1 j (by simpa using j1) (by simpa using j2)).1
      · exact (lk_all r r' A.in1 s _ _ _ _ h4 k4 hu1 j (by simpa using j1) (by simpa using j2)).2 hj
theorem eqv_lkeys (r r' : Row) : PyData.eqv (lkeys r) (lkeys r') = PyData.eqv (.list (r.map vkey)) (.list (r'.map vkey)) := by
  unfold lkeys
  rw [PyData.eqv, PyData.eqv]
  induction r generalizing r' with
  | nil => cases r' <;> rfl
  | cons a r ih => cases r' with
    | nil => rfl
    | cons b r' => rw [List.map_cons, List.map_cons, List.map_cons, List.map_cons, PyData.eqvAll, PyData.eqvAll, eqv_lkey, eqv_vkey, ih]
theorem plain_lkeys (r : Row) : PyData.plainAll (r.map lkey) = true := by
  induction r with
  | nil => rfl
  | cons a r ih => rw [List.map_cons, PyData.plainAll, plain_lkey, ih]; rfl
theorem depth_lkeys : ∀ r : Row, PyData.depthAll (r.map lkey) ≤ 1
  | [] => Nat.zero_le _
  | a :: r => by
    rw [List.map_cons, PyData.depthAll]
    exact Nat.max_le.mpr ⟨depth_lkey a, depth_lkeys r⟩
/-- the key's like: all of these are alike -/
def akey (f : Fact) : PyData := .tuple [.str f.1, .list (f.2.map vkey)]
noncomputable def fKind (h : Heap) : PyProof.Rows.KeyKind where
  toKeyOrd := listOrd itemOrd
  keyOf v := open Classical in if q : ∃ f : Fact, ∃ as, Reads h v (fkey f) as then some (keyToks (akey q.choose)) else none
  dflt := ([] : List (Int ⊕ List Nat))
theorem fKind_ex {h : Heap} {v : Value} {f : Fact} {as : List Addr} (r : Reads h v (fkey f) as) : ∃ k, (fKind h).keyOf v = some k := by
  have q : ∃ f : Fact, ∃ as, Reads h v (fkey f) as := ⟨f, as, r⟩
  exact ⟨_, dif_pos q⟩
theorem fKind_inv {h : Heap} {v : Value} {k : List (Int ⊕ List Nat)} (e : (fKind h).keyOf v = some k) : ∃ (f : Fact) (as : List Addr), Reads h v (fkey f) as ∧ k = keyToks (akey f) := by
  by_cases q : ∃ f : Fact, ∃ as, Reads h v (fkey f) as
  · have e' : (fKind h).keyOf v = some (keyToks (akey q.choose)) := dif_pos q
    obtain ⟨as, r⟩ := q.choose_spec
    rw [e'] at e
    exact ⟨_, as, r, (Option.some.inj e).symm⟩
  · have e' : (fKind h).keyOf v = none := dif_neg q
    rw [e'] at e
    cases e
theorem keys_facts {P : Program} {w : World} {ks : List PyData} (hks : ∀ k ∈ ks, ∃ f : Fact, k = fkey f) : KeysOk P w ks := fun A s vs hu e => by
  refine ⟨fKind s.heap, fun v hv => ?_, tuples' true, ?_, fun h2 E Q hq => ?_⟩
  · obtain ⟨d, hd, as, r⟩ := e.left v hv
    obtain ⟨f, rfl⟩ := hks d hd
    exact fKind_ex r
  · intro E x y a b Q ha hb hq
    obtain ⟨f, as, ra, rfl⟩ := fKind_inv ha
    obtain ⟨g, bs, rb, rfl⟩ := fKind_inv hb
    have hq' : Q (dataLt (akey f) (akey g)) s := hq
    unfold akey at hq'
    rw [dataLt_tuple] at hq'
    obtain ⟨l1, p, q, _, _, rfl, t1, r1, r2⟩ := rd_pair ra
    obtain ⟨l2, p', q', _, _, rfl, t2, k1, k2⟩ := rd_pair rb
    obtain ⟨o1, g1, c1, n1, d1⟩ := t1
    obtain ⟨o2, g2, c2, n2, d2⟩ := t2
    cases r1 with
    | str x t =>
      cases k1 with
      | str y u =>
        refine kat_lt g1 d1 g2 d2 (kat_cons (EqAt.str_str _ t _ u _ _ _ _ ?_))
        have hE : (f.1 == g.1) = decide (f.1 = g.1) := PySem.W.beq_decide _ _
        cases hx : (f.1 == g.1) with
        | true =>
          rw [hE, decide_eq_true_eq] at hx
          rw [dataLt_all_yes rfl (by rw [str_eqv]; exact decide_eq_true hx)] at hq'
          have hl := eqAt_plain (lkeys f.2) (lkeys g.2) A s q q' _ _ r2 k2 (plain_lkeys _) (plain_lkeys _) (by
            have : (lkeys f.2).depth ≤ 2 := by
              unfold lkeys
              rw [PyData.depth]
              exact Nat.succ_le_succ (depth_lkeys f.2)
            omega)
          refine kat_yes (kat_cons (hl _ _ _ _ ?_))
          cases hy : PyData.eqv (lkeys f.2) (lkeys g.2) with
          | true =>
            rw [eqv_lkeys] at hy
            rw [dataLt_all_yes (by simpa [alike] using alike_vkeys f.2 g.2) hy] at hq'
            exact kat_yes (kat_nil (by simpa [keyToksAll, lex_irrefl] using hq'))
          | false =>
            rw [eqv_lkeys] at hy
            rw [dataLt_all_no (by simpa [alike] using alike_vkeys f.2 g.2) hy] at hq'
            refine kat_no ?_
            rw [oneLt'_eq]
            simp only [Nat.zero_add, Nat.reduceBEq, Bool.and_false, Bool.false_eq_true, if_false]
            exact wpAny_bind (lks_lt f.2 g.2 A s q q' _ _ r2 k2 (by omega) _ _ _ _ (wpAny_truthy_bool hq'))
        | false =>
          rw [hE, decide_eq_false_iff_not] at hx
          rw [dataLt_all_no rfl (by rw [str_eqv]; exact decide_eq_false hx), dataLt_str] at hq'
          exact kat_no (oneLt_str hq')
  · obtain ⟨fs, t1, t2, t3⟩ := each_katTups e fun d hd => by
      obtain ⟨f, rfl⟩ := hks d hd
      exact ⟨_, _, rfl⟩
    refine kat_kind (T := .type "str") t1 (by omega) (fun f hf => ?_) (beq_self_eq_true _) hq
    obtain ⟨x, r, as, m1, m2⟩ := t3 f hf
    obtain ⟨f', e'⟩ := hks _ m1
    unfold fkey at e'
    injection e' with e'
    injection e' with e1 e2
    rw [e1] at m2
    exact looks_reads m2
end Em
/-! part em26 -/
set_option Elab.async false
set_option linter.all false
set_option maxRecDepth 100000
set_option maxHeartbeats 4000000
set_option autoImplicit false
namespace Em
open PySem PySem.Spec PyProof.Rows L2 Dl
section
variable {P : Program} {w : World} {K : PySem.W.Frag} {mg : Str → Option Value} {base : Heap}
def G_store : GD := fun as δ Z => ∃ fs : List Fact, as = [.v (.d (.list (fs.map faD)))] ∧ small fs.length ∧ (∀ f ∈ fs, small f.2.length) ∧ ∀ st : List Fact, st.Nodup → (∀ f, f ∈ st ↔ f ∈ fs) → st.length ≤ fs.length → Z (.d (stD st)) δ
theorem df_store (F : Facts K mg) : Df P w K mg base 6 "_law_store" 1 G_store :=
  df_body F.d__law_store sc__law_store rfl (fun _ _ _ _ _ _ us hl => match us, hl with | [_], _ => rfl) fun f cdv A outer sh H E c as δ Z hr hl hG => by
  obtain ⟨fs, rfl, hsm, hrow, hz⟩ := hG
  refine ss_cons (se_setN 1 (en_l (ea_nil ?_)) sc__law_store.nd)
  refine ss_cons (se_forE Fact (ei_list (ee_new (en_sortKM faD fkey (df_law_fact_key F) hr F.z_sorted (ee_var 0 rfl ⟨fs, rfl, fun g hg Z' hZ => ⟨g, rfl, hrow g hg, hZ⟩, fun h2 ks hks => keys_facts fun k hk => ?_, fun ys hp => ⟨rfl, ?_⟩⟩)))))
  · obtain ⟨g, _, e⟩ := hks k hk
    exact ⟨g, e⟩
  have hyl : ys.length = fs.length := hp.length_eq
  refine ⟨ys, fun f => .one (.d (faD f)), by rw [List.map_map]; rfl, fun i ρ' δ' => δ' = δ ∧ ∃ (st : List Fact) (o2 : Option Dl.Arg), ρ' = [some (.v (.d (.list (fs.map faD)))), some (.ow (.d (.list (st.map faD)))), o2] ∧ st.Nodup ∧ (∀ g, g ∈ st ↔ g ∈ ys.take i) ∧ st.length ≤ i, ⟨rfl, [], _, rfl, List.nodup_nil, fun g => (by simp), Nat.le_refl _⟩, ?_, ?_⟩
  · rintro i g ρi δi hg ⟨rfl, st, o2, rfl, hnd, hmem, hlen⟩
    have hi := (List.getElem?_eq_some_iff.mp hg).1
    have hsu : ∀ x, x ∈ ys.take (i + 1) ↔ x ∈ ys.take i ∨ x = g := fun x => by
      rw [List.take_succ, hg, List.mem_append]
      simp
    refine ⟨[2], eg_name 2 ?_ sc__law_store.nd⟩
    refine ss_one (se_if (et_notIn hr (ee_var 2 rfl ⟨ok_fa g, ee_var 1 rfl ⟨plain_facts st, ?_⟩⟩)))
    rw [any_of eqv_fa]
    by_cases hin : g ∈ st
    · rw [if_neg (by simp [hin])]
      refine ss_nil ⟨rfl, st, _, rfl, hnd, fun x => ?_, Nat.le_succ_of_le hlen⟩
      rw [hsu, hmem]
      exact ⟨fun h => .inl h, fun h => h.elim id fun e => by rw [e]; exact (hmem g).mp hin⟩
    · rw [if_pos (by simp [hin])]
      refine ss_one (se_append 1 rfl (ee_var 2 rfl ⟨?_, rfl, st ++ [g], _, by rw [List.map_append]; rfl, ?_, fun x => ?_, ?_⟩))
      · rw [List.length_map]
        exact Nat.lt_of_le_of_lt hlen (Nat.lt_trans hi (by rw [hyl]; exact small_line hsm))
      · exact List.nodup_append.mpr ⟨hnd, by simp, fun a ha b hb e => hin (by rw [List.mem_singleton] at hb; rw [← hb, ← e]; exact ha)⟩
      · rw [hsu, List.mem_append, hmem, List.mem_singleton]
      · rw [List.length_append]
        exact Nat.add_le_add_right hlen 1
  · rintro ρ' δ' ⟨rfl, st, o2, rfl, hnd, hmem, hlen⟩
    rw [List.take_length] at hmem
    exact ss_one (se_ret (ee_tuple F.z_tuple (ee_var 1 rfl (hz st hnd (fun g => (hmem g).trans hp.mem_iff) (by omega)))))
end
theorem asked_of {s : Sch} {ws : List Str} {vs : List Vl} {st : List Fact} {q : Qn} {wd n : Nat} (hw : WOk s ws vs) (hnd : st.Nodup) (h7 : st.length ≤ 7) (hfo : ∀ f ∈ st, FOk s f) (hq : QLk s wd n q) (hn : n ≤ 4) (hwd : wd ≤ 4) : Asked s st q wd where
  sch := Nat.le_trans hw.len (by decide)
  nd := hnd
  num := Nat.le_trans h7 (by decide)
  key f hf := (hfo f hf).key hw.sch
  row f hf := by
    obtain ⟨t, ht, _, e⟩ := hfo f hf
    have := hw.sch.sz t ht
    omega
  qs := Nat.le_trans hq.num hn
  head j hj := (hq.jn j hj).head
  wid := Nat.le_trans hwd (by decide)
  bnd j hj := (hq.jn j hj).bnd
  body j hj := (hq.jn j hj).body
  arN j hj a ha := by
    obtain ⟨t, ht, _, e⟩ := (hq.jn j hj).tab a ha
    have := hw.sch.sz t ht
    omega
  ar j hj a ha f hf e := by
    obtain ⟨t, ht, e1, e2⟩ := (hq.jn j hj).tab a ha
    obtain ⟨u, hu, e3, e4⟩ := hfo f hf
    have : t = u := tab_one hw.sch.nd ht hu (by rw [← e1, ← e3, e])
    subst this
    rw [e2, e4]
  akey j hj a ha := by
    obtain ⟨t, ht, e1, _⟩ := (hq.jn j hj).tab a ha
    exact ⟨t.2.1, by unfold keyLen; rw [e1, tabOf_mem hw.sch.nd ht]; rfl⟩
theorem fewer_of {s : Sch} {st fs fw : List Fact} {bs : Bl} (hbs : BsOk s st bs) (hsub : ∀ f ∈ fs, f ∈ st) (hk : ∀ b ∈ bs, ∃ r ∈ b.2, (b.1.1, r) ∈ fs) (hm : ∀ f, f ∈ fw ↔ f ∈ fs) : Fewer s st fw where
  sub f hf := hsub f ((hm f).mp hf)
  keep f hf := by
    obtain ⟨b, hb, e1, e2⟩ := hbs.all f hf
    obtain ⟨r, hr, h3⟩ := hk b hb
    obtain ⟨_, _, h4⟩ := hbs.row b hb
    refine ⟨(b.1.1, r), (hm _).mpr h3, (h4 r hr).2.trans ?_⟩
    have := (h4 f.2 e2).2
    rw [e1] at this
    exact this.symm
end Em
/-! part em27 -/
set_option Elab.async false
set_option linter.all false
set_option maxRecDepth 100000
set_option maxHeartbeats 4000000
set_option autoImplicit false
namespace Em
open PySem PySem.Spec PyProof.Rows L2 Dl
def thenOf : Stmt → List Stmt
  | .If _ a _ _ => a
  | _ => []
def spLaw (K : PySem.W.Frag) : Sp := fun vs H Q _ => ∃ (a : Addr) (ns : List Int), vs = [.ref a] ∧ SqL K H a (ns.map V.int) ∧ ns.length ≤ 63 ∧ ∀ H', Q (.bl true) H'
theorem rp_ints {K : PySem.W.Frag} {H : Hp} : ∀ ns : List Int, RpAll K H (ns.map V.int) (ns.map PyData.int)
  | [] => .nil
  | n :: ns => .cons (.int n) (rp_ints ns)
theorem seqL_cut {K : PySem.W.Frag} {H : Hp} {a : Addr} {xs : List V} (h : SqL K H a xs) : SqL K (cut H []) a xs := by
  have : cut H [] = H := by
    funext b
    exact cut_out (by simp)
  rw [this]
  exact h
/-- the end of the law: it gives True -/
@[reducible] def okEnd : Ot → Prop := fun o => match o with
  | .rt w _ => w = .d (.bool true)
  | _ => False
section
variable {P : Program} {w : World} {K : PySem.W.Frag} {mg : Str → Option Value} {base : Heap}
theorem law_walk (F : Facts K mg) (f : Addr) (cdv : Value) (A : Around) (outer : List PySem.Env) (sh : Shared) (H : Hp) (E : XK) (hr : Room 39 (A.deeper (envOfC "law" (defScope s_law) sh.heap.objs.size f cdv))) (p : Addr) (ms : List Int) :
    SS (BX P w K mg base N_law "law" s_law f cdv A outer sh H E) ⟨some p, []⟩ ((defBody s_law).drop 1) ((List.replicate 13 none).set 1 (some .dr)) ms okEnd := by
  refine ss_cons (se_set 2 (ee_callD (df_world F) hr (ea_one (ee_var 1 rfl ⟨rfl, rfl, rfl, fun s ws vs δ1 hw => ?_⟩))) sc_law.nd)
  refine ss_cons (se_set 3 (ee_callD (df_asked F) hr (ea_cons (ee_var 1 rfl (ea_one (ee_var 2 rfl ⟨rfl, rfl, s, ws, vs, rfl, hw, fun wd q δ2 hwd hq => ?_⟩))))) sc_law.nd)
  have hjs : ∀ j ∈ q.2, j.2.length ≤ 3 ∧ ∀ a ∈ j.2, AOk s a := fun j hj => ⟨(hq.jn j hj).body, (hq.jn j hj).tab⟩
  have smRow : ∀ {g : Fact}, FOk s g → small g.2.length := fun {g} hg => by
    obtain ⟨t, ht, _, e⟩ := hg
    have := hw.sch.sz t ht
    show _ < 5000
    omega
  refine ss_cons (se_set 4 (ee_callP (df_store F) hr (ea_one (ee_callD (df_facts F) hr (ea_cons (ee_var 1 rfl (ea_cons (ee_var 2 rfl (ea_cons (ee_ixT (ee_var 3 rfl (ee_int ⟨.tuple (q.2.map jnD), rfl, ea_one (ee_int ⟨rfl, rfl, s, ws, vs, q.2, rfl, hw, hq.num, hjs, fun fs δ3 hfl hfo => ⟨rfl, fs, rfl, ?_, fun g hg => smRow (hfo g hg), fun st hnd hmem hlen => ?_⟩⟩)⟩))))))))))) sc_law.nd)
  · exact Nat.lt_of_le_of_lt hfl (by decide)
  have h7 : st.length ≤ 7 := Nat.le_trans hlen hfl
  have hfo2 : ∀ g ∈ st, FOk s g := fun g hg => hfo g ((hmem g).mp hg)
  have hA : Asked s st q wd := asked_of hw hnd h7 hfo2 hq (by decide) hwd
  refine ss_cons (se_setN 5 (en_l (ea_nil ?_)) sc_law.nd)
  refine ss_cons (se_forE (Fact × List Row) (ei_tup (ee_callP (df_blocks F) hr (ea_cons (ee_ixL (ee_var 2 rfl (ee_int ⟨scD s, rfl, ea_one (ee_var 4 rfl ⟨rfl, s, st, rfl, hw.sch, hw.len, h7, hfo2, fun bs hbs => ?_⟩)⟩)))))))
  have hb7 := hbs.num
  refine ⟨bs, fun b => .one (.d (lbD b)), by rw [List.map_map]; rfl, fun i ρ' _ => ∃ (fs2 : List Fact) (o6 o7 o8 : Option Dl.Arg), ρ' = [none, some .dr, some (.v (.d (wdD s ws vs))), some (.v (.d (qnD q))), some (.v (.d (stD st))), some (.ow (.d (.list (fs2.map faD)))), o6, o7, o8, none, none, none, none] ∧ (∀ g ∈ fs2, g ∈ st) ∧ (∀ b ∈ bs.take i, ∃ r ∈ b.2, (b.1.1, r) ∈ fs2) ∧ fs2.length ≤ 7 * i, ⟨[], _, _, _, rfl, fun g hg => (by cases hg), fun b hb => (by simp at hb), Nat.le_refl _⟩, ?_, ?_⟩
  · rintro i b ρi δi hb ⟨fs2, o6, o7, o8, rfl, hsub, hkp, hl2⟩
    have hi := (List.getElem?_eq_some_iff.mp hb).1
    obtain ⟨hne, hbl, hbr⟩ := hbs.row b (List.mem_of_getElem? hb)
    have hpos : 0 < b.2.length := List.length_pos_iff.mpr hne
    refine ⟨[6], eg_name 6 ?_ sc_law.nd⟩
    refine ss_cons (se_set 7 (ee_take F hr (ee_var 1 rfl ⟨rfl, ee_len F.z_len (ee_ixT (ee_var 6 rfl (ee_int ⟨rowsD b.2, rfl, b.2.length, congrArg some (List.length_map ..), b.2.length, rfl, hpos, fun kept δ4 hk => ?_⟩)))⟩)) sc_law.nd)
    refine ss_one (se_forE Nat (ei_range F.z_range (ee_len F.z_len (ee_ixT (ee_var 6 rfl (ee_int ⟨rowsD b.2, rfl, b.2.length, congrArg some (List.length_map ..), by omega, by omega, ?_⟩))))))
    refine ⟨List.range b.2.length, fun i => .one (.d (.int (i : Nat))), rfl, fun j ρ' _ => ∃ (fs3 : List Fact) (o8 : Option Dl.Arg), ρ' = [none, some .dr, some (.v (.d (wdD s ws vs))), some (.v (.d (qnD q))), some (.v (.d (stD st))), some (.ow (.d (.list (fs3.map faD)))), some (.v (.d (lbD b))), some (.v (.d (.int (kept : Nat)))), o8, none, none, none, none] ∧ (∀ g ∈ fs3, g ∈ st) ∧ (∀ g ∈ fs2, g ∈ fs3) ∧ (kept < j → (b.1.1, b.2[kept]) ∈ fs3) ∧ fs3.length ≤ fs2.length + j, ⟨fs2, _, rfl, hsub, fun g hg => hg, fun h => absurd h (Nat.not_lt_zero _), Nat.le_refl _⟩, ?_, ?_⟩
    · rintro j j0 ρj δj hj ⟨fs3, o8', rfl, h1, h2, h3, h4⟩
      have hjb : j < b.2.length := by
        have := (List.getElem?_eq_some_iff.mp hj).1
        rwa [List.length_range] at this
      have ej : j0 = j := by
        rw [List.getElem?_range hjb] at hj
        exact (Option.some.inj hj).symm
      subst ej
      refine ⟨[8], eg_name 8 ?_ sc_law.nd⟩
      have add : ∀ δ5 : List Int, SS (BX P w K mg base N_law "law" s_law f cdv A outer sh H E) ⟨some p, []⟩ (thenOf ((forBody ((forBody ((defBody s_law).getD 5 (.Pass ⟨0, 0, 0, 0⟩))).getD 1 (.Pass ⟨0, 0, 0, 0⟩))).getD 0 (.Pass ⟨0, 0, 0, 0⟩))) [none, some .dr, some (.v (.d (wdD s ws vs))), some (.v (.d (qnD q))), some (.v (.d (stD st))), some (.ow (.d (.list (fs3.map faD)))), some (.v (.d (lbD b))), some (.v (.d (.int (kept : Nat)))), some (.v (.d (.int (j0 : Nat)))), none, none, none, none] δ5 (loopO (fun ρ' _ => ∃ (fs3 : List Fact) (o8 : Option Dl.Arg), ρ' = [none, some .dr, some (.v (.d (wdD s ws vs))), some (.v (.d (qnD q))), some (.v (.d (stD st))), some (.ow (.d (.list (fs3.map faD)))), some (.v (.d (lbD b))), some (.v (.d (.int (kept : Nat)))), o8, none, none, none, none] ∧ (∀ g ∈ fs3, g ∈ st) ∧ (∀ g ∈ fs2, g ∈ fs3) ∧ (kept < j0 + 1 → (b.1.1, b.2[kept]) ∈ fs3) ∧ fs3.length ≤ fs2.length + (j0 + 1)) (loopO (fun ρ' _ => ∃ (fs2 : List Fact) (o6 o7 o8 : Option Dl.Arg), ρ' = [none, some .dr, some (.v (.d (wdD s ws vs))), some (.v (.d (qnD q))), some (.v (.d (stD st))), some (.ow (.d (.list (fs2.map faD)))), o6, o7, o8, none, none, none, none] ∧ (∀ g ∈ fs2, g ∈ st) ∧ (∀ b ∈ bs.take (i + 1), ∃ r ∈ b.2, (b.1.1, r) ∈ fs2) ∧ fs2.length ≤ 7 * (i + 1)) fun o => thenO o (fun ρ' δ' => SS (BX P w K mg base N_law "law" s_law f cdv A outer sh H E) ⟨some p, []⟩ ((defBody s_law).drop 6) ρ' δ' okEnd) okEnd)) := fun δ5 => by
        refine ss_one (se_append 5 rfl (ee_tup (ea_cons (ee_ixT (ee_var 6 rfl (ee_int ⟨.str b.1.1, rfl, ea_one (ee_ixT (ee_ixT (ee_var 6 rfl (ee_int ⟨rowsD b.2, rfl, ee_var 8 rfl ⟨rowD b.2[j0], at_map (List.getElem?_eq_getElem hjb), ?_, ?_⟩⟩))))⟩))))))
        · rw [List.length_map, sizeLine_eq]
          omega
        · refine ⟨fs3 ++ [(b.1.1, b.2[j0])], _, by rw [List.map_append]; rfl, fun g hg => ?_, fun g hg => List.mem_append_left _ (h2 g hg), fun h => ?_, ?_⟩
          · rcases List.mem_append.mp hg with h | h
            · exact h1 g h
            · rw [List.mem_singleton] at h
              rw [h]
              exact (hbr _ (List.getElem_mem hjb)).1
          · rcases Nat.lt_succ_iff_lt_or_eq.mp h with h | h
            · exact List.mem_append_left _ (h3 h)
            · subst h
              exact List.mem_append_right _ (List.mem_singleton_self _)
          · rw [List.length_append]
            show _ + 1 ≤ _
            omega
      refine ss_one (se_if (et_w (ew_or (et_eq hr (ee_var 8 rfl (ee_var 7 rfl ⟨okD_int _, okD_int _, ?_⟩))))))
      rw [int_eqv]
      by_cases hjk : ((j0 : Nat) : Int) = ((kept : Nat) : Int)
      · rw [decide_eq_true hjk]
        exact add _
      · rw [decide_eq_false hjk]
        refine ew_or1 (et_eq hr (ee_take F hr (ee_var 1 rfl ⟨rfl, ee_int ⟨2, rfl, by decide, fun n δ6 hn => ee_int ⟨okD_int _, okD_int _, ?_⟩⟩⟩)))
        rw [int_eqv]
        by_cases hn0 : ((n : Nat) : Int) = 0
        · rw [if_pos (decide_eq_true hn0)]
          exact add _
        · rw [if_neg (by rw [decide_eq_false hn0]; exact Bool.false_ne_true)]
          exact ss_nil ⟨fs3, _, rfl, h1, h2, fun h => h3 (by omega), by omega⟩
    · rintro ρ' δ' ⟨fs3, o8', rfl, h1, h2, h3, h4⟩
      rw [List.length_range] at h3 h4
      refine ⟨fs3, _, _, _, rfl, h1, fun b' hb' => ?_, by omega⟩
      rw [List.take_succ, hb] at hb'
      rcases List.mem_append.mp hb' with h | h
      · obtain ⟨r, hr1, hr2⟩ := hkp b' h
        exact ⟨r, hr1, h2 _ hr2⟩
      · have : b' = b := by simpa using h
        subst this
        exact ⟨_, List.getElem_mem hk, h3 hk⟩
  · rintro ρ' δ' ⟨fs2, o6, o7, o8, rfl, hsub, hkp, hl2⟩
    rw [List.take_length] at hkp
    refine ss_frz 5 rfl ?_
    refine ss_cons (se_set 9 (ee_callP (df_store F) hr (ea_one (ee_var 5 rfl ⟨rfl, fs2, rfl, ?_, fun g hg => smRow (hfo2 g (hsub g hg)), fun fw hnd2 hmem2 hlen2 => ?_⟩))) sc_law.nd)
    · show _ < 5000
      omega
    have hF : Fewer s st fw := fewer_of hbs hsub hkp hmem2
    have hA2 : Asked s fw q wd := asked_of hw hnd2 (Nat.le_trans (nodup_len hnd2 hF.sub) h7) (fun g hg => hfo2 g (hF.sub g hg)) hq (by decide) hwd
    refine ss_cons (se_set 10 (ee_callP (df_sure_rows F) hr (ea_cons (ee_ixL (ee_var 2 rfl (ee_int ⟨scD s, rfl, ea_cons (ee_var 4 rfl (ea_one (ee_var 3 rfl ⟨rfl, s, st, q, wd, rfl, hA, fun su hsu hsm => ?_⟩)))⟩))))) sc_law.nd)
    refine ss_cons (se_set 11 (ee_callP (df_possible_rows F) hr (ea_cons (ee_ixL (ee_var 2 rfl (ee_int ⟨scD s, rfl, ea_cons (ee_var 4 rfl (ea_one (ee_var 3 rfl ⟨rfl, s, st, q, wd, rfl, hA, fun po hpo hpm => ?_⟩)))⟩))))) sc_law.nd)
    refine ss_cons (se_if (et_not (et_val (ee_callP (df_lies_in F) hr (ea_cons (ee_var 10 rfl (ea_one (ee_callP (df_sure_rows F) hr (ea_cons (ee_ixL (ee_var 2 rfl (ee_int ⟨scD s, rfl, ea_cons (ee_var 9 rfl (ea_one (ee_var 3 rfl ⟨rfl, s, fw, q, wd, rfl, hA2, fun su2 hsu2 hsm2 => ⟨rfl, su, su2, rfl, hsm, fun r hr1 => (hsu2 r).mpr (((hsu r).mp hr1).fewer hA hF), ?_⟩⟩)))⟩))))))))))))
    show (if (!true) = true then _ else _)
    rw [if_neg (by decide)]
    refine ss_nil ?_
    refine ss_cons (se_if (et_not (et_val (ee_callP (df_lies_in F) hr (ea_cons (ee_callP (df_possible_rows F) hr (ea_cons (ee_ixL (ee_var 2 rfl (ee_int ⟨scD s, rfl, ea_cons (ee_var 9 rfl (ea_one (ee_var 3 rfl ⟨rfl, s, fw, q, wd, rfl, hA2, fun po2 hpo2 hpm2 => ea_one (ee_var 11 rfl ⟨rfl, po2, po, rfl, hpm2, fun r hr1 => (hpo r).mpr (((hpo2 r).mp hr1).fewer hF), ?_⟩)⟩)))⟩))))))))))
    show (if (!true) = true then _ else _)
    rw [if_neg (by decide)]
    refine ss_nil ?_
    refine ss_cons (se_set 12 (ee_tup (ea_cons (ee_ixT (ee_var 3 rfl (ee_int ⟨.int q.1, rfl, ea_one (ee_addT (ee_ixT (ee_var 3 rfl (ee_int ⟨.tuple (q.2.map jnD), rfl, ee_tup (ea_one (ee_callD (df_join F) hr (ea_cons (ee_var 1 rfl (ea_cons (ee_var 2 rfl (ea_cons (ee_ixT (ee_var 3 rfl (ee_int ⟨.int q.1, rfl, ea_one (ee_bl ⟨rfl, rfl, s, ws, vs, wd, false, ?_, hw, hwd, fun j δ5 hj => ⟨?_, ?_⟩⟩)⟩))))))))))⟩))))⟩))))) sc_law.nd)
    · rw [hq.wid]
    · rw [List.length_map, sizeLine_eq]
      have := hq.num
      show _ + 1 ≤ _
      omega
    have hq3 : QLk s wd 3 (q.1, q.2 ++ [j]) := ⟨hq.wid, by rw [List.length_append]; exact Nat.add_le_add_right hq.num 1, fun j' hj' => by
      rcases List.mem_append.mp hj' with h | h
      · exact hq.jn j' h
      · rw [List.mem_singleton] at h
        rw [h]
        exact hj⟩
    have hA3 : Asked s st (q.1, q.2 ++ [j]) wd := asked_of hw hnd h7 hfo2 hq3 (by decide) hwd
    have hmore : ∀ j' ∈ q.2, j' ∈ ((q.1, q.2 ++ [j]) : Qn).2 := fun j' h => List.mem_append_left _ h
    have eq3 : [Arg.v (.d (scD s)), .v (.d (stD st)), .v (.d (.tuple [.int q.1, .tuple (q.2.map jnD ++ [jnD j])]))] = [.v (.d (scD s)), .v (.d (stD st)), .v (.d (qnD (q.1, q.2 ++ [j])))] := by
      unfold qnD
      rw [List.map_append]
      rfl
    refine ss_cons (se_if (et_not (et_val (ee_callP (df_lies_in F) hr (ea_cons (ee_var 10 rfl (ea_one (ee_callP (df_sure_rows F) hr (ea_cons (ee_ixL (ee_var 2 rfl (ee_int ⟨scD s, rfl, ea_cons (ee_var 4 rfl (ea_one (ee_var 12 rfl ⟨rfl, s, st, _, wd, eq3, hA3, fun su3 hsu3 hsm3 => ⟨rfl, su, su3, rfl, hsm, fun r hr1 => (hsu3 r).mpr (((hsu r).mp hr1).more hmore), ?_⟩⟩)))⟩))))))))))))
    show (if (!true) = true then _ else _)
    rw [if_neg (by decide)]
    refine ss_nil ?_
    exact ss_one (se_ret (ee_callP (df_lies_in F) hr (ea_cons (ee_var 11 rfl (ea_one (ee_callP (df_possible_rows F) hr (ea_cons (ee_ixL (ee_var 2 rfl (ee_int ⟨scD s, rfl, ea_cons (ee_var 4 rfl (ea_one (ee_var 12 rfl ⟨rfl, s, st, _, wd, eq3, hA3, fun po3 hpo3 hpm3 => ⟨rfl, po, po3, rfl, hpm, fun r hr1 => (hpo3 r).mpr (((hpo r).mp hr1).more hmore), rfl⟩⟩)))⟩))))))))))
theorem law_fn (F : Facts K mg) {f : Addr} {fd : FuncData} (F1 : Fun K "law" "law" s_law f fd) : FnOk P w K mg base CX0 40 f fd ["_law_script"] (spLaw K) := by
  refine F1.ok sc_law (fun vs H Q E ⟨a, ns, e, _⟩ => by rw [e]; rfl) (fun cdv A outer s H vs Q E hr h => ?_)
  obtain ⟨a, ns, rfl, hS, h63, hq⟩ := h
  have m : Pm ⟨P, w, K⟩ 1 ⟨none, []⟩ [.v (.d (intsD ns))] [] [.ref a] H := ⟨fun b hb => (by cases hb), fun b hb => (by cases hb), .cons (show Rp K (cut H []) (.ref a) (intsD ns) from .lst (seqL_cut hS) (rp_ints ns)) .nil, rfl, rfl⟩
  exact ⟨_, pss_draws 1 13 (R := fun _ => True) (ρ := rho0 [.v (.d (intsD ns))] 13) (c := ⟨none, []⟩) (δ := []) (ee_callP (df_law_draws F) hr (ea_cons (ee_var 0 rfl (ea_one (ee_int ⟨rfl, ns, rfl, h63, fun ms => ⟨ms, rfl, fun p => law_walk F f cdv A outer s H E hr p ms⟩⟩))))) rfl (by decide) sc_law.nd, _, gd_start m N_law (by decide), fun H' => hq H'⟩
end
end Em
/-! part em28 -/
set_option Elab.async false
set_option linter.all false
set_option maxRecDepth 100000
set_option maxHeartbeats 4000000
set_option autoImplicit false
namespace Em
open PySem PySem.Spec PySem.Calls PyProof.Rows L2 Dl
theorem law_of {K : PySem.W.Frag} {P : Program} {w : World} {mg : Str → Option Value} (F : Facts K mg) {f : Addr} (e : mg "law" = some (.ref f)) : ∃ fd, (∀ (s : Shared) (v : Value), BindsTo s fd ⟨[v], []⟩ [("_law_script", v)]) ∧ ∀ base : Heap, K.In base → base.Ns mainGlobals mg → FnOk P w K mg base CX0 40 f fd ["_law_script"] (spLaw K) := by
  obtain ⟨f', fd, F1, hm⟩ := F.d_law
  have ef : f' = f := by
    rw [hm] at e
    cases e
    rfl
  subst ef
  refine ⟨fd, ?_, fun base _ _ => law_fn F F1⟩
  obtain ⟨oc, od, kV, doc, pm, an, cdv, ct, osl, rfl, lk, hcd⟩ := F1.ex
  exact fun s v => .of_eq rfl
end Em
open PySem PySem.W PyProof.Rows
set_option maxHeartbeats 0 in
theorem PySem.Challenge.cw_everymending_k83_whole_fewer_rivals_holds : PySem.Challenge.rw_everymending_k83_whole_fewer_rivals.Holds := by
  w_on; o_law; k_head; (case hw => w_witness2)
  k_fill
  refine L2.walk_of (l := PySem.Challenge.rw_everymending_k83_whole_fewer_rivals) (n := 63) (k := 40) (x := "_law_script") (CX := fun _ => L2.CX0) (sp := fun w => Em.spLaw _) rfl (by decide) rfl ⟨rfl, by decide, by decide⟩ (fun w h Y => PySem.W.kIn_of Y) ?F (fun _ _ a ns hl _ hS => ⟨a, ns, rfl, hS, hl, fun _ => rfl⟩) (fun _ _ _ _ _ h => h)
  case F =>
    intro w mg fa h KX G hmg
    refine Em.law_of (Em.Facts.mk ?d0 ?d1 ?d2 ?d3 ?d4 ?d5 ?d6 ?d7 ?d8 ?d9 ?d10 ?d11 ?d12 ?d13 ?d14 ?d15 ?d16 ?d17 ?d18 ?d19 ?d20 ?d21 ?d22 ?d23 ?d24 ?d25 ?d26 ?d27 ?d28 ?d29 ?d30 ?d31 ?d32 ?d33 ?d34 ?d35 ?d36 ?d37 ?d38 ?d39 ?d40 ?d41 ?d42 ?d43 ?d44 ?d45 ?d46 ?d47 ?d48 ?d49 ?d50 ?d51 ?d52 ?d53 (PySem.W.mg_none_of KX G ?z0) (PySem.W.mg_none_of KX G ?z1) (PySem.W.mg_none_of KX G ?z2) (PySem.W.mg_none_of KX G ?z3) (PySem.W.mg_none_of KX G ?z4) (PySem.W.mg_none_of KX G ?z5) (PySem.W.mg_none_of KX G ?z6) (PySem.W.mg_none_of KX G ?z7) (PySem.W.mg_none_of KX G ?z8) (PySem.W.mg_none_of KX G ?z9)) hmg
    case d0 =>
      apply Em.stands_mk KX G
      case a => k_is
      case l => k_is
      case c => k_is
      case k => k_is
    case d1 =>
      apply Em.stands_mk KX G
      case a => k_is
      case l => k_is
      case c => k_is
      case k => k_is
    case d2 =>
      apply Em.stands_mk KX G
      case a => k_is
      case l => k_is
      case c => k_is
      case k => k_is
    case d3 =>
      apply Em.stands_mk KX G
      case a => k_is
      case l => k_is
      case c => k_is
      case k => k_is
    case d4 =>
      apply Em.stands_mk KX G
      case a => k_is
      case l => k_is
      case c => k_is
      case k => k_is
    case d5 =>
      apply Em.stands_mk KX G
      case a => k_is
      case l => k_is
      case c => k_is
      case k => k_is
    case d6 =>
      apply Em.stands_mk KX G
      case a => k_is
      case l => k_is
      case c => k_is
      case k => k_is
    case d7 =>
      apply Em.stands_mk KX G
      case a => k_is
      case l => k_is
      case c => k_is
      case k => k_is
    case d8 =>
      apply Em.stands_mk KX G
      case a => k_is
      case l => k_is
      case c => k_is
      case k => k_is
    case d9 =>
      apply Em.stands_mk KX G
      case a => k_is
      case l => k_is
      case c => k_is
      case k => k_is
    case d10 =>
      apply Em.stands_mk KX G
      case a => k_is
      case l => k_is
      case c => k_is
      case k => k_is
    case d11 =>
      apply Em.stands_mk KX G
      case a => k_is
      case l => k_is
      case c => k_is
      case k => k_is
    case d12 =>
      apply Em.stands_mk KX G
      case a => k_is
      case l => k_is
      case c => k_is
      case k => k_is
    case d13 =>
      apply Em.stands_mk KX G
      case a => k_is
      case l => k_is
      case c => k_is
      case k => k_is
    case d14 =>
      apply Em.stands_mk KX G
      case a => k_is
      case l => k_is
      case c => k_is
      case k => k_is
    case d15 =>
      apply Em.stands_mk KX G
      case a => k_is
      case l => k_is
      case c => k_is
      case k => k_is
    case d16 =>
      apply Em.stands_mk KX G
      case a => k_is
      case l => k_is
      case c => k_is
      case k => k_is
    case d17 =>
      apply Em.stands_mk KX G
      case a => k_is
      case l => k_is
      case c => k_is
      case k => k_is
    case d18 =>
      apply Em.stands_mk KX G
      case a => k_is
      case l => k_is
      case c => k_is
      case k => k_is
    case d19 =>
      apply Em.stands_mk KX G
      case a => k_is
      case l => k_is
      case c => k_is
      case k => k_is
    case d20 =>
      apply Em.stands_mk KX G
      case a => k_is
      case l => k_is
      case c => k_is
      case k => k_is
    case d21 =>
      apply Em.stands_mk KX G
      case a => k_is
      case l => k_is
      case c => k_is
      case k => k_is
    case d22 =>
      apply Em.stands_mk KX G
      case a => k_is
      case l => k_is
      case c => k_is
      case k => k_is
    case d23 =>
      apply Em.stands_mk KX G
      case a => k_is
      case l => k_is
      case c => k_is
      case k => k_is
    case d24 =>
      apply Em.stands_mk KX G
      case a => k_is
      case l => k_is
      case c => k_is
      case k => k_is
    case d25 =>
      apply Em.stands_mk KX G
      case a => k_is
      case l => k_is
      case c => k_is
      case k => k_is
    case d26 =>
      apply Em.stands_mk KX G
      case a => k_is
      case l => k_is
      case c => k_is
      case k => k_is
    case d27 =>
      apply Em.stands_mk KX G
      case a => k_is
      case l => k_is
      case c => k_is
      case k => k_is
    case d28 =>
      apply Em.stands_mk KX G
      case a => k_is
      case l => k_is
      case c => k_is
      case k => k_is
    case d29 =>
      apply Em.stands_mk KX G
      case a => k_is
      case l => k_is
      case c => k_is
      case k => k_is
    case d30 =>
      apply Em.stands_mk KX G
      case a => k_is
      case l => k_is
      case c => k_is
      case k => k_is
    case d31 =>
      apply Em.stands_mk KX G
      case a => k_is
      case l => k_is
      case c => k_is
      case k => k_is
    case d32 =>
      apply Em.stands_mk KX G
      case a => k_is
      case l => k_is
      case c => k_is
      case k => k_is
    case d33 =>
      apply Em.stands_mk KX G
      case a => k_is
      case l => k_is
      case c => k_is
      case k => k_is
    case d34 =>
      apply Em.stands_mk KX G
      case a => k_is
      case l => k_is
      case c => k_is
      case k => k_is
    case d35 =>
      apply Em.stands_mk KX G
      case a => k_is
      case l => k_is
      case c => k_is
      case k => k_is
    case d36 =>
      apply Em.stands_mk KX G
      case a => k_is
      case l => k_is
      case c => k_is
      case k => k_is
    case d37 =>
      apply Em.stands_mk KX G
      case a => k_is
      case l => k_is
      case c => k_is
      case k => k_is
    case d38 =>
      apply Em.stands_mk KX G
      case a => k_is
      case l => k_is
      case c => k_is
      case k => k_is
    case d39 =>
      apply Em.stands_mk KX G
      case a => k_is
      case l => k_is
      case c => k_is
      case k => k_is
    case d40 =>
      apply Em.stands_mk KX G
      case a => k_is
      case l => k_is
      case c => k_is
      case k => k_is
    case d41 =>
      apply Em.stands_mk KX G
      case a => k_is
      case l => k_is
      case c => k_is
      case k => k_is
    case d42 =>
      apply Em.stands_mk KX G
      case a => k_is
      case l => k_is
      case c => k_is
      case k => k_is
    case d43 =>
      apply Em.stands_mk KX G
      case a => k_is
      case l => k_is
      case c => k_is
      case k => k_is
    case d44 =>
      apply Em.stands_mk KX G
      case a => k_is
      case l => k_is
      case c => k_is
      case k => k_is
    case d45 =>
      apply Em.stands_mk KX G
      case a => k_is
      case l => k_is
      case c => k_is
      case k => k_is
    case d46 =>
      apply Em.stands_mk KX G
      case a => k_is
      case l => k_is
      case c => k_is
      case k => k_is
    case d47 =>
      apply Em.stands_mk KX G
      case a => k_is
      case l => k_is
      case c => k_is
      case k => k_is
    case d48 =>
      apply Em.stands_mk KX G
      case a => k_is
      case l => k_is
      case c => k_is
      case k => k_is
    case d49 =>
      apply Em.stands_mk KX G
      case a => k_is
      case l => k_is
      case c => k_is
      case k => k_is
    case d50 =>
      apply Em.stands_mk KX G
      case a => k_is
      case l => k_is
      case c => k_is
      case k => k_is
    case d51 =>
      apply Em.stands_mk KX G
      case a => k_is
      case l => k_is
      case c => k_is
      case k => k_is
    case d52 =>
      apply Em.stands_mk KX G
      case a => k_is
      case l => k_is
      case c => k_is
      case k => k_is
    case d53 =>
      apply Em.stands_mk KX G
      case a => k_is
      case l => k_is
      case c => k_is
      case k => k_is
    case z0 => k_is
    case z1 => k_is
    case z2 => k_is
    case z3 => k_is
    case z4 => k_is
    case z5 => k_is
    case z6 => k_is
    case z7 => k_is
    case z8 => k_is
    case z9 => k_is
